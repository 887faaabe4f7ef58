/- What is proved: the law WordsNames returns true for every input. Conditions: none beyond the card's own.
   Texts: V20, V21, Shell, Shell2, Shell3, V22, V23, V30, SP, V31, V24, V25, V26, VV, V52, V27, V28, V32, V33, V29, V40, V34, V35, V36, V41, V37, V38, V39, V42, V43, V44, V45, V46, V47, V51, V55, V50, V53.
-/
import Derived.Test.YtimmmnanllcfoaaDoorPart3
import Derived.ChangeSame
import Derived.ChangeReads
import Derived.ChangeSlices
import Derived.SliceStrings
import Derived.ChangeShapes
import Derived.WideShapes
import Derived.ProofKit
import Derived.OpenShut
import Derived.SizedLaws
import Derived.WalkSmall
import Derived.Lib.LaidTab
import Derived.Sort.Grow
import Derived.Shelf.Strconv.Itoa3
import Derived.Lib.AtoiAll
import Derived.Lib.AtoiErrMem
import Derived.Lib.Replace
import Derived.Lib.ItoaNum
import Derived.Lib.Atoi
import Derived.Lib.AtoiTie
import Derived.Lib.Join
import Derived.HandedShaped
import Derived.Shelf.Vars
namespace Go.Itp
theorem bd {a b:Bool} (h:a=b):a=b:=h
set_option linter.unusedVariables false
set_option linter.constructorNameAsVariable false
section
variable {C:D7} {st:m8} {fr:E8}
theorem N8 (t ty e:Nat) (h:d9 fr t=some (.sc (.slice none 0 0))):N4 C fr st (sH fr t (.gr 2 st.next 0)) ⟨(st.next,.gro ty e false [])::st.own,st.next+1,st.ro⟩:=
 (TO fr ty e).trans (P4 h (RJ (t:=ty) (e:=e) (z:=false) (Nat.lt_succ_self _)))
theorem rX (o t' e' k ty e:Nat) {l:List V} (h:d9 st.own o=some (.box t' e' l)) (hk:l[k]? =some (.sc (.slice none 0 0))) (ho:o ≠ st.next):
  N4 C fr st fr ⟨A3 ((st.next,.gro ty e false [])::st.own) o (.box t' e' (l.set k (.gr 2 st.next 0))),st.next+1,st.ro⟩:=by
 refine (TO fr ty e).trans (uG (C:=C) (fr:=fr) (st:=⟨(st.next,.gro ty e false [])::st.own,st.next+1,st.ro⟩) (v:= .sc (.slice none 0 0)) (v':= .gr 2 st.next 0) ?_ hk (RJ (t:=ty) (e:=e) (z:=false) (Nat.lt_succ_self _)))
 simp only
 rw[l6,if_neg ho]
 exact h
theorem v6 (ρ:List (Nat × Nat)) (k:Nat) {fr':E8} {st':m8} (h0:C.w0.nx=0) (hr:st.ro=0) (hk:PU 0 0 k ρ=true) (hf:AI ρ fr=fr') (hs:(⟨DE ρ st.own ρ,k,0⟩:m8)=st'):N4 C fr st fr' st':=by
 have:=TP (C:=C) (st:=st) ρ k (fr:=fr) (by omega) (by rw[h0,hr];exact hk)
 rw[hr,hs,hf] at this
 exact this
theorem aY5 (ρ:List (Nat × Nat)):AI ρ []= []:=(rfl)
theorem aI4 (ρ:List (Nat × Nat)) (t:Nat) (v:V) (r:E8):AI ρ ((t,v)::r)=(t,bS ρ v)::AI ρ r:=(rfl)
end
theorem m7.at {E:F7} {f:FuncId} {xs:List V} {v:V} {st1:m8} (h:m7 E f xs v st1) (hf:x7 v=true) (st:m8) (hs:K7 st.own xs=some xs):J9 E f st xs v:=h.flat hf hs
theorem m7.of {C:D7} {E:F7} (hC:C.E=E) {f:FuncId} {xs:List V} {v:V} {st1:m8} (h:m7 E f xs v st1) (hf:x7 v=true) (st:m8) (hs:K7 st.own xs=some xs):J9 C.E f st xs v:=by
 rw[hC];exact h.flat hf hs
theorem oZ {H:F3} {v:V} (hcl:Cl H v) (hb:∀ o ob,d9 H o=some ob→(match ob with| .box _ _ _=>false|_=>true)=true) (hv:∀ o ob,d9 H o=some ob→o ∈ aT v):cY H v:=
 ⟨hcl,(fun o t e l h=>by have:=hb o _ h;cases this),(fun o ob h _=>VR.root o (hv o ob h))⟩
theorem gB {v:V} (hcl:Cl [] v):cY [] v:=⟨hcl,(fun o t e l h=>by cases h),(fun o ob h=>by cases h)⟩
theorem PN {α β:Type} {f:α→β} {l:List α} {n:Nat} (h:n=l.length):n=0↔l.map f= []:=by
 subst h
 cases l<;>simp
theorem eZ {α:Type} {i o:Nat} {v u:α} (h:d9 [(i,v)] o=some u):o=i∧u=v:=by
 rw[l6] at h
 split at h
 ·rename_i e;cases h;exact ⟨e,rfl⟩
 ·cases h
theorem RB {t e n s:Nat} {z:Bool} {l:List D} (h:n=0↔l= []):cY [(0,.gro t e z l)] (.gr s 0 n):=by
 refine oZ ?_ (fun o ob ho=>by rw[(eZ ho).2]) (fun o ob ho=>by rw[(eZ ho).1];simp[aT])
 simp only[Cl]
 exact ⟨t,e,z,l,rfl,h⟩
end Go.Itp
namespace Go.Itp
set_option linter.unusedVariables false
set_option linter.constructorNameAsVariable false
def yY (s:Nat):Nat:=if Nat.beq s 0 then 0 else 3
theorem ZB:yY 0=0:=(rfl)
theorem ZE:yY 3=3:=(rfl)
theorem ZD:yY 2=3:=(rfl)
theorem ZC:yY 1=3:=(rfl)
theorem IW (k:IntKind) (z:Int) (d n:Nat) (h0:0≤z) (h1:z≤n):u6 (some (.int k z)) d n=some z.toNat:=by
 simp only[u6]
 rw[if_pos ⟨h0,h1⟩]
theorem IE (e s n:Nat) (l:List D) (k j:IntKind) (a b:Int) (h0:0≤a) (h1:a≤b) (h2:b≤n) (h4:s ≠ 1∨n ≠ 0):bT e (some (.int k a)) (some (.int j b)) none (.sl s n l)=some (.sl (yY s) (b.toNat - a.toNat) (partD l (a.toNat*e) (b.toNat*e))):=by
 simp only[bT]
 rw[if_pos (bX.2 h4)]
 simp only[tX,IW j b n n (by omega) h2,Option.bind_some,IW k a 0 b.toNat h0 (by omega)]
 rfl
theorem aC8 (e s n:Nat) (l:List D) (k:IntKind) (a:Int) (h0:0≤a) (h1:a≤n) (h4:s ≠ 1∨n ≠ 0):bT e (some (.int k a)) none none (.sl s n l)=some (.sl (yY s) (n - a.toNat) (partD l (a.toNat*e) (n*e))):=by
 simp only[bT]
 rw[if_pos (bX.2 h4)]
 have h5:tX n (some (.int k a)) none=some (a.toNat,n):=by
  have h6:u6 none n n=some n:=rfl
  simp only[tX,h6,IW k a 0 n h0 h1,Option.bind_some]
 rw[h5]
 rfl
theorem aC7 (e s n:Nat) (l:List D) (j:IntKind) (b:Int) (h1:0≤b) (h2:b≤n) (h4:s ≠ 1∨n ≠ 0):bT e none (some (.int j b)) none (.sl s n l)=some (.sl (yY s) b.toNat (partD l 0 (b.toNat*e))):=by
 simp only[bT]
 rw[if_pos (bX.2 h4)]
 have h5:tX n none (some (.int j b))=some (0,b.toNat):=by
  simp only[tX,IW j b n n h1 h2,Option.bind_some]
  rfl
 rw[h5]
 simp only[Option.map_some,Nat.zero_mul,Nat.sub_zero]
 rfl
theorem GA {α:Type} (f:α→D) (l:List α) (a b:Nat):partD (l.map f) a b=((l.drop a).take (b - a)).map f:=by
 simp[partD,List.map_drop,List.map_take]
theorem wD (k j:IntKind) (a b:Int):mmV true (.sc (.int k a)) (.sc (.int j b))=some (.sc (.int k (max a b))):=by
 have h:(if b>a then b else a)=max a b:=by omega
 simp only[mmV,if_true,h]
theorem wE (k j:IntKind) (a b:Int):mmV false (.sc (.int k a)) (.sc (.int j b))=some (.sc (.int k (min a b))):=by
 have h:(if b<a then b else a)=min a b:=by omega
 simp only[mmV,Bool.false_eq_true,if_false,h]
end Go.Itp
namespace Go.Itp
open Go.RowKit (Below)
open Go.ChangeShapes Go.WideShapes
def uY (P:Program):Nat→TypeId→Bool
 |0,_=>false
 |k+1,t=>match P.underlying t with
  |some .bool=>true
  |some (.int _)=>true
  |some .string=>true
  |some (.slice e)=> !(P.cellsOf e==0) && uY P k e
  |some (.struct fs)=>fs.toList.all fun f=>uY P k f.type
  |some (.array _ e)=>uY P k e
  |_=>false
section
variable {H:Type} {enc:TypeId × Value→H} {P:Program} {w:World} {base:Nat} {held:Bool} {sp:Nat→Bool}
theorem aB9:∀ (k n:Nat) (t:TypeId) (cs:List Value) (x:DataW H × List MemPlace),uY P k t=true→DataW.trod enc P w base (fun _=>true) held n t cs=some x→(∀ p ∈ x.2,sp p.block=true)→
  DataW.trod enc P w base sp held n t cs=some x
 |0,_,_,_,_,h,_,_=>by simp[uY] at h
 |k+1,0,_,_,_,_,h,_=>by simp[DataW.trod] at h
 |k+1,n+1,t,cs,x,hf,h,hs=>by
  have ih:=fun t cs x=>aB9 k n t cs x
  rw[DataW.trod_step] at h ⊢
  unfold DataW.trodStep at h ⊢
  unfold uY at hf
  split at h
  case h_8 e a len cap hu=>
   rw[hu] at hf
   simp only[Bool.and_eq_true,Bool.not_eq_true',beq_eq_false_iff_ne] at hf
   simp only at h ⊢
   split at h
   ·rename_i hc
    rw[if_pos hc]
    simp only[Option.map_eq_some_iff,Option.bind_eq_some_iff,if_true] at h ⊢
    obtain ⟨elems,he,rest,hrest,rfl⟩:=h
    have hl1:elems.length=len:=by simpa using mapM_some_length he
    have hl2:rest.length=cap - len:=by simpa using mapM_some_length hrest
    have one:∀ (a:Addr) (y:DataW H × List MemPlace),y ∈ elems++rest→(w.cells? base a (P.cellsOf e)).bind (DataW.trod enc P w base (fun _=>true) held n e)=some y→
      (w.cells? base a (P.cellsOf e)).bind (DataW.trod enc P w base sp held n e)=some y:=by
     intro a y hy hv
     simp only[Option.bind_eq_some_iff] at hv ⊢
     obtain ⟨c,hc1,hc2⟩:=hv
     exact ⟨c,hc1,ih _ _ _ hf.2 hc2 fun p hp=>hs p (by simp only[List.mem_append,List.mem_flatMap];exact Or.inr ⟨y,by simpa using hy,hp⟩)⟩
    refine ⟨elems,mapM_carry he fun i y _ hy hv=>one _ y (by simp[hy]) hv,rest,?_,rfl⟩
    by_cases hz:elems.length+rest.length=0
    ·have:rest= []:=List.length_eq_zero_iff.1 (by omega)
     subst this
     have:cap - len=0:=by simpa using hl2.symm
     rw[this]
     split<;>simp
    ·have hb:sp a.block=true:=by
      have:=hs (.cell a.block (a.off+0)) (by
       simp only[List.mem_append]
       left
       refine MemPlace.mem_row.2 ⟨0,?_,rfl⟩
       exact Nat.mul_pos (by omega) (Nat.pos_of_ne_zero hf.1))
      simpa [MemPlace.block] using this
     rw[if_pos hb]
     exact mapM_carry hrest fun j y _ hy hv=>one _ y (by simp[hy]) hv
   ·cases h
  case h_9 fs hu=>
   rw[hu] at hf
   simp only[List.all_eq_true] at hf
   split at h
   ·rename_i hc
    rw[if_pos hc]
    simp only[Option.map_eq_some_iff] at h ⊢
    obtain ⟨xs,hx,rfl⟩:=h
    exact ⟨xs,mapM_carry hx (fun f y hfm hy hv=>ih _ _ _ (hf f hfm) hv (fun p hp=>hs p (List.mem_flatMap.2 ⟨y,hy,hp⟩))),rfl⟩
   ·cases h
  case h_10 m e hu=>
   rw[hu] at hf
   split at h
   ·rename_i hc
    rw[if_pos hc]
    simp only[Option.map_eq_some_iff] at h ⊢
    obtain ⟨xs,hx,rfl⟩:=h
    exact ⟨xs,mapM_carry hx (fun f y _ hy hv=>ih _ _ _ hf hv (fun p hp=>hs p (List.mem_flatMap.2 ⟨y,hy,hp⟩))),rfl⟩
   ·cases h
  all_goals first|exact h|(exfalso;simp_all;done)|(simp_all;done)
theorem CC (k:Nat) {W W':World} (hb:Below W.heap.size W W'):∀ (ts:List TypeId) (vs:List Value) (ds:List (DataW H)) (ps:List MemPlace),ts.all (uY P k)=true→
  DataW.TrodAll enc P W base (fun _=>true) held ts vs ds ps→(∀ p ∈ ps,p.block<W.heap.size)→(∀ p ∈ ps,sp p.block=true)→DataW.TrodAll enc P W' base sp held ts vs ds ps
 | [],[],[],_,_,h,_,_=>h
 |t::ts,v::vs,d::ds,ps,hf,⟨p,q,⟨n,h1⟩,h2,e⟩,hl,hs=>by
  subst e
  simp only[List.all_cons,Bool.and_eq_true] at hf
  refine ⟨p,q,⟨n,?_⟩,CC k hb ts vs ds q hf.2 h2 (fun x hx=>hl x (by simp[hx])) (fun x hx=>hs x (by simp[hx])),rfl⟩
  refine aB9 k n _ _ _ hf.1 (DataW.trod_carry n _ _ _ h1 fun x hx=>hb.same (hl x ?_)) fun x hx=>hs x ?_
  ·simp only at hx;simp[hx]
  ·simp only at hx;simp[hx]
 | [],_::_,_,_,_,h,_,_=>by simp[DataW.TrodAll] at h
 | [],[],_::_,_,_,h,_,_=>by simp[DataW.TrodAll] at h
 |_::_,[],_,_,_,h,_,_=>by simp[DataW.TrodAll] at h
 |_::_,_::_,[],_,_,h,_,_=>by simp[DataW.TrodAll] at h
theorem aU1 {f:Func} {s:ChangeSpec} {apart fresh handsOn again:Bool} {W W':World} {args:Array Value} {ds gs:List (DataW H)} {before:List MemPlace} {rt:TypeId}
  (hW:DataW.Whole enc P f.params.toList s.vars apart W args.toList ds gs before) (hv:s.vars= []) (hfn:s.fn H ds={results:= [.lit (.bool true)],args:=ds})
  (hf:f.params.toList.all (uY P 20)=true) (hr:f.resultTypes=#[rt]) (hrt:P.underlying rt=some .bool) (hb:Below W.heap.size W W'):
  s.post enc P f apart fresh handsOn again W args (.bool true) W':=by
 have hlt:∀ p ∈ before,p.block<W.heap.size:=fun p hp=>hW.lt p hp
 have hW':=hW
 obtain ⟨pa,pv,hA,hV,hps,hz,hn⟩:=hW
 rw[hv] at hV
 obtain ⟨rfl,rfl⟩:=trodVars_none hV
 rw[List.append_nil] at hps
 subst hps
 have hd:s.fn H (ds++ [])={results:= [.lit (.bool true)],args:=ds}:=by rw[List.append_nil];exact hfn
 have hres:∀ (b:Nat) (sp:Nat→Bool) (hd:Bool),DataW.TrodAll enc P W' b sp hd f.resultTypes.toList ((Value.bool true).resultList f.resultTypes.size) (s.fn H (ds++ [])).results []:=by
  intro b sp hd'
  rw[hr,hd]
  exact ⟨[],[],⟨1,by simp[DataW.trod,hrt,Value.cells]⟩,rfl,rfl⟩
 have hargs:∀ sp:Nat→Bool,(∀ p ∈ before,sp p.block=true)→DataW.TrodAll enc P W' 0 sp true f.params.toList args.toList (s.fn H (ds++ [])).args before:=fun sp hsp=>by rw[hd];exact CC 20 hb _ _ _ _ hf hA hlt hsp
 have hold:∀ p ∈ before,(fun b=>decide (b<W.heap.size)) p.block=true:=fun p hp=>by simpa using hlt p hp
 have hvars:∀ sp,DataW.TrodVars enc P W' sp s.vars (s.fn H (ds++ [])).vars []:=fun sp=>by rw[hv,hd];rfl
 refine ⟨ds,[],before,[],before,[],hW',hres _ _ _,hargs _ hold,hvars _,World.keptBut_mono (fun p hp=>⟨hp,?_⟩) (hb.frame (· ∈ before)),fun _=>?_⟩
 ·exact Or.inr (Or.inl hp)
 ·refine ⟨?_,_,_,([]++before)++ [],⟨[]++before,[],trodAll_append (hargs _ (fun _ _=>rfl)) (hres _ _ _),hvars _,rfl,?_,?_⟩,?_⟩
  ·intro j t r h1 h2
   rw[hr] at h1 h2
   have hj:j=0:=by
    rcases Nat.lt_or_ge j 1 with h|h
    ·omega
    ·rw[Array.getElem?_eq_none (by simpa using h)] at h1;cases h1
   subst hj
   simp at h1 h2
   subst h1
   have h2':r= .bool true:=by
    have:(Value.bool true).resultList 1= [.bool true]:=rfl
    rw[this] at h2;simpa using h2.symm
   subst h2'
   exact Go.RowKit.okWide_bool_mk hrt true
  ·intro b off hp
   have hin:MemPlace.cell b off ∈ before:=by simpa using hp
   rw[hb.frozen (hlt _ hin)]
   exact hz b off hin
  ·intro ha;simpa using hn ha
  ·intro p hp _;simpa using hp
end
end Go.Itp
namespace Go.Itp
open Go.ChangeShapes Go.WideShapes
section
variable {H:Type} {enc:TypeId × Value→H} {P:Program} {W:World} {base:Nat} {held:Bool}
end
section
variable {H:Type} {enc:TypeId × Value→H} {P:Program} {W:World} {base:Nat} {held:Bool}
end
section
variable {H:Type} {enc:TypeId × Value→H} {P:Program} {W:World} {base:Nat} {held:Bool}
end
set_option linter.unusedVariables false
set_option linter.unusedSimpArgs false
section
variable {H:Type} {enc:TypeId × Value→H} {P:Program} {W:World} {base:Nat} {held:Bool}
end
end Go.Itp
namespace Go.Itp
set_option linter.unusedVariables false
section
variable {old:Nat→Nat→Option Value} {rounds:Nat} {fns:FuncId→Option s6} {prims:FuncId→List Value→St→Option (Value × List w9)} {n:Nat} {xs:List V} {af:s6}
abbrev cI5 (old:Nat→Nat→Option Value):VW:=⟨fun a=>match a.spot with|none=>old a.block a.off|some _=>none,fun _=>False,fun _=>none,0⟩
theorem MA (E:F7) (h:E.old=old):n6 E ([]:l5)=(cI5 old).ld:=by
 funext a
 obtain ⟨b,o,sp⟩:=a
 subst h
 rcases sp with _|_|k<;>rfl
theorem cF3 {xsI:List Value} {x:Value} (hlen:xs.length≤af.n) (hx:d8 (cI5 old) xs xsI)
  (h:∀ C:D7,C.E=w8 old rounds fns prims n→C.w0.nx=0→gC C af.code [] (V4 0 xs) ⟨[],0,0⟩ (sE C af.res (.sc x) ⟨[],0,0⟩)):∃ s',body (w8 old rounds fns prims n) af xsI St.empty=some (x,s'):=by
 let C:D7:=C1 (w8 old rounds fns prims n) St.empty (ZJ (w8 old rounds fns prims n) [] fun _=>False)
 have hs:SR C ⟨[],0,0⟩ ⟨St.empty.heap,St.empty.next,St.empty.next⟩ (fun _=>none) fun _=>False:=SR.start (fun b hb=>hb.elim) (fun b blk e=>by simp[St.empty,g9] at e)
 have hx':d8 (w7 C ⟨[],0,0⟩ ⟨St.empty.heap,St.empty.next,St.empty.next⟩ (fun _=>none) fun _=>False) xs xsI:=by
  show d8 ⟨n6 (w8 old rounds fns prims n) ([]:l5),fun _=>False,fun _=>none,0⟩ xs xsI
  rw[MA _ (iA n)];exact hx
 obtain ⟨vI,sf,hbody,μ,G,g1,g2,g3,g4,g5⟩:=sJ (C:=C) (s:=⟨St.empty.heap,St.empty.next,St.empty.next⟩) hlen (h C rfl rfl) ⟨_,_,hs,dY 0 hx',VW.le.refl _,rfl,fun b hb=> .inl hb⟩ hx.length
 simp only[b7] at g2
 rw[g2.1] at hbody
 exact ⟨sf,hbody⟩
end
set_option linter.constructorNameAsVariable false
section
variable {old:Nat→Nat→Option Value} {rounds:Nat} {fns:FuncId→Option s6} {prims:FuncId→List Value→St→Option (Value × List w9)} {n:Nat} {f:FuncId} {xs:List V} {v:V} {st st1:m8} {af:s6} {C:D7}
theorem SR.env2 {s:St} {μ:Nat→Option Nat} {F:Nat→Prop} (h:SR C st s μ F) {C':D7} (hE:n6 C'.E=n6 C.E) (hn:C'.n0≤s.next) (hU:∀ b,(C'.U b→b<C'.n0∧g9 s.heap b=g9 C'.h0 b)∧(C'.U b→C.U b)):SR C' st s μ F:=by
 have hw:w7 C' st s μ F=w7 C st s μ F:=by
  show (⟨n6 C'.E s.heap,F,μ,st.next⟩:VW)=⟨n6 C.E s.heap,F,μ,st.next⟩
  rw[hE]
 refine ⟨fun o ob e hnn=>?_,fun o ob b e1 e2 e3=>?_,h.fz,h.inj,h.dom,h.lt,h.cl,fun b hb=>(hU b).1 hb,hn,h.own,h.hb,h.pr,h.pb⟩
 ·rw[hw];exact h.obj o ob e hnn
 ·obtain ⟨q1,q2⟩:=h.wr o ob b e1 e2 e3
  exact ⟨q1,fun hr=>⟨(q2 hr).1,fun hu=>(q2 hr).2 ((hU b).2 hu)⟩⟩
theorem JA {Q:V→m8→Prop} (hC:C.E=w8 old rounds fns prims (n+1)) (hf:fns f=some af) (hpu:af.pure=false) (hp:∀ xs s,prims f xs s=none) (hlen:xs.length≤af.n) (hq:Q v st1)
  (h:∀ C':D7,C'.E=w8 old rounds fns prims n→C'.w0.nx=st.next→gC C' af.code [] (V4 0 xs) st (sE C' af.res v st1)):X3 C f xs st Q:=by
 refine ⟨v,st1,hq,fun s μ F xsI hsr hx hpr=>?_⟩
 let C':D7:=⟨w8 old rounds fns prims n,s.next,s.heap,C.U,⟨n6 (w8 old rounds fns prims n) s.heap,F,μ,st.next⟩,C.p0⟩
 have hE:n6 C'.E=n6 C.E:=by rw[hC];exact X5 _ _
 have hs':SR C' st s μ F:=hsr.env2 hE (Nat.le_refl _) (fun b=>⟨fun hb=>⟨by have:=(hsr.un b hb).1;have:=hsr.n0;show b<s.next;omega,rfl⟩,fun hb=>hb⟩)
 have hx':d8 (w7 C' st s μ F) xs xsI:=by
  show d8 ⟨n6 C'.E s.heap,F,μ,st.next⟩ xs xsI
  rw[hE];exact hx
 obtain ⟨vI,sf,hbody,μ',G,g1,g2,g3,g4,g5⟩:=sJ (C:=C') (s:=s) hlen (h C' rfl rfl) ⟨μ,F,hs',dY 0 hx',VW.le.refl _,hpr,fun b hb=> .inl hb⟩ hx.length
 have hn:s.next≤sf.next:=g1.n0
 have hw:w7 C st1 sf μ' G=w7 C' st1 sf μ' G:=by
  show (⟨n6 C.E sf.heap,G,μ',st1.next⟩:VW)=⟨n6 C'.E sf.heap,G,μ',st1.next⟩
  rw[hE]
 have g1':SR C st1 sf μ' G:=g1.env2 hE.symm (by have:=hsr.n0;omega) (fun b=>⟨fun hb=>⟨(hsr.un b hb).1,by rw[(g1.un b hb).2];exact (hsr.un b hb).2⟩,fun hb=>hb⟩)
 refine ⟨vI,sf,μ',G,?_,g1',by rw[hw];exact g2,?_,by rw[g4,hpr],hn,fun b hb=>?_⟩
 ·simp only[callI,hC,N1,uQ,hp,hf,Option.bind_some,hpu]
  exact hbody
 ·rw[hw]
  show VW.le ⟨n6 C.E s.heap,F,μ,st.next⟩ _
  rw[← hE];exact g3
 ·rcases g5 b hb with hb|hb
  ·exact .inl hb
  ·exact .inr (by rw[hpr];exact hb)
end
def aY3 (c:Nat):Obj:= .row c 0 true false []
section
variable {C:D7} {st:m8} {s:St} {μ:Nat→Option Nat} {F:Nat→Prop}
theorem W2:∀ H:F3,A1 [] H=H
 | []=>rfl
 |(j,o)::r=>by rw[eJ,W2 r];rfl
theorem SR.recd (h:SR C st s μ F) {o c:Nat} (ho:d9 st.own o=some (aY3 c)):∃ b blk,μ o=some b∧g9 s.heap b=some blk∧blk.esz=0∧blk.grow=true∧blk.ty=c:=by
 obtain ⟨b,blk,h1,h2,h3⟩:=h.obj o _ ho rfl
 exact ⟨b,blk,h1,h2,h3.1,h3.2.1,h3.2.2.1⟩
theorem SR.setRec (h:SR C st s μ F) {o b c:Nat} (ho:d9 st.own o=some (aY3 c)) (hro:st.ro≤o) (hμ:μ o=some b) (c':Nat):
  SR C ⟨A3 st.own o (aY3 c'),st.next,st.ro⟩ {s with heap:=P5 s.heap b (Q7 c')} μ F∧VW.le (w7 C st s μ F) (w7 C ⟨A3 st.own o (aY3 c'),st.next,st.ro⟩ {s with heap:=P5 s.heap b (Q7 c')} μ F)∧s.prot≤b:=by
 obtain ⟨b',blk,h1,h2,_⟩:=h.recd ho
 rw[hμ] at h1;cases h1
 have:=h.upd (fz:= []) ho rfl hro hμ h2 rfl (by simp) (ob':=aY3 c') (blk':=Q7 c') rfl rfl rfl (fun w' _ _ _=>⟨rfl,rfl,rfl,by simp only[j8,Q7]⟩)
 rw[W2,X9] at this
 exact this
theorem UD {E E':F7} (h:E'.old=E.old):n6 E'=n6 E:=by
 funext hp a
 rw[IR,IR,h]
end
section
variable {C:D7} {st:m8} {old:Nat→Nat→Option Value} {rounds:Nat} {fns:FuncId→Option s6} {prims:FuncId→List Value→St→Option (Value × List w9)} {n:Nat} {f:FuncId} {xs:List V} {af:s6} {fr:E8} {P:D3} {K:List KF}
end
end Go.Itp
namespace Go.Itp
open Go.RowKit (Below)
open Go.Sort (grow)
section
variable {P:Program} {G:x5} {μ:Mu} {s:St} {w:World}
def IL (P:Program) (f:FuncId):Prop:=∃ fn c,P.funcs[f]? =some fn∧fn.body=some c∧(fn.name== "runtime.NumGoroutine")=false
theorem eI {f:FuncId} {args:Array Value} {v c:Value} (hen:IL P f) (hr:E1 G μ s w) (hc:Calls P f args w fun e w'=>e= .returned c∧Below w.heap.size w w') (hv:tr μ v=some c):Q0 P f args w (v8 G μ s w v []):=by
 obtain ⟨fn,cd,h1,h2,h3⟩:=hen
 exact T7 h1 h2 h3 (hc.mono fun e w' ⟨he,hb⟩=>⟨c,he,μ,Z4.refl s μ,hv,by rw[zZ];exact hr.below hb,hb⟩)
theorem UF (w:World) (k:Nat) (os:Array Go.Obj):Below w.heap.size w (grow (w.drewN k) os):=
 ⟨rfl,rfl,rfl,by simp[grow,World.drewN],fun i hi=>by simp only[grow,World.drewN];rw[Array.getElem?_append_left hi]⟩
theorem aK4 {name:String} {k:IntKind} {zs:List Int} {w0 w:World} (h:Lib.TabIs P w0 name k zs) (hb:Below w0.heap.size w0 w):Lib.TabIs P w name k zs:=by
 unfold Lib.TabIs World.var? at h ⊢
 cases hg:P.globalNamed name with
 |none=>rw[hg] at h;cases h
 |some g=>
  rw[hg] at h
  simp only[Option.bind_some] at h ⊢
  rcases Nat.lt_or_ge g w0.heap.size with h'|h'
  ·rw[hb.block g h'];exact h
  ·rw[Array.getElem?_eq_none h'] at h;cases h
end
def PC (f0:FuncId) (f:FuncId) (xs:List Value) (_:St):Option (Value × List w9):=
 if Nat.beq f f0 then (match xs with
  | [.int .i64 n]=>if -9223372036854775808≤n∧n≤9223372036854775807 then some (.string ⟨(Lib.itoa n).toArray⟩,[]) else none
  |_=>none) else none
theorem aT8 {P:Program} {f0:FuncId} {w0:World} (hen:IL P f0) (ht:Lib.TabIs P w0 "internal/strconv.uint64pow10" .u64 Lib.pow10Tab)
  (hc:∀ (n:Int) (_: -9223372036854775808≤n) (_:n≤9223372036854775807) (w:World) (_:Lib.TabIs P w "internal/strconv.uint64pow10" .u64 Lib.pow10Tab),
   Calls P f0 #[.int .i64 n] w fun e w'=>e= .returned (.string ⟨(Lib.itoa n).toArray⟩)∧∃ k os,w'=grow (w.drewN k) os):V6 P (PC f0) w0:=by
 intro f xs s v bs h G μ w cs hG hr hx
 unfold PC at h
 split at h
 case isFalse=>cases h
 rename_i hf
 have:=j5.1 hf
 subst this
 split at h
 case h_2=>cases h
 rename_i n
 split at h
 case isFalse=>cases h
 rename_i hn
 simp only[Option.some.injEq,Prod.mk.injEq] at h
 obtain ⟨rfl,rfl⟩:=h
 simp[E0,tr] at hx
 subst hx
 refine eI hen hr ((hc n hn.1 hn.2 w (aK4 ht (by rw[← hG];exact hr.b0))).mono fun e w' ⟨he,k,os,hw⟩=>⟨he,?_⟩) rfl
 rw[hw]
 exact UF w k os
end Go.Itp
namespace Go.Itp
open Go.RowKit (Below)
set_option linter.unusedVariables false
set_option linter.constructorNameAsVariable false
section
variable {C:D7} {st:m8} {fr:E8}
end
section
variable {P:Program} {G:x5} {μ:Mu} {s:St} {w:World}
end
section
variable {old:Nat→Nat→Option Value} {rounds:Nat} {fns:FuncId→Option s6} {prims:FuncId→List Value→St→Option (Value × List w9)} {n:Nat} {f:FuncId}
theorem TB {w:VW}:∀ {ys:List Value} {xsI:List Value},d8 w (ys.map V.sc) xsI→xsI=ys
 | [],xsI,h=>by simpa [d8] using h
 |y::r,xsI,h=>by
  simp only[List.map_cons,d8] at h
  obtain ⟨v,vs',rfl,h1,h2⟩:=h
  rw[h1.scv,TB h2]
theorem aW5 {st:m8} {ys:List Value} {v:Value} (h:∀ s,prims f ys s=some (v,[])) (hv:F8 v=true):J9 (w8 old rounds fns prims (n+1)) f st (ys.map V.sc) (.sc v):=by
 intro s μ F xsI w0 hsr hx
 rw[TB hx]
 refine ⟨v,?_,fun w=> .mksc hv⟩
 simp only[N1,h]
theorem bU6 {f0:FuncId} {st:m8} {k:Int} (h0: -9223372036854775808≤k) (h1:k≤9223372036854775807) (hp:∀ xs s r,PC f0 f0 xs s=some r→prims f0 xs s=some r):
  J9 (w8 old rounds fns prims (n+1)) f0 st [.sc (.int .i64 k)] (.sc (.string ⟨(Lib.itoa k).toArray⟩)):=by
 refine aW5 (ys:= [.int .i64 k]) (fun s=>hp _ _ _ ?_) rfl
 unfold PC
 rw[if_pos (j5.2 rfl)]
 simp only
 rw[if_pos ⟨h0,h1⟩]
theorem W8 {a b:FuncId→List Value→St→Option (Value × List w9)} {xs:List Value} {s:St} {r:Value × List w9} (h:a f xs s=some r):Y4 a b f xs s=some r:=by
 unfold Y4
 rw[h]
theorem E4 {a b:FuncId→List Value→St→Option (Value × List w9)} {xs:List Value} {s:St} {r:Value × List w9} (h0:a f xs s=none) (h:b f xs s=some r):Y4 a b f xs s=some r:=by
 unfold Y4
 rw[h0]
 exact h
section
open Go.RowKit
theorem aU0 {P:Program} {w:World} {l:List (String × DataW Unit)} (h:laidMet P l w) {n:String} {d:DataW Unit} (i:Nat) (hi:l[i]? =some (n,d)) {g:Nat} {t e:TypeId} {k:IntKind} {m:Nat} {zs:List Int} (hg:P.globalNamed n=some g) (ht:(P.globals[g]?).map (·.type)=some t)
  (hta:P.underlying t=some (.array m e)) (he:P.underlying e=some (.int k)) (hc:P.cellsOf e=1) (hc2:P.cellsOf t=m) (hz:aP7 d=zs.map (Value.int k)):Lib.TabIs P w n k zs:=by
 obtain ⟨ps,h1,_,_⟩:=h
 obtain ⟨g',t',cs,fuel,p,k1,k2,k3,k4,_⟩:=PH l ps h1 i hi
 rw[hg] at k1;cases k1
 rw[ht] at k2;cases k2
 have hcs:=aG9 hta he hc hc2 k4
 unfold Lib.TabIs
 rw[k3,← hz,← hcs]
end
end
end Go.Itp
namespace Go.Itp
set_option linter.unusedVariables false
set_option linter.constructorNameAsVariable false
section
variable {C:D7} {st:m8} {fr:E8}
end
theorem lS {α:Type}:∀ (r:List (Nat × α)) (i:Nat) (u v:α),A3 (A3 r i u) i v=A3 r i v
 | [],i,u,v=>rfl
 |(k,x)::r,i,u,v=>by
  rw[K1,K1]
  split
  ·rename_i h;subst h;rw[K1,if_pos rfl]
  ·rename_i h;rw[K1,if_neg h,lS r i u v]
theorem DO {α:Type}:∀ (r:List (Nat × α)) (i:Nat) (u:α),d9 r i=some u→A3 r i u=r
 | [],i,u,h=>rfl
 |(k,x)::r,i,u,h=>by
  rw[K1]
  rw[l6] at h
  split
  ·rename_i hk;rw[if_pos hk] at h;cases h;rfl
  ·rename_i hk;rw[if_neg hk] at h;rw[DO r i u h]
theorem X4 {α:Type} {r:List (Nat × α)} {i:Nat} {u v:α} (h:d9 r i=some u):d9 (A3 r i v) i=some v:=by rw[L2 _ _ _ _ _ h,if_pos rfl]
theorem vG (u t:TypeId) (f:FuncId) (r:List (TypeId × FuncId)):T9 ((u,f)::r) t=if t=u then some f else T9 r t:=by
 simp only[T9]
 by_cases h:t=u
 ·rw[if_pos (j5.2 h),if_pos h]
 ·rw[if_neg (by rw[j5];exact h),if_neg h]
section
variable {old:Nat→Nat→Option Value} {fr:E8} {H:F3} {nx:Nat}
def bG5:V→Option V
 | .ref _ _ _ c=>if Nat.blt c x6 then some (.sc (.int .i64 c)) else none
 | .slk _ _ c _=>some (.sc (.int .i64 c))
 | .sc (.slice none _ _)=>some (.sc (.int .i64 0))
 |_=>none
theorem aX2 (x:Operand):j0 old fr H nx (.cap x)=vp (mH bG5 (p6 fr x)):=by
 simp only[j0,mH]
 cases p6 fr x with
 |none=>rfl
 |some v=>
  simp only[Option.bind_some]
  cases v with
  |sc x=>cases x with
   |slice a b c=>cases a<;>rfl
   |_=>rfl
  |ref o k n c=>simp only[bG5];split<;>rfl
  |_=>rfl
theorem MV (n c:Nat):bG5 (.sc (.slice none n c))=some (.sc (.int .i64 0)):=(rfl)
theorem MW (s n c:Nat) (l:List D):bG5 (.slk s n c l)=some (.sc (.int .i64 c)):=(rfl)
theorem IF (e n c:Nat) (j:IntKind):bT e none (some (.int j 0)) none (.sc (.slice none n c))=some (.sc (.slice none 0 0)):=by
 simp only[bT]
 rfl
theorem TC (e s o n:Nat) (j:IntKind) (hn:n ≠ 0):bT e none (some (.int j 0)) none (.gr s o n)=some (.ref o 0 0 (x6+n)):=by
 simp only[bT]
 rw[if_neg (by rw[j5];exact hn)]
 have h1:Nat.blt (x6+n) x6=false:=by rw[← Bool.not_eq_true,Nat.blt_eq];omega
 have h2:Nat.blt 0 (x6+n - x6)=true:=by rw[Nat.blt_eq];omega
 have h0:0<n:=by omega
 simp only[pA,u6,Option.bind_some]
 simp[h1,h0]
theorem QJ (t:TypeId) (e b:Nat) (z:List Value) (x y:Operand):j0 old fr H nx (.appMk t e b z x y)=mI (CE nx t e b z) (p6 fr x) (p6 fr y):=(rfl)
theorem DN (t e b:Nat) (z:Value) (n:Nat) (hn:0<n) (h1:n≤1099511627776) (hz:F8 z=true) (h2:n*b≤1099511627776):CE nx t e b [z] (.sc (.slice none 0 0)) (.sc (.int .i64 n))=some (.gr 2 nx n,some (.gro t e false (List.replicate n (.sc z))),[]):=by
 have hr:rep [z] n=List.replicate n z:=by
  induction n with
  |zero=>rfl
  |succ n ih=>
   rcases Nat.eq_zero_or_pos n with h0|h0
   ·subst h0;rfl
   ·simp only[rep,List.replicate_succ]
    rw[ih h0 (by omega) (Nat.le_trans (Nat.mul_le_mul_right _ (Nat.le_succ n)) h2)]
    rfl
 simp only[CE]
 rw[if_neg (by omega),if_pos ⟨by omega,by unfold s9;omega,by simp[hz],by simp⟩]
 simp only[Int.toNat_natCast]
 rw[if_pos (by rw[Nat.ble_eq];exact h2),hr]
 simp[AW]
def hO (st:m8) (t e b o k n c:Nat) (ob:Option Obj) (src:Src):Option (V × m8):=
 match ob,src with
 |some (.row t' e' g z l),some (m,new,fz)=>
  if W7 new && !Nat.beq e 0 && D8 st.ro st.own fz then (if !Nat.ble st.ro o||z||Nat.beq m 0|| !Nat.ble (n+m) s9|| !Nat.ble ((n+m)*b) s9 then none
      else if Nat.blt c x6 then (if Nat.ble (n+m) c && !l9 o fz then (F4 l (k+n*e) new).map fun l=>(.ref o k (n+m) c,⟨A3 (A1 fz st.own) o (.row t' e' g false l),st.next,st.ro⟩) else none)
      else if g && Nat.beq t' t && Nat.beq e' e && Nat.beq (k+n*e) l.length && Nat.beq c (x6+n) && !l9 o fz then
       some (.gr 2 st.next (n+m),⟨(st.next,.gro t e false (l.drop k++new))::A1 fz (L0 o st.own),st.next+1,st.ro⟩)
      else if Nat.ble (n+m) (c - x6) && !l9 o fz && !(g && Nat.beq t' t && Nat.beq e' e && Nat.beq (k+n*e) l.length && Nat.beq c (x6+n)) then (F4 l (k+n*e) new).map fun l=>(.ref o k (n+m) c,⟨A3 (A1 fz st.own) o (.row t' e' g false l),st.next,st.ro⟩)
      else none) else none
 |_,_=>none
theorem HQ (st:m8) (t e b o k n c:Nat) (y:V):vW st t e b (.ref o k n c) y=hO st t e b o k n c (d9 st.own o) (V2 st.own e y):=by
 simp only[vW,V2]
 cases U6 y with
 |none=>simp only[Option.bind_none,hO];cases d9 st.own o with|none=>rfl|some ob=>cases ob<;>rfl
 |some m=>
  simp only[Option.bind_some]
  cases M5 st.own e m y with
  |none=>simp only[Option.bind_none,Option.map_none,hO];cases d9 st.own o with|none=>rfl|some ob=>cases ob<;>rfl
  |some r=>
   simp only[Option.bind_some,Option.map_some]
   cases d9 st.own o with
   |none=>simp only[hO];split<;>rfl
   |some ob=>cases ob<;>simp only[hO]<;>split<;>rfl
theorem AA {α:Type}:∀ (l:List α) (k:Nat) (m:List α),k+m.length≤l.length→F4 l k m=some (l.take k++m++l.drop (k+m.length))
 |l,k,[],h=>by simp[F4]
 | [],k,x::m,h=>by simp at h
 |a::l,0,x::m,h=>by
  simp only[List.length_cons] at h
  simp only[F4]
  rw[AA l 0 m (by omega)]
  simp
 |a::l,k+1,x::m,h=>by
  simp only[List.length_cons] at h
  simp only[F4]
  rw[AA l k (x::m) (by simp only[List.length_cons];omega)]
  simp only[Option.map_some,List.take_succ_cons,List.cons_append,List.length_cons]
  rw[show k+1+(m.length+1)=k+(m.length+1)+1 by omega,List.drop_succ_cons]
theorem wW (H:F3) (nx ro t e b o k n N t' e' m:Nat) (g:Bool) (l new:List D) (hro:ro≤o) (he:e ≠ 0) (hm:m ≠ 0) (hok:W7 new=true) (hle:n+m≤N) (h1:n+m≤1099511627776) (h2:(n+m)*b≤1099511627776) (hl:k+n*e+new.length≤l.length) (hn:n ≠ N):
  hO ⟨H,nx,ro⟩ t e b o k n (x6+N) (some (.row t' e' g false l)) (some (m,new,[]))=some (.ref o k (n+m) (x6+N),⟨A3 H o (.row t' e' g false (l.take (k+n*e)++new++l.drop (k+n*e+new.length))),nx,ro⟩):=by
 simp only[hO,hok]
 have hb:Nat.ble ro o=true:=by rw[Nat.ble_eq];exact hro
 have h3:Nat.ble (n+m) s9=true:=by rw[Nat.ble_eq];exact h1
 have h4:Nat.ble ((n+m)*b) s9=true:=by rw[Nat.ble_eq];exact h2
 have h5:Nat.beq (x6+N) (x6+n)=false:=TY.2 (by omega)
 have h6:Nat.ble (n+m) (x6+N - x6)=true:=by rw[Nat.ble_eq];omega
 rw[if_pos (by simp[TY.2 he,D8]),if_neg (by simp[hb,h3,h4,TY.2 hm]),if_neg (by rw[Nat.blt_eq];omega),if_neg (by simp[h5]),if_pos (by rw[h6,h5];simp[l9])]
 rw[AA _ _ _ hl,A8]
 rfl
end
structure T0 where
 v:List Nat
 w:List Nat
 n:List Nat
  /-- it sees all but v -/
 a:Bool
  /-- its new objects are a stretch's -/
 r:Bool
def T0.out (l:List Nat) (q:T0):Bool:=if q.a then LF l q.v else NK l q.v
def T0.ok (p q:T0):Bool:=q.out p.w && p.out q.w && q.out p.n
def kS (rs:List T0) (q:T0):List Nat→Bool
 | []=>true
 |k::r=>(match B8 rs k with|some p=>p.ok q|none=>false) && kS rs q r
def VU:N0→Bool
 | .mov _=>true
 | .pick _ _ _=>true
 | .alloc _ _=>true
 | .box _ _=>true
 | .build _ _=>true
 | .mkRow _ _ _ _ _=>true
 | .nilChk _=>true
 | .bin _ _ _=>true
 | .eqB _ _ _=>true
 | .eqNil _ _ _ _=>true
 | .un _ _=>true
 | .convI _ _=>true
 | .convS _=>true
 | .mkSlice _ _ _ _ _ _=>true
 | .slcS _ _ _=>true
 | .slc _ _ _ _ _=>true
 | .slcA _ _ _ _ _=>true
 | .fldA _ _=>true
 | .fldV _ _ _=>true
 | .idxS _ _ _=>true
 | .idxA _ _ _ _=>true
 | .idxStr _ _=>true
 | .idxV _ _ _ _ _=>true
 | .ext _ _=>true
 | .mkFn _ _ _=>true
 | .mkIf _ _=>true
 | .len _ _=>true
 | .mm _ _ _=>true
 | .eqIf _ _ _ _ _=>true
 | .eqAgg _ _ _ _=>true
 |_=>false
def cI1:V→List Nat
 | .ptr o _=> [o]
 |_=> []
def EC (old:Nat→Nat→Option Value) (st:m8) (k:Option Nat) (u:Option V):Option (V × m8 × T0):=u.bind fun u=>(dZ old st.own k u).map fun v=>(v,st,⟨cI1 u,[],[],false,false⟩)
def pZ (st:m8) (o k:Nat) (y:Value):Option Obj→Option (V × m8 × T0)
 |some (.row t e g false l)=>if Nat.ble st.ro o && Nat.blt k l.length then some (.tup [],⟨A3 st.own o (.row t e g false (l.set k (.sc y))),st.next,st.ro⟩,⟨[o],[o],[],false,false⟩) else none
 |some (.box t e l)=>if Nat.ble st.ro o && Nat.blt k l.length then some (.tup [],⟨A3 st.own o (.box t e (l.set k (.sc y))),st.next,st.ro⟩,⟨[o],[o],[],false,false⟩) else none
 |some (.gro t e false l)=>if Nat.ble st.ro o && Nat.blt k l.length then some (.tup [],⟨A3 st.own o (.gro t e false (l.set k (.sc y))),st.next,st.ro⟩,⟨[o],[o],[],false,false⟩) else none
 |_=>none
def JH (st:m8):Option V→Option V→Option (V × m8 × T0)
 |some (.ptr o k),some (.sc y)=>pZ st o k y (d9 st.own o)
 |_,_=>none
def bK6:List V→Bool
 | []=>true
 | .sc _::r=>bK6 r
 | .sl _ _ _::r=>bK6 r
 |_::_=>false
def lY (st:m8) (n:Nat):Option V→Option V→Option (V × m8 × T0)
 |some (.ptr o k),some (.agg ys)=>match d9 st.own o with
  |some (.box t e l)=>if Nat.ble st.ro o && Nat.beq ys.length n && bK6 ys then (F4 l k ys).map fun l=>(.tup [],⟨A3 st.own o (.box t e l),st.next,st.ro⟩,⟨[o],[o],[],false,false⟩) else none
  |_=>none
 |_,_=>none
def aP6 (st:m8) (e:Nat):Option V→Option V→Option (V × m8 × T0)
 |some (.ref o k n c),some (.ref o2 k2 m c2)=>match d9 st.own o with
   |some (.row t e' g false l)=>(M5 st.own e (Nat.min m n) (.ref o2 k2 m c2)).bind fun cs=>
     if Nat.ble st.ro o && W7 cs.1 && cs.2.isEmpty && (d9 st.own o2).any (fun ob=> !ob.fz) then (F4 l k cs.1).map fun l=>(.sc (.int .i64 (Nat.min m n)),⟨A3 st.own o (.row t e' g false l),st.next,st.ro⟩,⟨[o,o2],[o,o2],[],false,true⟩) else none
   |_=>none
 |_,_=>none
def NF (st:m8):VO→Option (V × m8 × T0)
 |some (v,none,[])=>some (v,st,⟨[],[],[],false,false⟩)
 |some (v,some ob,[])=>some (v,⟨(st.next,ob)::st.own,st.next+1,st.ro⟩,⟨[],[],[st.next],false,false⟩)
 |_=>none
def XA (old:Nat→Nat→Option Value) (f:E8) (st:m8) (o:N0) (hint:Option (List Nat)):Option (V × m8 × T0):=
 match o with
 | .load k a=>EC old st k (p6 f a)
 | .store n a x=>if Nat.beq n 1 then JH st (p6 f a) (p6 f x) else lY st n (p6 f a) (p6 f x)
 | .copy e d x=>aP6 st e (p6 f d) (p6 f x)
 |o=>if hint.isNone && VU o then NF st (j0 old f st.own st.next o) else none
def bT7 (st:m8) (t e b:Nat):Option V→Option V→Option (V × m8 × T0)
 |some (.gr s o n),some (.ref o2 k2 m c2)=>match d9 st.own o,d9 st.own o2 with
   |some (.gro t' e' false l),some (.row t2 e2 g2 false l2)=>
     if Nat.ble st.ro o && !Nat.beq n 0 && !Nat.beq m 0 && !Nat.beq e 0 && Nat.beq t' t && Nat.beq e' e && Nat.beq l.length (n*e) && Nat.ble (n+m) s9 && Nat.ble ((n+m)*b) s9 && Nat.ble (k2+m*e) l2.length && W7 ((l2.drop k2).take (m*e)) then
      some (.gr 2 st.next (n+m),⟨(st.next,.gro t e false (l++(l2.drop k2).take (m*e)))::L0 o st.own,st.next+1,st.ro⟩,⟨[o,o2],[o,o2],[st.next],false,true⟩) else none
   |_,_=>none
 |_,_=>none
def XT (st:m8) (t e b:Nat):Option V→Option (V × m8 × T0)
 |some (.ref o2 k2 m c2)=>match d9 st.own o2 with
   |some (.row t2 e2 g2 false l2)=>
     if !Nat.beq m 0 && !Nat.beq e 0 && Nat.ble m s9 && Nat.ble (m*b) s9 && Nat.ble (k2+m*e) l2.length && W7 ((l2.drop k2).take (m*e)) then
      some (.gr 2 st.next m,⟨(st.next,.gro t e false ((l2.drop k2).take (m*e)))::st.own,st.next+1,st.ro⟩,⟨[o2],[],[st.next],false,false⟩) else none
   |_=>none
 |_=>none
def aP4 (st:m8) (t e b:Nat):Option V→Option V→Option (V × m8 × T0)
 |some (.sc (.slice none 0 0)),y=>XT st t e b y
 |some (.gr 2 _ 0),y=>XT st t e b y
 |x,y=>bT7 st t e b x y
def Z0 (old:Nat→Nat→Option Value) (f:E8) (st:m8) (o:N0) (hint:Option (List Nat)):Option (V × m8 × T0):=
 match o with
 | .app t e b x y=>aP4 st t e b (p6 f x) (p6 f y)
 |o=>XA old f st o hint
def JQ (rs:List T0):List Nat→Bool
 | []=>true
 |k::r=>(match B8 rs k with|some p=>p.n.isEmpty && !p.r|none=>false) && JQ rs r
def wpS (C:D7) (o:N0) (hint:Option (List Nat)) (conc:List Nat) (rs:List T0) (f:E8) (st:m8) (Q:V→m8→T0→Prop):Prop:=
 match o with
 | .callF g xs=>hint=some []∧JQ rs conc=true∧∃ args v,Z7 f xs=some args∧J9 C.E g st args v∧Q v st ⟨[],[],[],true,false⟩
 |o=>match Z0 C.E.old f st o hint with|some (v,st',r)=>Q v st' r|none=>False
def wpD (C:D7):List uK→List T0→E8→m8→(E8→m8→Prop)→Prop
 | [],_,fr,st,Q=>Q fr st
 |x::l,rs,fr,st,Q=>match x.o.guard with
   |none=>wpS C x.o.op x.hint x.conc rs (E3 (q9 x.o) fr) st fun v st' r=>kS rs r x.conc=true∧wpD C l (rs++ [r]) (x4 fr x.o.dst v) st' Q
   |some (t,want)=>match d9 fr t with
     |some (.sc (.bool b))=>if b==want then (wpS C x.o.op x.hint x.conc rs (E3 (q9 x.o) fr) st fun v st' r=>kS rs r x.conc=true∧wpD C l (rs++ [r]) (x4 fr x.o.dst v) st' Q) else wpD C l (rs++ [⟨[],[],[],false,false⟩]) (x4 fr x.o.dst (.tup [])) st Q
     |some (.tup _)=>wpD C l (rs++ [⟨[],[],[],false,false⟩]) (x4 fr x.o.dst (.tup [])) st Q
     |_=>False
theorem aH2 {E:F7} {f:Fr} {h:l5} {n p:Nat} {o:N0} (ho:VU o=true):a8 E f ⟨[],n,n⟩ o=a8 E f ⟨h,n,p⟩ o:=by
 cases o<;>first|rfl|cases ho
def cL8 (μ:Nat→Option Nat) (F:Nat→Prop) (w:NW) (l:List Nat) (r:Bool):Prop:=
 (r=false∧∃ ln,w= .fix ln∧∀ b ∈ ln,¬ F b∧∃ o ∈ l,μ o=some b)∨(r=true∧((∃ m,w= .rng m m)∨∃ m,w= .rng m (m+1)∧¬ F m∧∃ o ∈ l,μ o=some m))
def bS5 (μ:Nat→Option Nat) (F:Nat→Prop) (v:VS) (q:T0):Prop:=
 (q.a=false∧∃ lv,v= .only lv∧∀ b ∈ lv,F b∨∃ o ∈ q.v,μ o=some b)∨(q.a=true∧∃ lv,v= .but lv∧∀ o ∈ q.v,∃ b ∈ lv,μ o=some b)
def jK (μ:Nat→Option Nat) (F:Nat→Prop) (r:K0) (q:T0):Prop:=
 ∃ vv lw nw,r=⟨vv,.only lw,nw⟩∧bS5 μ F vv q∧(∀ b ∈ lw,¬ F b∧∃ o ∈ q.w,μ o=some b)∧cL8 μ F nw q.n q.r
theorem QC (m:Nat):∀ l:List Nat,zV m m l=true
 | []=>rfl
 |x::r=>by
  simp only[zV,QC m r,Bool.and_true,Bool.or_eq_true,Nat.blt_eq,Nat.ble_eq]
  omega
theorem QB (m:Nat):∀ l:List Nat,zV m (m+1) l=true↔m ∉ l
 | []=>by simp[zV]
 |x::r=>by
  simp only[zV,Bool.and_eq_true,QB m r,Bool.or_eq_true,Nat.blt_eq,Nat.ble_eq,List.mem_cons,not_or]
  constructor
  ·rintro ⟨h1,h2⟩;exact ⟨by omega,h2⟩
  ·rintro ⟨h1,h2⟩;exact ⟨by omega,h2⟩
theorem bS5.out {μ:Nat→Option Nat} {F:Nat→Prop} (hinj:∀ o o' b,μ o=some b→μ o'=some b→o=o') {v:VS} {q:T0} (h:bS5 μ F v q) {l w:List Nat} (hl:∀ b ∈ l,¬ F b∧∃ o ∈ w,μ o=some b) (k:q.out w=true):(VS.only l).dis v=true:=by
 rcases h with ⟨ha,lv,rfl,hv⟩|⟨ha,lv,rfl,hv⟩
 ·simp only[T0.out,ha,Bool.false_eq_true,if_false,bG] at k
  rw[aP9,bG]
  intro x hx hx'
  obtain ⟨n1,o,ho,e⟩:=hl x hx
  rcases hv x hx' with hF|⟨o',ho',e'⟩
  ·exact n1 hF
  ·have:=hinj o o' x e e'
   subst this
   exact k o ho ho'
 ·simp only[T0.out,ha,if_true,dV] at k
  show LF l lv=true
  rw[dV]
  intro x hx
  obtain ⟨n1,o,ho,e⟩:=hl x hx
  obtain ⟨b,hb,e'⟩:=hv o (k o ho)
  rw[e] at e'
  cases e'
  exact hb
theorem jK.ok {μ:Nat→Option Nat} {F:Nat→Prop} (hinj:∀ o o' b,μ o=some b→μ o'=some b→o=o') {r r':K0} {q q':T0} (h:jK μ F r q) (h':jK μ F r' q') (k:q.ok q'=true):r.ok r'=true:=by
 obtain ⟨lv,lw,ln,rfl,a1,a2,a3⟩:=h
 obtain ⟨lv',lw',ln',rfl,b1,b2,b3⟩:=h'
 simp only[T0.ok,Bool.and_eq_true] at k
 obtain ⟨⟨k1,k2⟩,k3⟩:=k
 rw[cG1]
 simp only[Bool.and_eq_true]
 refine ⟨⟨b1.out hinj a2 k1,a1.out hinj b2 k2⟩,?_⟩
 rcases a3 with ⟨_,l,rfl,a3⟩|⟨_,⟨m,rfl⟩|⟨m,rfl,a3,a4⟩⟩
 ·have:=b1.out hinj a3 k3
  rcases b1 with ⟨_,lv,rfl,_⟩|⟨_,lv,rfl,_⟩<;>exact this
 ·rcases b1 with ⟨_,lv,rfl,_⟩|⟨_,lv,rfl,_⟩
  ·rw[aV5];exact QC m _
  ·show (Nat.beq m m||_)=true
   rw[j5.2 rfl];rfl
 ·have:=b1.out hinj (l:= [m]) (w:=q.n) (by intro b hb;simp only[List.mem_singleton] at hb;subst hb;exact ⟨a3,a4⟩) k3
  rcases b1 with ⟨_,lv,rfl,_⟩|⟨_,lv,rfl,_⟩
  ·rw[aV5,QB]
   rw[aP9,bG] at this
   exact this m (by simp)
  ·show (Nat.beq (m+1) m||(Nat.beq (m+1) (m+1) && l9 m lv))=true
   have h2:l9 m lv=true:=by
    have:=(dV [m] lv).1 this m (by simp)
    exact (j9 _ _).2 this
   rw[h2,j5.2 rfl];simp
theorem jK.mk3 {μ:Nat→Option Nat} {F:Nat→Prop} {lv lw ln v w n:List Nat} (h1:∀ b ∈ lv,F b∨∃ o ∈ v,μ o=some b) (h2:∀ b ∈ lw,¬ F b∧∃ o ∈ w,μ o=some b) (h3:∀ b ∈ ln,¬ F b∧∃ o ∈ n,μ o=some b):
  jK μ F ⟨.only lv,.only lw,.fix ln⟩ ⟨v,w,n,false,false⟩:=⟨_,_,_,rfl,.inl ⟨rfl,_,rfl,h1⟩,h2,.inl ⟨rfl,_,rfl,h3⟩⟩
theorem jK.mkr {μ:Nat→Option Nat} {F:Nat→Prop} {lv lw v w n:List Nat} {m:Nat} (h1:∀ b ∈ lv,F b∨∃ o ∈ v,μ o=some b) (h2:∀ b ∈ lw,¬ F b∧∃ o ∈ w,μ o=some b):
  jK μ F ⟨.only lv,.only lw,.rng m m⟩ ⟨v,w,n,false,true⟩:=⟨_,_,_,rfl,.inl ⟨rfl,_,rfl,h1⟩,h2,.inr ⟨rfl,.inl ⟨_,rfl⟩⟩⟩
theorem jK.mono {μ μ':Nat→Option Nat} {F:Nat→Prop} (h:∀ o b,μ o=some b→μ' o=some b) {r:K0} {q:T0}:jK μ F r q→jK μ' F r q:=by
 rintro ⟨lv,lw,ln,e,a1,a2,a3⟩
 refine ⟨lv,lw,ln,e,?_,fun b hb=>⟨(a2 b hb).1,let ⟨o,x,y⟩:=(a2 b hb).2;⟨o,x,h _ _ y⟩⟩,?_⟩
 ·rcases a1 with ⟨ha,l,e1,e2⟩|⟨ha,l,e1,e2⟩
  ·exact .inl ⟨ha,l,e1,fun b hb=>(e2 b hb).imp id fun ⟨o,x,y⟩=>⟨o,x,h _ _ y⟩⟩
  ·exact .inr ⟨ha,l,e1,fun o ho=>let ⟨b,x,y⟩:=e2 o ho;⟨b,x,h _ _ y⟩⟩
 ·rcases a3 with ⟨hr,l,e1,e2⟩|⟨hr,⟨m,e1⟩|⟨m,e1,e2,o,e3,e4⟩⟩
  ·exact .inl ⟨hr,l,e1,fun b hb=>⟨(e2 b hb).1,let ⟨o,x,y⟩:=(e2 b hb).2;⟨o,x,h _ _ y⟩⟩⟩
  ·exact .inr ⟨hr,.inl ⟨m,e1⟩⟩
  ·exact .inr ⟨hr,.inr ⟨m,e1,e2,o,e3,h _ _ e4⟩⟩
inductive P7 (μ:Nat→Option Nat) (F:Nat→Prop):List K0→List T0→Prop
 |nil:P7 μ F [] []
 |cons {r q rs qs}:jK μ F r q→P7 μ F rs qs→P7 μ F (r::rs) (q::qs)
theorem P7.snoc {μ:Nat→Option Nat} {F:Nat→Prop} {r:K0} {q:T0} (h:jK μ F r q):∀ {rs:List K0} {qs:List T0},P7 μ F rs qs→P7 μ F (rs++ [r]) (qs++ [q])
 |_,_,.nil=> .cons h .nil
 |_,_,.cons a b=> .cons a (P7.snoc h b)
theorem P7.get {μ:Nat→Option Nat} {F:Nat→Prop}:∀ {rs:List K0} {qs:List T0},P7 μ F rs qs→∀ {k:Nat} {q:T0},B8 qs k=some q→∃ r,B8 rs k=some r∧jK μ F r q
 |_,_,.nil,k,q,e=>by cases k<;>cases e
 |_,_,.cons a b,0,q,e=>by cases e;exact ⟨_,rfl,a⟩
 |_,_,.cons a b,k+1,q,e=>P7.get b e
theorem P7.mono {μ μ':Nat→Option Nat} {F:Nat→Prop} (h:∀ o b,μ o=some b→μ' o=some b):∀ {rs:List K0} {qs:List T0},P7 μ F rs qs→P7 μ' F rs qs
 |_,_,.nil=> .nil
 |_,_,.cons a b=> .cons (a.mono h) (P7.mono h b)
theorem P7.all {μ:Nat→Option Nat} {F:Nat→Prop} (hinj:∀ o o' b,μ o=some b→μ o'=some b→o=o') {rs:List K0} {qs:List T0} (h:P7 μ F rs qs) {r:K0} {q:T0} (hr:jK μ F r q):∀ {l:List Nat},kS qs q l=true→vL rs r l=true
 | [],_=>rfl
 |k::l,e=>by
  simp only[kS,Bool.and_eq_true] at e
  obtain ⟨e1,e2⟩:=e
  split at e1
  case h_2=>cases e1
  rename_i p hp
  obtain ⟨r',a,b⟩:=h.get hp
  simp only[vL,Bool.and_eq_true,a]
  exact ⟨jK.ok hinj b hr e1,P7.all hinj h hr e2⟩
theorem SR.congr {C:D7} {st:m8} {h h':l5} {n p:Nat} {μ:Nat→Option Nat} {F:Nat→Prop} (hs:SR C st ⟨h,n,p⟩ μ F) (he:∀ i,g9 h' i=g9 h i):SR C st ⟨h',n,p⟩ μ F∧w7 C st ⟨h',n,p⟩ μ F=w7 C st ⟨h,n,p⟩ μ F:=by
 have hl:n6 C.E h'=n6 C.E h:=by
  funext a
  unfold n6
  split
  ·rfl
  ·rw[he]
  ·rfl
 have hw:w7 C st ⟨h',n,p⟩ μ F=w7 C st ⟨h,n,p⟩ μ F:=by
  show (⟨n6 C.E h',F,μ,st.next⟩:VW)=⟨n6 C.E h,F,μ,st.next⟩
  rw[hl]
 refine ⟨⟨fun o ob e hn=>?_,hs.wr,hs.fz,hs.inj,hs.dom,fun b hb=>?_,fun b hb=>?_,fun b hb=>?_,hs.n0,hs.own,fun b blk hb=>?_,hs.pr,hs.pb⟩,hw⟩
 ·rw[hw];simp only[he];exact hs.obj o ob e hn
 ·simp only[he];exact hs.lt b hb
 ·simp only[he];exact hs.cl b hb
 ·simp only[he];exact hs.un b hb
 ·exact hs.hb b blk (by rw[← he];exact hb)
theorem aG1 (l:List Nat) (h:l5) (i:Nat):tD (C2 l h) i=true→i ∈ l:=by
 intro hk
 induction h with
 |nil=>simp[C2,tD] at hk
 |cons p r ih=>
  obtain ⟨j,b⟩:=p
  simp only[C2] at hk
  split at hk
  ·rename_i hj
   simp only[tD] at hk
   split at hk
   ·rename_i e;rw[j5.1 e];exact (j9 _ _).1 hj
   ·exact ih hk
  ·exact ih hk
theorem qG (h:l5) (i:Nat) {b:w9} (e:g9 h i=some b):tD h i=true:=by
 induction h with
 |nil=>cases e
 |cons p r ih=>
  obtain ⟨j,u⟩:=p
  simp only[g9] at e
  simp only[tD]
  split
  ·rfl
  ·rename_i hj;rw[if_neg hj] at e;exact ih e
theorem aG4 (L:List Nat) (h:l5) (b:Nat) (blk blk':w9) (n:Nat) (hb:b ∈ L) (he:g9 h b=some blk) (i:Nat):
  g9 (jZ n n (C2 L h) (P5 (C2 L h) b blk')++eF L h) i=g9 (P5 h b blk') i:=by
 have hkb:g9 (C2 L h) b=some blk:=by rw[y4,if_pos ((j9 _ _).2 hb)];exact he
 rw[bJ,fH]
 by_cases hi:i=b
 ·subst hi
  rw[if_pos (.inr (qG _ _ hkb)),aX,hkb,aX,he]
  rfl
 ·rw[cH blk' i b hi,cH blk' i b hi,y4]
  by_cases hL:i ∈ L
  ·rw[if_pos ((j9 _ _).2 hL),N6]
   have:l9 i L=true:=(j9 _ _).2 hL
   simp only[this]
   cases hg:g9 h i with
   |none=>simp
   |some u=>
    rw[if_pos (.inr (qG _ _ (by rw[y4,if_pos this];exact hg)))]
  ·have hf:l9 i L=false:=eG.2 hL
   rw[if_neg (by rintro (h1|h1);omega;exact hL (aG1 _ _ _ h1)),N6,hf]
   simp
def bF1 (μ μ':Nat→Option Nat) (k n k' n':Nat):Prop:=(∀ o b,μ o=some b→μ' o=some b)∧(∀ o b,μ' o=some b→μ o=some b∨(k≤o∧n≤b))∧k≤k'∧n≤n'
theorem bF1.rfl (μ:Nat→Option Nat) (k n:Nat):bF1 μ μ k n k n:=⟨fun _ _ e=>e,fun _ _ e=> .inl e,Nat.le_refl _,Nat.le_refl _⟩
section
variable {C:D7}
theorem aK9 {st st':m8} {s:St} {μ:Nat→Option Nat} {F:Nat→Prop} {f:E8} {fI fr0:Fr} {o:N0} {hint:Option (List Nat)} {v:V} {q:T0} {conc:List Nat} {rs:List K0}
  (hsr:SR C st s μ F) (hf:FR (w7 C st s μ F) f fI) (h:XA C.E.old f st o hint=some (v,st',q)):
  ∃ vI h' n' r μ',Y8 C.E fr0 s.prot ⟨⟨none,none,o⟩,conc,hint⟩ rs fI s.heap s.next=some (vI,h',n',r)∧SR C st' ⟨h',n',s.prot⟩ μ' F∧b7 (w7 C st' ⟨h',n',s.prot⟩ μ' F) v vI∧VW.le (w7 C st s μ F) (w7 C st' ⟨h',n',s.prot⟩ μ' F)∧
   jK μ' F r q∧bF1 μ μ' st.next s.next st'.next n':=by
 unfold XA at h
 split at h
 ·rename_i k a
  simp only[EC,Option.bind_eq_some_iff,Option.map_eq_some_iff,Prod.mk.injEq] at h
  obtain ⟨u,hu,v',hv,rfl,rfl,rfl⟩:=h
  obtain ⟨uI,a1,a2⟩:=l7 hf hu
  obtain ⟨vI,b1,b2⟩:=CJ hsr.hr a2 hv
  split at b1
  case h_2=>cases b1
  rename_i ad
  have hkeep:bK C.E (C2 (dO (.pointer (some ad))) s.heap) ad k=bK C.E s.heap ad k:=by
   obtain ⟨i,j,sp⟩:=ad
   cases sp with
   |none=>cases k<;>rfl
   |some sp=>
    have e:g9 (C2 [i] s.heap) i=g9 s.heap i:=by rw[y4];simp[l9]
    cases k<;>simp only[dO,bK,n6,H7,e]
  refine ⟨vI,s.heap,s.next,⟨.only (dO (.pointer (some ad))),.only [],.fix []⟩,μ,?_,hsr,b2,VW.le.refl _,.mk3 (fun b hb=>?_) (fun b hb=>(by cases hb)) (fun b hb=>(by cases hb)),.rfl _ _ _⟩
  ·simp only[Y8,a1,Option.bind_some,a8,hkeep,b1,nP,Option.map_some,y5,DA,List.length_nil,Nat.add_zero]
  ·obtain ⟨i,j,sp⟩:=ad
   cases sp with
   |none=>simp[dO] at hb
   |some sp=>
    simp only[dO,List.mem_singleton] at hb
    subst hb
    cases u with
    |ptr o j'=>
     refine .inr ⟨o,by simp[cI1],?_⟩
     simp only[b7] at a2
     obtain ⟨_,b',e,q⟩:=a2
     cases e
     have hob:∃ ob,d9 st.own o=some ob∧ob.none=false:=by
      simp only[dZ] at hv
      split at hv
      ·rename_i he;exact ⟨_,he,rfl⟩
      ·rename_i he;exact ⟨_,he,rfl⟩
      ·rename_i t e z l he
       refine ⟨_,he,?_⟩
       cases l with
       |nil=>
        exfalso
        cases k with
        |none=>simp[F9,B8] at hv
        |some n=>cases n<;>simp[F9,D4] at hv
       |cons=>rfl
      ·cases hv
     obtain ⟨ob,he,hn⟩:=hob
     obtain ⟨b,blk,m1,m2,_⟩:=hsr.obj o ob he hn
     rw[m1,q b m1]
    |dp l o=>
     simp only[b7] at a2
     obtain ⟨a',e,hi,_⟩:=a2
     obtain ⟨ab,ao,asp⟩:=a'
     simp only[C3,Value.pointer.injEq,Option.some.injEq,Addr.mk.injEq] at e
     obtain ⟨rfl,_,rfl⟩:=e
     exact .inl hi
    |sc x=>
     have hx:=a2.ok
     have:=a2.scv
     subst this
     simp[F8] at hx
    |_=>simp[dZ] at hv
 ·rename_i n a x
  split at h
  case isFalse=>
   unfold lY at h
   split at h
   case h_2=>cases h
   rename_i _ _ i k ys ha hx
   split at h
   case h_2=>cases h
   rename_i t e l ho
   split at h
   case isFalse=>cases h
   rename_i hc
   simp only[Bool.and_eq_true,Nat.ble_eq] at hc
   obtain ⟨⟨hro,hlen⟩,hsc⟩:=hc
   replace hlen:=j5.1 hlen
   simp only[Option.map_eq_some_iff,Prod.mk.injEq] at h
   obtain ⟨l',hl',rfl,rfl,rfl⟩:=h
   obtain ⟨aI,a1,a2⟩:=l7 hf ha
   obtain ⟨xI,x1,x2⟩:=l7 hf hx
   simp only[b7] at a2 x2
   obtain ⟨_,b',rfl,qq⟩:=a2
   obtain ⟨vs,rfl,x3⟩:=x2
   have hall:vs.all B5=true∧vs.length=ys.length:=by
    clear hlen hl' hx x1
    induction ys generalizing vs with
    |nil=>simp only[d8] at x3;subst x3;exact ⟨rfl,rfl⟩
    |cons y r ih=>
     simp only[d8] at x3
     obtain ⟨u,us,rfl,y1,y2⟩:=x3
     cases y with
     |sc z=>
      have hz:=y1.ok
      rw[y1.scv]
      obtain ⟨i1,i2⟩:=ih hsc us y2
      exact ⟨by simp[AX z hz,i1],by simp[i2]⟩
     |sl a b c=>
      obtain ⟨i1,i2⟩:=ih hsc us y2
      simp only[b7,A6] at y1
      rcases y1 with ⟨_,_,rfl,_⟩|⟨_,_,_,rfl|⟨_,_,_,_,rfl⟩⟩
      all_goals exact ⟨by simp[B5,i1],by simp[i2]⟩
     |_=>cases hsc
   obtain ⟨b,blk,m1,m2,m3⟩:=hsr.obj i _ ho rfl
   obtain ⟨rs',r1,r2⟩:=mL hl' m3.2.2.2 x3
   have:=qq b m1
   subst this
   obtain ⟨g1,g2,g3⟩:=hsr.upd (fz:= []) (ob':= .box t e l') ho rfl hro m1 m2 rfl (by simp) rfl rfl rfl (fun w' k1 _ _=>(⟨m3.1,m3.2.1,m3.2.2.1,r2.mono k1⟩:sB w' (.box t e l') {blk with cells:=rs'}))
   rw[X9,A8] at g1 g2
   refine ⟨.tuple #[],P5 s.heap b' {blk with cells:=rs'},s.next,⟨.only [b'],.only [b'],.fix []⟩,μ,?_,g1,by simp only[b7,d8];exact ⟨[],rfl,rfl⟩,g2,.mk3 (fun b hb=> .inr ⟨i,by simp,by simp at hb;rw[hb];exact m1⟩) (fun b hb=>⟨by simp at hb;rw[hb];exact (hsr.wr i _ b' ho m1 rfl).1,i,by simp,by simp at hb;rw[hb];exact m1⟩) (fun b hb=>(by cases hb)),.rfl _ _ _⟩
   have e:g9 (C2 [b'] s.heap) b'=some blk:=by rw[y4];simp[l9,m2]
   have hast:=S4 (s:=⟨C2 [b'] s.heap,s.next,s.prot⟩) (k:=k) e g3 hall.1 r1
   simp only[Y8,BM,a1,Option.bind_some,dO,p5,x1,Value.cells,hall.2,hlen,hast,Option.map_some]
   rw[if_pos (j5.2 rfl)]
   simp only[Option.bind_some]
   rw[if_pos (j5.2 rfl),aX,e]
   rfl
  rename_i hn1
  have hn1:=j5.1 hn1
  subst hn1
  unfold JH at h
  split at h
  case h_2=>cases h
  rename_i _ _ i k y ha hx
  obtain ⟨aI,a1,a2⟩:=l7 hf ha
  obtain ⟨xI,x1,x2⟩:=l7 hf hx
  have hy:=x2.ok
  rw[x2.scv] at x1
  simp only[b7] at a2
  obtain ⟨_,b',rfl,qq⟩:=a2
  have hone:y.cells.toList= [y]:=by cases y<;>first|rfl|(simp[F8] at hy)
  have fin:∀ {ob ob':Obj} {blk:w9} {b:Nat} {cs:List Value},d9 st.own i=some ob→ob.fz=false→μ i=some b→g9 s.heap b=some blk→st.ro≤i→ob'.none=false→ob'.fz=false→ob'.ok=true→T8 blk.cells k [y]=some cs→
    (∀ w',VW.le (w7 C st s μ F) w'→sB w' ob' {blk with cells:=cs})→v= .tup []→st'=⟨A3 st.own i ob',st.next,st.ro⟩→q=⟨[i],[i],[],false,false⟩→
    ∃ vI h' n' r μ',Y8 C.E fr0 s.prot ⟨⟨none,none,.store 1 a x⟩,conc,hint⟩ rs fI s.heap s.next=some (vI,h',n',r)∧SR C st' ⟨h',n',s.prot⟩ μ' F∧b7 (w7 C st' ⟨h',n',s.prot⟩ μ' F) v vI∧VW.le (w7 C st s μ F) (w7 C st' ⟨h',n',s.prot⟩ μ' F)∧jK μ' F r q∧bF1 μ μ' st.next s.next st'.next n':=by
   intro ob ob' blk b cs e1 e2 e3 e4 e5 e6 e7 e8 e9 e10 r1 r2 r3
   subst r1 r2 r3
   have:=qq b e3
   subst this
   obtain ⟨g1,g2,g3⟩:=hsr.upd (fz:= []) e1 e2 e5 e3 e4 rfl (by simp) e6 e7 e8 (fun w' k1 _ _=>e10 w' k1)
   rw[X9,A8] at g1 g2
   refine ⟨.tuple #[],P5 s.heap b' {blk with cells:=cs},s.next,⟨.only [b'],.only [b'],.fix []⟩,μ,?_,g1,by simp only[b7,d8];exact ⟨[],rfl,rfl⟩,g2,.mk3 (fun b hb=> .inr ⟨i,by simp,by simp at hb;rw[hb];exact e3⟩) (fun b hb=>⟨by simp at hb;rw[hb];exact (hsr.wr i ob b' e1 e3 e2).1,i,by simp,by simp at hb;rw[hb];exact e3⟩) (fun b hb=>(by cases hb)),.rfl _ _ _⟩
   have e:g9 (C2 [b'] s.heap) b'=some blk:=by rw[y4];simp[l9,e4]
   have hall: [y].all B5=true:=by simp[AX y hy]
   have hast:=S4 (s:=⟨C2 [b'] s.heap,s.next,s.prot⟩) (k:=k) e g3 hall e9
   simp only[Y8,BM,a1,Option.bind_some,dO,p5,x1,hone,List.length_singleton,hast,Option.map_some]
   rw[if_pos (show Nat.beq 1 1=true from rfl)]
   simp only[Option.bind_some]
   rw[if_pos (j5.2 rfl),aX,e]
   rfl
  have hput:∀ {α:Type} (l:List α) (x:α),k<l.length→F4 l k [x]=some (l.set k x):=fun l x hk=>bM _ _ _ hk
  unfold pZ at h
  split at h
  ·rename_i t e g l ho
   split at h
   case isFalse=>cases h
   rename_i hc
   simp only[Bool.and_eq_true,Nat.ble_eq,Nat.blt_eq] at hc
   cases h
   obtain ⟨b,blk,m1,m2,m3⟩:=hsr.obj i _ ho rfl
   obtain ⟨rs',r1,r2⟩:=V8 (hput l (D.sc y) hc.2) m3.2.2.2 (show j8 (w7 C st s μ F) [D.sc y] [y] by simp only[j8,A6];exact ⟨y,[],rfl,⟨rfl,hy⟩,rfl⟩)
   refine fin (ob':= .row t e g false (l.set k (.sc y))) ho rfl m1 m2 hc.1 rfl rfl ?_ r1 (fun w' k1=>⟨m3.1,m3.2.1,m3.2.2.1,r2.mono k1⟩) rfl rfl rfl
   exact O1 (hput l (D.sc y) hc.2) (hsr.own i _ ho).2 rfl
  ·rename_i t e l ho
   split at h
   case isFalse=>cases h
   rename_i hc
   simp only[Bool.and_eq_true,Nat.ble_eq,Nat.blt_eq] at hc
   cases h
   obtain ⟨b,blk,m1,m2,m3⟩:=hsr.obj i _ ho rfl
   obtain ⟨rs',r1,r2⟩:=mL (hput l (V.sc y) hc.2) m3.2.2.2 (show d8 (w7 C st s μ F) [V.sc y] [y] by simp only[d8,b7];exact ⟨y,[],rfl,⟨rfl,hy⟩,rfl⟩)
   exact fin (ob':= .box t e (l.set k (.sc y))) ho rfl m1 m2 hc.1 rfl rfl rfl r1 (fun w' k1=>⟨m3.1,m3.2.1,m3.2.2.1,r2.mono k1⟩) rfl rfl rfl
  ·rename_i t e l ho
   split at h
   case isFalse=>cases h
   rename_i hc
   simp only[Bool.and_eq_true,Nat.ble_eq,Nat.blt_eq] at hc
   cases h
   have hln:(Obj.gro t e false l).none=false:=by cases l with|nil=>simp at hc|cons=>rfl
   obtain ⟨b,blk,m1,m2,m3⟩:=hsr.obj i _ ho hln
   obtain ⟨rs',r1,r2⟩:=V8 (hput l (D.sc y) hc.2) m3.2.2.2 (show j8 (w7 C st s μ F) [D.sc y] [y] by simp only[j8,A6];exact ⟨y,[],rfl,⟨rfl,hy⟩,rfl⟩)
   refine fin (ob':= .gro t e false (l.set k (.sc y))) ho rfl m1 m2 hc.1 ?_ rfl ?_ r1 (fun w' k1=>⟨m3.1,m3.2.1,m3.2.2.1,r2.mono k1⟩) rfl rfl rfl
   ·cases h1:l.set k (D.sc y) with
    |nil=>have:=congrArg List.length h1;simp at this;subst this;simp at hc
    |cons=>rfl
   ·exact O1 (hput l (D.sc y) hc.2) (hsr.own i _ ho).2 rfl
  ·cases h
 ·rename_i e d x
  unfold aP6 at h
  split at h
  case h_2=>cases h
  rename_i _ _ i k n c i2 k2 m c2 hd hx
  split at h
  case h_2=>cases h
  rename_i t e' g l ho
  simp only[Option.bind_eq_some_iff] at h
  obtain ⟨cs,hcs,h⟩:=h
  split at h
  case isFalse=>cases h
  rename_i hcond
  simp only[Bool.and_eq_true,Nat.ble_eq,List.isEmpty_iff] at hcond
  obtain ⟨⟨⟨hro,hok⟩,hfz⟩,hnz⟩:=hcond
  simp only[Option.map_eq_some_iff,Prod.mk.injEq] at h
  obtain ⟨l',hl',rfl,rfl,rfl⟩:=h
  obtain ⟨dI,d1,d2⟩:=l7 hf hd
  obtain ⟨xI,x1,x2⟩:=l7 hf hx
  obtain ⟨us,u1,u2⟩:=(Y7 hsr.hr x2 hcs (fun j hj=>by simp only[U6,Z5,Option.some.injEq] at hj;subst hj;exact Nat.min_le_left _ _)).plain hsr.hr hfz
  have hob2:∃ ob,d9 st.own i2=some ob:=by
   simp only[M5] at hcs
   cases hob:d9 st.own i2 with
   |none=>rw[hob] at hcs;cases hcs
   |some ob=>exact ⟨ob,rfl⟩
  obtain ⟨ob2,hob2⟩:=hob2
  have hon2:ob2.none=false:=by
   cases ob2 with
   |gro t z e0 l0=>
    cases l0 with
    |cons=>rfl
    |nil=>
     exfalso
     simp only[M5,hob2] at hcs
     split at hcs
     ·rename_i hh
      obtain ⟨h1,h2,h3⟩:=hh
      simp only[List.length_nil,Nat.le_zero,Nat.add_eq_zero_iff] at h1
      rcases Nat.mul_eq_zero.1 h1.2 with h|h
      ·exact h2 h
      ·exact h3 h
     ·cases hcs
   |_=>rfl
  obtain ⟨b,blk,m1,m2,m3⟩:=hsr.obj i _ ho rfl
  obtain ⟨b2,blk2,w1,w2,w3⟩:=hsr.obj i2 _ hob2 hon2
  have hwr2:=hsr.wr i2 ob2 b2 hob2 w1
  simp only[b7] at d2 x2
  obtain ⟨_,_,b',rfl,qd⟩:=d2
  obtain ⟨_,_,b2',rfl,qx⟩:=x2
  have:=qd b m1
  subst this
  have:=qx b2 w1
  subst this
  obtain ⟨rs,r1,r2⟩:=V8 hl' m3.2.2.2 u2
  obtain ⟨g1,g2,g3⟩:=hsr.upd (fz:= []) (ob':= .row t e' g false l') (blk':={blk with cells:=rs}) ho rfl hro m1 m2 rfl (by simp) rfl rfl (O1 hl' (hsr.own i _ ho).2 hok) (fun w' k1 _ _=>⟨m3.1,m3.2.1,m3.2.2.1,r2.mono k1⟩)
  rw[X9,A8] at g1 g2
  have hids:w5 0 (.slice (some ⟨b',k,some 0⟩) n c)++w5 0 (.slice (some ⟨b2',k2,some 0⟩) m c2)= [b',b2']:=by
   simp only[w5,n9,Nat.zero_le,if_true,Nat.ble_eq]
   rfl
  have hkb:g9 (C2 [b',b2'] s.heap) b'=some blk:=by rw[y4,if_pos (by simp[l9])];exact m2
  have hkb2:g9 (C2 [b',b2'] s.heap) b2'=g9 s.heap b2':=by
   rw[y4,if_pos]
   rw[j9]
   simp
  have hsrc:o8 C.E (C2 [b',b2'] s.heap) e (Nat.min m n) (.slice (some ⟨b2',k2,some 0⟩) m c2)=some us:=by
   rw[← u1]
   simp only[o8,H7,hkb2]
  have hast:=S4 (s:=⟨C2 [b',b2'] s.heap,s.next,s.prot⟩) (k:=k) hkb g3 u2.one r1
  have hheap:=aG4 [b',b2'] s.heap b' blk {blk with cells:=rs} s.next (by simp) m2
  obtain ⟨q1,q2⟩:=SR.congr g1 hheap
  have hz2:ob2.fz=false:=by rw[hob2] at hnz;simpa using hnz
  refine ⟨.int .i64 (Nat.min m n),_,s.next,⟨.only [b',b2'],.only [b',b2'],.rng s.next s.next⟩,μ,?_,q1,?_,?_,.mkr (fun z hz=>?_) (fun z hz=>?_),.rfl _ _ _⟩
  ·simp only[Y8,d1,x1,Option.bind_some,hids,nU,a8,D9,lJ]
   rw[if_pos (by rw[Nat.ble_eq];exact hsr.pr)]
   simp only[p5,d1,x1,Option.bind_some,lenA,hsrc,hast,Option.map_some]
   rw[if_pos (by rw[Nat.ble_eq];exact Nat.le_refl _)]
  ·exact .mksc rfl
  ·rw[q2];exact g2
  ·simp only[List.mem_cons,List.not_mem_nil,or_false] at hz
   rcases hz with rfl|rfl
   ·exact .inr ⟨i,by simp,m1⟩
   ·exact .inr ⟨i2,by simp,w1⟩
  ·simp only[List.mem_cons,List.not_mem_nil,or_false] at hz
   rcases hz with rfl|rfl
   ·exact ⟨(hsr.wr i _ z ho m1 rfl).1,i,by simp,m1⟩
   ·exact ⟨(hwr2 hz2).1,i2,by simp,w1⟩
 ·rename_i hnl hns hcp
  split at h
  case isFalse=>cases h
  rename_i hc
  rw[Bool.and_eq_true] at hc
  obtain ⟨hc1,hc2⟩:=hc
  have hh:hint=none:=by cases hint with|none=>rfl|some _=>cases hc1
  subst hh
  have hls:cM4 o=false:=by cases o<;>first|rfl|cases hc2
  have hst:Y8 C.E fr0 s.prot ⟨⟨none,none,o⟩,conc,none⟩ rs fI s.heap s.next=nP (.only []) s.heap s.next (a8 C.E fI ⟨s.heap,s.next,s.next⟩ o):=by
   rw[← aH2 (h:=s.heap) hc2]
   cases o<;>first|rfl|cases hls
  rw[hst]
  have go:∀ {v2:V} {ob:Option Obj},j0 C.E.old f st.own st.next o=some (v2,ob,[])→∃ vI bs,a8 C.E fI ⟨s.heap,s.next,s.next⟩ o=some (vI,bs)∧jN s.heap (w7 C st s μ F) s.next v2 ob [] vI bs:=fun e=>uD (n:=s.next) (p:=s.next) hsr.hr hf e
  unfold NF at h
  split at h
  ·rename_i v2 e
   simp only[Option.some.injEq,Prod.mk.injEq] at h
   obtain ⟨rfl,rfl,rfl⟩:=h
   obtain ⟨vI,bs,e1,e2⟩:=go e
   obtain ⟨rfl,_,e4⟩:=e2
   exact ⟨vI,s.heap,s.next,⟨.only [],.only [],.fix []⟩,μ,by simp[e1,nP,y5,DA],hsr,e4,VW.le.refl _,.mk3 (fun b hb=>(by cases hb)) (fun b hb=>(by cases hb)) (fun b hb=>(by cases hb)),.rfl _ _ _⟩
  ·rename_i v2 ob e
   simp only[Option.some.injEq,Prod.mk.injEq] at h
   obtain ⟨rfl,rfl,rfl⟩:=h
   obtain ⟨vI,bs,e1,e2⟩:=go e
   obtain ⟨q1,q2,q3,q4⟩:=hsr.push e2 rfl
   rw[X9] at q1 q2 q3
   obtain ⟨_,_,_,blk,rfl,_⟩:=e2
   have hp:st.push (some ob) []=⟨(st.next,ob)::st.own,st.next+1,st.ro⟩:=by simp[m8.push,A8]
   rw[hp] at q1 q2 q3
   refine ⟨vI,y5 s.heap s.next [blk],s.next+1,⟨.only [],.only [],.fix [s.next]⟩,_,by simp[e1,nP,DA],q1,q2,q3,.mk3 (fun b hb=>(by cases hb)) (fun b hb=>(by cases hb)) (fun b hb=>?_),fun o' b e'=>?_,fun o' b e'=>?_,Nat.le_succ _,Nat.le_succ _⟩
   ·simp only[List.mem_singleton] at hb
    subst hb
    exact ⟨fun hF=>Nat.lt_irrefl _ (hsr.lt _ hF).1,st.next,by simp,by simp[VT]⟩
   ·have:=(hsr.dom o' b e').2.1
    simp only[VT]
    rw[if_neg (by omega)]
    exact e'
   ·simp only[VT] at e'
    split at e'
    ·cases e';exact .inr ⟨by omega,Nat.le_refl _⟩
    ·exact .inl e'
  ·cases h
theorem dG (L:List Nat) (b:Nat) (hb:b ∈ L):∀ h:l5,g9 (J5 (C2 L h) b) b=g9 (J5 h b) b
 | []=>rfl
 |(j,u)::r=>by
  simp only[C2,J5]
  by_cases hj:Nat.beq b j=true
  ·have:=j5.1 hj
   subst this
   rw[if_pos ((j9 _ _).2 hb)]
   simp only[J5,if_pos hj]
   rw[y4,if_pos ((j9 _ _).2 hb)]
  ·rw[if_neg hj]
   simp only[g9]
   rw[if_neg hj]
   split
   ·simp only[J5,if_neg hj,g9]
    exact dG L b hb r
   ·exact dG L b hb r
theorem VG (L:List Nat) (h:l5) (b n p:Nat) (blk':w9) (hb:b ∈ L) (i:Nat):
  g9 (jZ n (n+1) (C2 L h) (St.push ⟨J5 (C2 L h) b,n,p⟩ [blk']).heap++eF L h) i=g9 (St.push ⟨J5 h b,n,p⟩ [blk']).heap i:=by
 simp only[St.push]
 rw[bJ,fH,x9,x9]
 by_cases hi:n≤i∧i<n+1
 ·have hi':n≤i∧i<n+ [blk'].length:=hi
  rw[if_pos (.inl hi),if_pos hi',if_pos hi']
  have:i - n=0:=by omega
  rw[this];rfl
 ·have hi':¬ (n≤i∧i<n+ [blk'].length):=hi
  rw[if_neg hi',if_neg hi']
  by_cases hib:i=b
  ·subst hib
   rw[dG L i hb,N6,if_pos ((j9 _ _).2 hb)]
   split<;>rename_i hh
   ·split at hh
    ·rw[hh]
    ·cases hh
   ·split at hh
    ·rw[hh]
    ·rename_i hk
     cases hg:g9 (J5 h i) i with
     |none=>rfl
     |some u=>
      exfalso
      obtain ⟨c,hc⟩:=dH h i i u hg
      exact hk (.inr (qG _ _ (by rw[y4,if_pos ((j9 _ _).2 hb)];exact hc)))
  ·rw[J6 _ _ _ hib,J6 _ _ _ hib,y4,N6]
   by_cases hL:i ∈ L
   ·rw[if_pos ((j9 _ _).2 hL),if_pos ((j9 _ _).2 hL)]
    cases hg:g9 h i with
    |none=>simp
    |some u=>rw[if_pos (.inr (qG _ _ (by rw[y4,if_pos ((j9 _ _).2 hL)];exact hg)))]
   ·have hf:l9 i L=false:=eG.2 hL
    simp only[hf,Bool.false_eq_true,if_false]
    simp
def bF5 (C:D7) (st st':m8) (s:St) (h':l5) (n':Nat) (μ μ':Nat→Option Nat) (F:Nat→Prop) (v:V) (vI:Value) (r:K0) (q:T0):Prop:=
 SR C st' ⟨h',n',s.prot⟩ μ' F∧b7 (w7 C st' ⟨h',n',s.prot⟩ μ' F) v vI∧VW.le (w7 C st s μ F) (w7 C st' ⟨h',n',s.prot⟩ μ' F)∧(∀ ν:Nat→Option Nat,(∀ o b,μ o=some b→ν o=some b)→(∀ o b,μ' o=some b→ν o=some b)→jK ν F r q)∧
  (∀ o b,μ' o=some b→μ o=some b∨(st.next≤o∧s.next≤b))∧st.next≤st'.next∧s.next≤n'
theorem bG6 {st st':m8} {s:St} {μ:Nat→Option Nat} {F:Nat→Prop} {f:E8} {fI fr0:Fr} {t e b:Nat} {x y:Operand} {hint:Option (List Nat)} {v:V} {q:T0} {conc:List Nat} {rs:List K0}
  (hsr:SR C st s μ F) (hf:FR (w7 C st s μ F) f fI) (h:bT7 st t e b (p6 f x) (p6 f y)=some (v,st',q)):
  ∃ vI h' n' r μ',Y8 C.E fr0 s.prot ⟨⟨none,none,.app t e b x y⟩,conc,hint⟩ rs fI s.heap s.next=some (vI,h',n',r)∧bF5 C st st' s h' n' μ μ' F v vI r q:=by
 unfold bT7 at h
 split at h
 case h_2=>cases h
 rename_i _ _ s' o n o2 k2 m c2 hx hy
 split at h
 case h_2=>cases h
 rename_i _ _ t' e' l t2 e2 g2 l2 ho ho2
 split at h
 case isFalse=>cases h
 rename_i hc
 simp only[Bool.and_eq_true,Bool.not_eq_true',TY,Nat.ble_eq] at hc
 obtain ⟨⟨⟨⟨⟨⟨⟨⟨⟨⟨hro,hn0⟩,hm0⟩,he0⟩,ht⟩,he⟩,hl⟩,hr1⟩,hr2⟩,hk2⟩,hok⟩:=hc
 have ht:=j5.1 ht
 have he:=j5.1 he
 have hl:=j5.1 hl
 subst ht he
 simp only[Option.some.injEq,Prod.mk.injEq] at h
 obtain ⟨rfl,rfl,rfl⟩:=h
 obtain ⟨xI,x1,x2⟩:=l7 hf hx
 obtain ⟨yI,y1,y2⟩:=l7 hf hy
 have hcs:M5 st.own e' m (.ref o2 k2 m c2)=some ((l2.drop k2).take (m*e'),[]):=by
  simp only[M5,ho2]
  rw[if_pos hk2]
 have hlen:=qP y2 (show U6 (.ref o2 k2 m c2)=some m from rfl)
 obtain ⟨us,u1,u2⟩:=(Y7 hsr.hr y2 hcs (fun j hj=>by simp only[U6,Z5,Option.some.injEq] at hj;subst hj;exact Nat.le_refl _)).plain hsr.hr rfl
 have hln:l ≠ []:=fun e0=>by
  rw[e0] at hl
  have:=Nat.mul_pos (Nat.pos_of_ne_zero hn0) (Nat.pos_of_ne_zero he0)
  simp at hl;omega
 obtain ⟨b0,blk,m1,m2,m3⟩:=hsr.obj o _ ho (Q5 hln)
 obtain ⟨b2,blk2,w1,w2,w3⟩:=hsr.obj o2 _ ho2 rfl
 have hcl:=m3.2.2.2.length
 simp only[b7] at x2 y2
 obtain ⟨_,⟨hn,_⟩|⟨_,b',rfl,qx⟩⟩:=x2
 ·exact absurd hn hn0
 obtain ⟨_,_,b2',rfl,qy⟩:=y2
 have:=qx b0 m1
 subst this
 have:=qy b2 w1
 subst this
 obtain ⟨d1,d2,d3⟩:=hsr.del ho rfl hro m1
 have hokl:W7 (l++(l2.drop k2).take (m*e'))=true:=by
  have:=(hsr.own o _ ho).2
  simp only[Obj.ok] at this
  simp only[W7,List.all_append,Bool.and_eq_true];exact ⟨this,hok⟩
 have hne:l++(l2.drop k2).take (m*e') ≠ []:=by simp[hln]
 have hP:jN (J5 s.heap b') (w7 C ⟨L0 o st.own,st.next,st.ro⟩ {s with heap:=J5 s.heap b'} (fun i=>if i=o then none else μ i) F) s.next (.gr 2 st.next (n+m)) (some (.gro t' e' false (l++(l2.drop k2).take (m*e')))) [] (.slice (some ⟨s.next,0,some 0⟩) (n+m) (x6+(n+m))) [⟨blk.cells++us,e',true,t'⟩]:=
  ⟨Q5 hne,rfl,hokl,_,rfl,fun w' k1 _ _ k4 k5=>⟨.gr_new k4 k5 (n+m) (by omega),rfl,rfl,rfl,(m3.2.2.2.mono (d2.trans k1)).append (u2.mono (d2.trans k1))⟩⟩
 obtain ⟨p1,p2,p3,p4⟩:=d1.push hP rfl
 rw[X9] at p1 p2 p3
 simp only[m8.push,A8] at p1 p2 p3
 have hids:w5 0 (.slice (some ⟨b',0,some 0⟩) n (x6+n))++w5 0 (.slice (some ⟨b2',k2,some 0⟩) m c2)= [b',b2']:=by
  simp only[w5,n9,Nat.zero_le,if_true,Nat.ble_eq]
  rfl
 have hkb:g9 (C2 [b',b2'] s.heap) b'=some blk:=by rw[y4,if_pos (by simp[l9])];exact m2
 have hkb2:g9 (C2 [b',b2'] s.heap) b2'=g9 s.heap b2':=by
  rw[y4,if_pos]
  rw[j9]
  simp
 have hsrc:o8 C.E (C2 [b',b2'] s.heap) e' m (.slice (some ⟨b2',k2,some 0⟩) m c2)=some us:=by
  rw[← u1]
  simp only[o8,H7,hkb2]
 have hone:us.all B5=true:=u2.one
 have hnb:Nat.blt (x6+n) x6=false:=by rw[← Bool.not_eq_true,Nat.blt_eq];omega
 have h0:¬ Nat.beq m 0=true:=by rw[j5];exact hm0
 have hheap:=VG [b',b2'] s.heap b' s.next s.next ⟨blk.cells++us,e',true,t'⟩ (by simp)
 have p1':SR C _ ⟨(St.push ⟨J5 s.heap b',s.next,s.next⟩ [⟨blk.cells++us,e',true,t'⟩]).heap,s.next+1,s.prot⟩ _ F:=p1
 obtain ⟨q1,q2⟩:=SR.congr p1' hheap
 have hnF:∀ z,μ o2=some z→¬ F z:=fun z hz=>(hsr.wr o2 _ z ho2 hz rfl).1
 have hnF1:∀ z,μ o=some z→¬ F z:=fun z hz=>(hsr.wr o _ z ho hz rfl).1
 refine ⟨.slice (some ⟨s.next,0,some 0⟩) (n+m) (x6+(n+m)),_,s.next+1,⟨.only [b',b2'],.only [b',b2'],.rng s.next (s.next+1)⟩,_,?_,q1,?_,?_,fun ν k1 k2=>?_,fun i z e'=>?_,Nat.le_succ _,Nat.le_succ _⟩
 ·simp only[Y8,x1,y1,Option.bind_some,hids,nU,a8,D9,lJ]
  rw[show bE C.E ⟨C2 [b',b2'] s.heap,s.next,s.next⟩ t' e' b (.slice (some ⟨b',0,some 0⟩) n (x6+n)) (.slice (some ⟨b2',k2,some 0⟩) m c2)=none by
   simp only[bE,hlen,Option.bind_some]
   rw[if_neg h0,if_neg (by simp[hnb])]]
  simp only
  rw[if_pos (by rw[Nat.ble_eq];exact hsr.pr)]
  simp only[p5,x1,y1,Option.bind_some]
  have:jR C.E ⟨C2 [b',b2'] s.heap,s.next,s.prot⟩ t' e' b (.slice (some ⟨b',0,some 0⟩) n (x6+n)) (.slice (some ⟨b2',k2,some 0⟩) m c2)=some (.slice (some ⟨s.next,0,some 0⟩) (n+m) (x6+(n+m)),St.push ⟨J5 (C2 [b',b2'] s.heap) b',s.next,s.prot⟩ [⟨blk.cells++us,e',true,t'⟩]):=by
   simp only[jR,hlen,Option.bind_some]
   rw[if_neg h0,if_pos (by simp only[Bool.and_eq_true,Nat.ble_eq];exact ⟨hr1,hr2⟩),hsrc]
   simp only[Option.bind_some]
   rw[if_pos hone,if_neg (by rw[hnb];simp),if_pos (by rw[Nat.ble_eq];exact d3),hkb]
   simp only[Option.bind_some]
   rw[if_pos (by simp only[Bool.and_eq_true];rw[m3.1,m3.2.1,m3.2.2.1,hcl,hl];refine ⟨⟨⟨⟨rfl,j5.2 rfl⟩,j5.2 rfl⟩,j5.2 (by omega)⟩,j5.2 rfl⟩)]
   rfl
  rw[this]
  simp only[Option.bind_some]
  rw[if_pos (by rw[Nat.ble_eq];exact Nat.le_succ _)]
  rfl
 ·rw[q2];exact p2
 ·rw[q2];exact d2.trans p3
 ·refine ⟨_,_,_,rfl,.inl ⟨rfl,_,rfl,fun z hz=>?_⟩,fun z hz=>?_,.inr ⟨rfl,.inr ⟨_,rfl,fun hF=>Nat.lt_irrefl _ (hsr.lt _ hF).1,st.next,by simp,k2 _ _ (by simp[VT])⟩⟩⟩
  ·simp only[List.mem_cons,List.not_mem_nil,or_false] at hz
   rcases hz with rfl|rfl
   ·exact .inr ⟨o,by simp,k1 _ _ m1⟩
   ·exact .inr ⟨o2,by simp,k1 _ _ w1⟩
  ·simp only[List.mem_cons,List.not_mem_nil,or_false] at hz
   rcases hz with rfl|rfl
   ·exact ⟨hnF1 _ m1,o,by simp,k1 _ _ m1⟩
   ·exact ⟨hnF _ w1,o2,by simp,k1 _ _ w1⟩
 ·simp only[VT] at e'
  split at e'
  ·cases e';exact .inr ⟨by omega,Nat.le_refl _⟩
  ·split at e'
   ·cases e'
   ·exact .inl e'
theorem NA {st st':m8} {s:St} {μ:Nat→Option Nat} {F:Nat→Prop} {f:E8} {fI fr0:Fr} {t e b:Nat} {x y:Operand} {hint:Option (List Nat)} {v:V} {q:T0} {conc:List Nat} {rs:List K0}
  (hsr:SR C st s μ F) (hf:FR (w7 C st s μ F) f fI) {u:V} (hx:p6 f x=some u) (hu:∀ (w:VW) (xI:Value),b7 w u xI→xI= .slice none 0 0) (h:XT st t e b (p6 f y)=some (v,st',q)):
  ∃ vI h' n' r μ',Y8 C.E fr0 s.prot ⟨⟨none,none,.app t e b x y⟩,conc,hint⟩ rs fI s.heap s.next=some (vI,h',n',r)∧bF5 C st st' s h' n' μ μ' F v vI r q:=by
 unfold XT at h
 split at h
 case h_2=>cases h
 rename_i _ o2 k2 m c2 hy
 split at h
 case h_2=>cases h
 rename_i _ t2 e2 g2 l2 ho2
 split at h
 case isFalse=>cases h
 rename_i hc
 simp only[Bool.and_eq_true,Bool.not_eq_true',TY,Nat.ble_eq] at hc
 obtain ⟨⟨⟨⟨⟨hm0,he0⟩,hr1⟩,hr2⟩,hk2⟩,hok⟩:=hc
 simp only[Option.some.injEq,Prod.mk.injEq] at h
 obtain ⟨rfl,rfl,rfl⟩:=h
 obtain ⟨xI,x1,x2⟩:=l7 hf hx
 obtain ⟨yI,y1,y2⟩:=l7 hf hy
 have hxI:=hu _ _ x2
 subst hxI
 have hcs:M5 st.own e m (.ref o2 k2 m c2)=some ((l2.drop k2).take (m*e),[]):=by
  simp only[M5,ho2]
  rw[if_pos hk2]
 have hlen:=qP y2 (show U6 (.ref o2 k2 m c2)=some m from rfl)
 obtain ⟨us,u1,u2⟩:=(Y7 hsr.hr y2 hcs (fun j hj=>by simp only[U6,Z5,Option.some.injEq] at hj;subst hj;exact Nat.le_refl _)).plain hsr.hr rfl
 obtain ⟨b2,blk2,w1,w2,w3⟩:=hsr.obj o2 _ ho2 rfl
 simp only[b7] at y2
 obtain ⟨_,_,b2',rfl,qy⟩:=y2
 have:=qy b2 w1
 subst this
 have hne:(l2.drop k2).take (m*e) ≠ []:=fun e0=>by
  have h1:=congrArg List.length e0
  have:=Nat.mul_pos (Nat.pos_of_ne_zero hm0) (Nat.pos_of_ne_zero he0)
  simp at h1
  omega
 have hP:jN s.heap (w7 C st s μ F) s.next (.gr 2 st.next m) (some (.gro t e false ((l2.drop k2).take (m*e)))) [] (.slice (some ⟨s.next,0,some 0⟩) m (x6+m)) [⟨us,e,true,t⟩]:=
  ⟨Q5 hne,rfl,hok,_,rfl,fun w' k1 _ _ k4 k5=>⟨.gr_new k4 k5 m hm0,rfl,rfl,rfl,u2.mono k1⟩⟩
 obtain ⟨p1,p2,p3,p4⟩:=hsr.push hP rfl
 rw[X9] at p1 p2 p3
 simp only[m8.push,A8] at p1 p2 p3
 have hids:w5 0 (.slice none 0 0)++w5 0 (.slice (some ⟨b2',k2,some 0⟩) m c2)= [b2']:=by
  simp only[w5,n9,Nat.zero_le,if_true,Nat.ble_eq]
  rfl
 have hkb2:g9 (C2 [b2'] s.heap) b2'=g9 s.heap b2':=by
  rw[y4,if_pos]
  rw[j9]
  simp
 have hsrc:o8 C.E (C2 [b2'] s.heap) e m (.slice (some ⟨b2',k2,some 0⟩) m c2)=some us:=by
  rw[← u1]
  simp only[o8,H7,hkb2]
 have h0:¬ Nat.beq m 0=true:=by rw[j5];exact hm0
 refine ⟨.slice (some ⟨s.next,0,some 0⟩) m (x6+m),_,s.next+1,⟨.only [b2'],.only [],.fix [s.next]⟩,_,?_,p1,p2,p3,fun ν k1 k2=>⟨_,_,_,rfl,.inl ⟨rfl,_,rfl,fun z hz=>?_⟩,fun z hz=>(by cases hz),.inl ⟨rfl,_,rfl,fun z hz=>?_⟩⟩,fun i z e'=>?_,Nat.le_succ _,Nat.le_succ _⟩
 ·simp only[Y8,x1,y1,Option.bind_some,hids,nU,a8,D9]
  have:bE C.E ⟨C2 [b2'] s.heap,s.next,s.next⟩ t e b (.slice none 0 0) (.slice (some ⟨b2',k2,some 0⟩) m c2)=some (.slice (some ⟨s.next,0,some 0⟩) m (x6+m),[⟨us,e,true,t⟩]):=by
   simp only[bE,hlen,Option.bind_some]
   rw[if_neg h0,if_pos (by simp only[Bool.and_eq_true,Nat.ble_eq,Nat.blt_eq,Nat.zero_add];exact ⟨⟨⟨hr1,hr2⟩,by unfold x6;omega⟩,by omega⟩),hsrc]
   simp only[Option.bind_some,o8,Nat.zero_add]
   rfl
  rw[this]
  rfl
 ·simp only[List.mem_singleton] at hz
  subst hz
  exact .inr ⟨o2,by simp,k1 _ _ w1⟩
 ·simp only[List.mem_singleton] at hz
  subst hz
  exact ⟨fun hF=>Nat.lt_irrefl _ (hsr.lt _ hF).1,st.next,by simp,k2 _ _ (by simp[VT])⟩
 ·simp only[VT] at e'
  split at e'
  ·cases e';exact .inr ⟨by omega,Nat.le_refl _⟩
  ·exact .inl e'
theorem aP5 {st st':m8} {s:St} {μ:Nat→Option Nat} {F:Nat→Prop} {f:E8} {fI fr0:Fr} {t e b:Nat} {x y:Operand} {hint:Option (List Nat)} {v:V} {q:T0} {conc:List Nat} {rs:List K0}
  (hsr:SR C st s μ F) (hf:FR (w7 C st s μ F) f fI) (h:aP4 st t e b (p6 f x) (p6 f y)=some (v,st',q)):
  ∃ vI h' n' r μ',Y8 C.E fr0 s.prot ⟨⟨none,none,.app t e b x y⟩,conc,hint⟩ rs fI s.heap s.next=some (vI,h',n',r)∧bF5 C st st' s h' n' μ μ' F v vI r q:=by
 unfold aP4 at h
 split at h
 ·rename_i hx
  exact NA hsr hf hx (fun w xI h=>h.scv) h
 ·rename_i hx
  refine NA hsr hf hx (fun w xI h=>?_) h
  simp only[b7] at h
  obtain ⟨_,⟨_,h|⟨h,_⟩⟩|⟨h,_⟩⟩:=h
  ·exact h
  ·exact absurd rfl h
  ·exact absurd rfl h
 ·exact bG6 hsr hf h
theorem EV {μ:Nat→Option Nat} {F:Nat→Prop} {rs:List K0} {qs:List T0} (h:P7 μ F rs qs):∀ conc,JQ qs conc=true→KK rs conc= []
 | [],_=>rfl
 |k::r,hk=>by
  simp only[JQ,Bool.and_eq_true] at hk
  obtain ⟨h1,h2⟩:=hk
  cases hq:B8 qs k with
  |none=>rw[hq] at h1;cases h1
  |some q=>
   rw[hq] at h1
   simp only[Bool.and_eq_true,List.isEmpty_iff,Bool.not_eq_true'] at h1
   obtain ⟨w,e1,vv,lw,nw,rfl,_,_,e4⟩:=h.get hq
   rcases e4 with ⟨_,ln,rfl,e5⟩|⟨e5,_⟩
   ·have:ln= []:=by
     cases ln with
     |nil=>rfl
     |cons b r=>
      obtain ⟨_,o,ho,_⟩:=e5 b (by simp)
      rw[h1.1] at ho
      cases ho
    subst this
    simp only[KK,e1,List.nil_append,EV h r h2]
   ·rw[h1.2] at e5;cases e5
theorem cA6 {st:m8} {s:St} {μ ν:Nat→Option Nat} {F:Nat→Prop} {f:E8} {fI fr0:Fr} {o:N0} {hint:Option (List Nat)} {conc:List Nat} {rs:List K0} {qs:List T0} {Q:V→m8→T0→Prop}
  (hsr:SR C st s μ F) (hf:FR (w7 C st s μ F) f fI) (hrs:P7 ν F rs qs) (h:wpS C o hint conc qs f st Q):
  ∃ v st' q vI h' n' r μ',Y8 C.E fr0 s.prot ⟨⟨none,none,o⟩,conc,hint⟩ rs fI s.heap s.next=some (vI,h',n',r)∧bF5 C st st' s h' n' μ μ' F v vI r q∧Q v st' q:=by
 unfold wpS at h
 split at h
 ·rename_i g xs
  obtain ⟨rfl,hfr,args,v,hargs,hsp,hq⟩:=h
  obtain ⟨xsI,a1,a2⟩:=cN hf hargs
  obtain ⟨vI,e1,e2⟩:=hsp ⟨s.heap,s.next,s.next⟩ μ F xsI C.w0 (hsr.enter C.w0) a2
  refine ⟨v,st,_,vI,s.heap,s.next,⟨.but [],.only [],.fix []⟩,μ,?_,⟨hsr,e2 _,VW.le.refl _,fun ν' _ _=>⟨_,_,_,rfl,.inr ⟨rfl,_,rfl,fun z hz=>(by cases hz)⟩,fun z hz=>(by cases hz),.inl ⟨rfl,_,rfl,fun z hz=>(by cases hz)⟩⟩,fun _ _ e=> .inl e,Nat.le_refl _,Nat.le_refl _⟩,hq⟩
  have hnid:=EV hrs conc hfr
  simp only[Y8,JU,hnid,List.nil_append,nU,D9,sP,a8,a1,Option.bind_some]
  rw[show C.E.pcall g xsI ⟨s.heap,s.next,s.next⟩=some (vI,[]) from e1]
  rfl
 ·rename_i hno
  split at h
  case h_2=>exact h.elim
  rename_i v st' q hv
  unfold Z0 at hv
  split at hv
  ·obtain ⟨vI,h',n',r,μ',k1,k2⟩:=aP5 (fr0:=fr0) (hint:=hint) (conc:=conc) (rs:=rs) hsr hf hv
   exact ⟨v,st',q,vI,h',n',r,μ',k1,k2,h⟩
  ·obtain ⟨vI,h',n',r,μ',k1,k2,k3,k4,k5,k6⟩:=aK9 (fr0:=fr0) (conc:=conc) (rs:=rs) hsr hf hv
   exact ⟨v,st',q,vI,h',n',r,μ',k1,⟨k2,k3,k4,fun ν' _ j2=>k5.mono j2,k6.2.1,k6.2.2.1,k6.2.2.2⟩,h⟩
theorem XF (fr0:Fr) (p0:Nat) {F:Nat→Prop}:∀ (l:List uK) {qs:List T0} {rs:List K0} {fr:E8} {st:m8} {Q:E8→m8→Prop} {μ ν:Nat→Option Nat} {frI:Fr} {h:l5} {n:Nat},wpD C l qs fr st Q→
  SR C st ⟨h,n,p0⟩ μ F→FR (w7 C st ⟨h,n,p0⟩ μ F) fr frI→VW.le C.w0 (w7 C st ⟨h,n,p0⟩ μ F)→p0=C.p0→(∀ b,F b→C.w0.F b∨C.p0≤b)→P7 ν F rs qs→
  (∀ o b,μ o=some b→ν o=some b)→(∀ o o' b,ν o=some b→ν o'=some b→o=o')→(∀ o b,ν o=some b→o<st.next∧b<n)→
  ∃ frI' h' n' fr' st',vZ C.E fr0 p0 l rs frI h n=some (frI',h',n')∧Rl C st' fr' ⟨h',n',p0⟩ frI'∧Q fr' st'
 | [],qs,rs,fr,st,Q,μ,ν,frI,h,n,hw,h1,h2,h3,h4,h5,h6,_,_,_=>⟨frI,h,n,fr,st,rfl,⟨μ,F,h1,h2,h3,h4,h5⟩,hw⟩
 |⟨⟨d,g,op⟩,conc,hint⟩::l,qs,rs,fr,st,Q,μ,ν,frI,h,n,hw,h1,h2,h3,h4,h5,h6,n1,n2,n3=>by
  have hrl:Rl C st fr ⟨h,n,p0⟩ frI:=⟨μ,F,h1,h2,h3,h4,h5⟩
  have run:(wpS C op hint conc qs (E3 (q9 ⟨d,g,op⟩) fr) st fun v st' r=>kS qs r conc=true∧wpD C l (qs++ [r]) (x4 fr d v) st' Q)→wanted (u7 (q9 ⟨d,g,op⟩) frI) g=some true→
    ∃ frI' h' n' fr' st',vZ C.E fr0 p0 (⟨⟨d,g,op⟩,conc,hint⟩::l) rs frI h n=some (frI',h',n')∧Rl C st' fr' ⟨h',n',p0⟩ frI'∧Q fr' st':=by
   intro hq hwt
   obtain ⟨v,st',r,vI,h',n',r',μ',e1,⟨q1,q2,q3,q4,q5,q6,q7⟩,hq1,hq2⟩:=cA6 (fr0:=fr0) h1 (h2.keep (q9 ⟨d,g,op⟩)) h6 hq
   let ν':Nat→Option Nat:=fun o=>match μ' o with|some b=>some b|none=>ν o
   have hq7:n≤n':=q7
   have m1:∀ o b,μ' o=some b→ν' o=some b:=fun o b e=>by simp only[ν',e]
   have m2:∀ o b,ν o=some b→ν' o=some b:=fun o b e=>by
    cases hm:μ' o with
    |none=>simp only[ν',hm];exact e
    |some b'=>
     simp only[ν',hm]
     rcases q5 o b' hm with e'|⟨e',_⟩
     ·rw[n1 o b' e'] at e;exact e
     ·have:=(n3 o b e).1;omega
   have m3:∀ o b,ν' o=some b→μ' o=some b∨(μ' o=none∧ν o=some b):=fun o b e=>by
    cases hm:μ' o with
    |none=>simp only[ν',hm] at e;exact .inr ⟨rfl,e⟩
    |some b'=>simp only[ν',hm] at e;exact .inl e
   have key:∀ o o' b,μ' o=some b→ν o'=some b→o=o':=fun o o' b e e'=>by
    rcases q5 o b e with k|⟨_,k⟩
    ·exact n2 o o' b (n1 o b k) e'
    ·have:=(n3 o' b e').2;exact absurd k (by show ¬ n≤b;omega)
   have m4:∀ o o' b,ν' o=some b→ν' o'=some b→o=o':=fun o o' b e e'=>by
    rcases m3 o b e with a|⟨_,a⟩<;>rcases m3 o' b e' with a'|⟨_,a'⟩
    ·exact q1.inj o o' b a a'
    ·exact key o o' b a a'
    ·exact (key o' o b a' a).symm
    ·exact n2 o o' b a a'
   have m5:∀ o b,ν' o=some b→o<st'.next∧b<n':=fun o b e=>by
    rcases m3 o b e with a|⟨_,a⟩
    ·obtain ⟨d1,d2,_⟩:=q1.dom o b a
     exact ⟨by omega,by omega⟩
    ·have:=n3 o b a;omega
   have hr':=q4 ν' (fun o b e=>m2 o b (n1 o b e)) m1
   have h6':=P7.mono (F:=F) m2 h6
   have hok:=P7.all m4 h6' hr' hq1
   obtain ⟨frI',h'',n'',fr',st'',k1,k2,k3⟩:=XF fr0 p0 l (rs:=rs++ [r']) (frI:=K5 frI d vI) hq2 q1 ((h2.mono q3).put q2 d) (h3.trans q3) h4 h5 (P7.snoc hr' h6') m1 m4 m5
   refine ⟨frI',h'',n'',fr',st'',?_,k2,k3⟩
   simp only[vZ,hwt,Option.bind_some]
   rw[aJ9,e1]
   simp only[Option.bind_some]
   rw[if_pos hok]
   exact k1
  have skip:wpD C l (qs++ [⟨[],[],[],false,false⟩]) (x4 fr d (.tup [])) st Q→wanted (u7 (q9 ⟨d,g,op⟩) frI) g=some false→
    ∃ frI' h' n' fr' st',vZ C.E fr0 p0 (⟨⟨d,g,op⟩,conc,hint⟩::l) rs frI h n=some (frI',h',n')∧Rl C st' fr' ⟨h',n',p0⟩ frI'∧Q fr' st':=by
   intro hq hwt
   obtain ⟨frI',h'',n'',fr',st'',k1,k2,k3⟩:=XF fr0 p0 l (rs:=rs++ [⟨.only [],.only [],.fix []⟩]) (frI:=K5 frI d (.tuple #[])) hq h1 (h2.put (by simp only[b7,d8];exact ⟨[],rfl,rfl⟩) d) h3 h4 h5 (P7.snoc (.mk3 (fun b hb=>(by cases hb)) (fun b hb=>(by cases hb)) (fun b hb=>(by cases hb))) h6) n1 n2 n3
   refine ⟨frI',h'',n'',fr',st'',?_,k2,k3⟩
   simp only[vZ,hwt,Option.bind_some]
   exact k1
  simp only[wpD] at hw
  split at hw
  ·exact run hw rfl
  ·rename_i _ t want
   have ht:t ∈ q9 ⟨d,some (t,want),op⟩:=by simp[q9]
   split at hw
   ·rename_i b hb
    have hb':=(fG hrl hb).1 b rfl
    split at hw
    ·rename_i hbw
     exact run hw (by simp only[wanted];rw[L4 _ _ _ ht,hb'];simp[hbw])
    ·rename_i hbw
     have hbw':(b==want)=false:=by simpa using hbw
     exact skip hw (by simp only[wanted];rw[L4 _ _ _ ht,hb'];simp[hbw'])
   ·rename_i l' hb
    obtain ⟨l2,hb'⟩:=(fG hrl hb).2 l' rfl
    exact skip hw (by simp only[wanted];rw[L4 _ _ _ ht,hb'];rfl)
   ·exact hw.elim
def gD (C:D7) (l:List uK) (rs:List T0) (tail:List j6) (ks:List Nat) (K:List KF) (fr:E8) (st:m8) (P:D3):Prop:=wpD C l rs fr st fun fr st=>gO C tail ks K fr st P
def gDV (C:D7) (r:Option (V × m8 × T0)) (conc:List Nat) (d:Option Nat) (l:List uK) (rs:List T0) (tail:List j6) (ks:List Nat) (K:List KF) (fr:E8) (P:D3):Prop:=
 match r with|some (v,st',r)=>kS rs r conc=true∧gD C l (rs++ [r]) tail ks K (x4 fr d v) st' P|none=>False
def gDG (C:D7) (v:Option V) (want:Bool) (r:Option (V × m8 × T0)) (conc:List Nat) (d:Option Nat) (l:List uK) (rs:List T0) (tail:List j6) (ks:List Nat) (K:List KF) (fr:E8) (st:m8) (P:D3):Prop:=
 match v with
 |some (.sc (.bool b))=>if b==want then gDV C r conc d l rs tail ks K fr P else gD C l (rs++ [⟨[],[],[],false,false⟩]) tail ks K (x4 fr d (.tup [])) st P
 |some (.tup _)=>gD C l (rs++ [⟨[],[],[],false,false⟩]) tail ks K (x4 fr d (.tup [])) st P
 |_=>False
variable {K:List KF} {fr:E8} {st:m8} {P:D3}
theorem y8 {pre:List uK} {tail:List j6} {ks:List Nat} (h:gD C pre [] tail ks K fr st P):gC C (.drawW pre tail ks) K fr st P:=by
 unfold gC
 simp only[LO]
 rintro frI s ⟨μ,F,h1,h2,h3,h4,h5⟩
 obtain ⟨frI',h',n',fr',st',e,g1,g2⟩:=XF frI s.prot pre (rs:= []) (ν:=μ) h h1 h2 h3 h4 h5 .nil (fun _ _ e=>e) h1.inj (fun o b e=>by obtain ⟨d1,d2,_⟩:=h1.dom o b e;exact ⟨by omega,by omega⟩)
 unfold gO at g2
 obtain ⟨frI2,s2,fr2,st2,e2,k1,k2⟩:=pK tail g2 g1
 refine ⟨.normal,u7 ks frI2,s2,?_,E3 ks fr2,st2,k1.keep ks,k2⟩
 simp only[B7,e,Option.bind_some]
 rw[e2]
 rfl
theorem aR9 (rs:List T0) (tail:List j6) (ks:List Nat):gD C [] rs tail ks K fr st P=gO C tail ks K fr st P:=(rfl)
def KL:N0→Bool
 | .callF _ _=>false
 |_=>true
theorem aD2 (o:N0) (ho:KL o=true) (hint:Option (List Nat)) (conc:List Nat) (rs:List T0) (f:E8) (Q:V→m8→T0→Prop):wpS C o hint conc rs f st Q=match Z0 C.E.old f st o hint with|some (v,st',r)=>Q v st' r|none=>False:=by
 cases o<;>first|rfl|cases ho
theorem YK (d:Option Nat) (o:N0) (ho:KL o=true) (conc:List Nat) (hint:Option (List Nat)) (l:List uK) (rs:List T0) (tail:List j6) (ks:List Nat):gD C (⟨⟨d,none,o⟩,conc,hint⟩::l) rs tail ks K fr st P=gDV C (Z0 C.E.old (E3 (m9 (u5 o)) fr) st o hint) conc d l rs tail ks K fr P:=by
 unfold gD gDV
 simp only[wpD,eN,aD2 o ho]
 rfl
theorem OG (d:Option Nat) (t:Nat) (want:Bool) (o:N0) (ho:KL o=true) (conc:List Nat) (hint:Option (List Nat)) (l:List uK) (rs:List T0) (tail:List j6) (ks:List Nat):
  gD C (⟨⟨d,some (t,want),o⟩,conc,hint⟩::l) rs tail ks K fr st P=gDG C (d9 fr t) want (Z0 C.E.old (E3 (m9 (u5 o)++ [t]) fr) st o hint) conc d l rs tail ks K fr st P:=by
 unfold gD gDG gDV
 simp only[wpD,q9,aD2 o ho]
 rfl
theorem OF (v:V) (st':m8) (r:T0) (conc:List Nat) (d:Option Nat) (l:List uK) (rs:List T0) (tail:List j6) (ks:List Nat) (h:kS rs r conc=true):gDV C (some (v,st',r)) conc d l rs tail ks K fr P=gD C l (rs++ [r]) tail ks K (x4 fr d v) st' P:=by
 simp only[gDV,h,true_and]
theorem YJ (b:Bool) (r:Option (V × m8 × T0)) (conc:List Nat) (d:Option Nat) (l:List uK) (rs:List T0) (tail:List j6) (ks:List Nat):gDG C (some (.sc (.bool b))) b r conc d l rs tail ks K fr st P=gDV C r conc d l rs tail ks K fr P:=by simp[gDG]
theorem aR8 (r:Option (V × m8 × T0)) (conc:List Nat) (d:Option Nat) (l:List uK) (rs:List T0) (tail:List j6) (ks:List Nat):gDG C (some (.sc (.bool true))) false r conc d l rs tail ks K fr st P=gD C l (rs++ [⟨[],[],[],false,false⟩]) tail ks K (x4 fr d (.tup [])) st P:=(rfl)
theorem aR7 (r:Option (V × m8 × T0)) (conc:List Nat) (d:Option Nat) (l:List uK) (rs:List T0) (tail:List j6) (ks:List Nat):gDG C (some (.sc (.bool false))) true r conc d l rs tail ks K fr st P=gD C l (rs++ [⟨[],[],[],false,false⟩]) tail ks K (x4 fr d (.tup [])) st P:=(rfl)
theorem YI (a:List V) (want:Bool) (r:Option (V × m8 × T0)) (conc:List Nat) (d:Option Nat) (l:List uK) (rs:List T0) (tail:List j6) (ks:List Nat):gDG C (some (.tup a)) want r conc d l rs tail ks K fr st P=gD C l (rs++ [⟨[],[],[],false,false⟩]) tail ks K (x4 fr d (.tup [])) st P:=(rfl)
end
section
variable {old:Nat→Nat→Option Value} {f:E8} {st:m8}
theorem aC2 (k:Option Nat) (a:Operand) (h:Option (List Nat)):Z0 old f st (.load k a) h=EC old st k (p6 f a):=(rfl)
theorem SO (a x:Operand) (h:Option (List Nat)):Z0 old f st (.store 1 a x) h=JH st (p6 f a) (p6 f x):=(rfl)
theorem aK8 (n:Nat) (hn:Nat.beq n 1=false) (a x:Operand) (h:Option (List Nat)):Z0 old f st (.store n a x) h=lY st n (p6 f a) (p6 f x):=by
 show (if Nat.beq n 1 then _ else _)=_
 rw[hn];rfl
theorem aC1 (e:Nat) (a x:Operand) (h:Option (List Nat)):Z0 old f st (.copy e a x) h=aP6 st e (p6 f a) (p6 f x):=(rfl)
theorem aC3 (o:N0) (ho:VU o=true):Z0 old f st o none=NF st (j0 old f st.own st.next o):=by
 cases o<;>first|rfl|cases ho
def dLd (st:m8) (v:Option V) (l:List Nat):Option (V × m8 × T0):=v.map fun v=>(v,st,⟨l,[],[],false,false⟩)
theorem NC (v:V) (l:List Nat):dLd st (some v) l=some (v,st,⟨l,[],[],false,false⟩):=(rfl)
theorem ED (k:Option Nat) (o j:Nat):EC old st k (some (.ptr o j))=dLd st (eA old st.own k (some (.ptr o j))) [o]:=(rfl)
theorem ND (k:Option Nat) (l:List D) (j:Nat):EC old st k (some (.dp l j))=dLd st (eA old st.own k (some (.dp l j))) []:=(rfl)
theorem NE (k:Option Nat) (x:Value):EC old st k (some (.sc x))=dLd st (eA old st.own k (some (.sc x))) []:=(rfl)
theorem EI (o k:Nat) (y:Value):JH st (some (.ptr o k)) (some (.sc y))=pZ st o k y (d9 st.own o):=(rfl)
theorem EH (o k t e:Nat) (g:Bool) (l:List D) (y:Value) (hro:st.ro≤o) (hk:k<l.length):pZ st o k y (some (.row t e g false l))=some (.tup [],⟨A3 st.own o (.row t e g false (l.set k (.sc y))),st.next,st.ro⟩,⟨[o],[o],[],false,false⟩):=by
 simp only[pZ]
 rw[if_pos (by simp only[Bool.and_eq_true,Nat.ble_eq,Nat.blt_eq];exact ⟨hro,hk⟩)]
theorem EG (o k t e:Nat) (l:List D) (y:Value) (hro:st.ro≤o) (hk:k<l.length):pZ st o k y (some (.gro t e false l))=some (.tup [],⟨A3 st.own o (.gro t e false (l.set k (.sc y))),st.next,st.ro⟩,⟨[o],[o],[],false,false⟩):=by
 simp only[pZ]
 rw[if_pos (by simp only[Bool.and_eq_true,Nat.ble_eq,Nat.blt_eq];exact ⟨hro,hk⟩)]
theorem EF (o k t e:Nat) (l:List V) (y:Value) (hro:st.ro≤o) (hk:k<l.length):pZ st o k y (some (.box t e l))=some (.tup [],⟨A3 st.own o (.box t e (l.set k (.sc y))),st.next,st.ro⟩,⟨[o],[o],[],false,false⟩):=by
 simp only[pZ]
 rw[if_pos (by simp only[Bool.and_eq_true,Nat.ble_eq,Nat.blt_eq];exact ⟨hro,hk⟩)]
theorem xW (v:V):NF st (some (v,none,[]))=some (v,st,⟨[],[],[],false,false⟩):=(rfl)
theorem EE (v:V) (ob:Obj):NF st (some (v,some ob,[]))=some (v,⟨(st.next,ob)::st.own,st.next+1,st.ro⟩,⟨[],[],[st.next],false,false⟩):=(rfl)
end
theorem NM {w:VW}:∀ {L:List D} {vs:List Value},j8 w L vs→(∀ d ∈ L,∃ x,d= .sc x)→(∀ n,y9 n vs= [])∧(∀ f,V0 f vs=vs)∧∀ w',j8 w' L vs
 | [],vs,h,_=>by simp only[j8] at h;subst h;exact ⟨fun _=>rfl,fun _=>rfl,fun w'=>by simp only[j8]⟩
 |d::r,vs,h,hs=>by
  simp only[j8] at h
  obtain ⟨v,vs',rfl,h1,h2⟩:=h
  obtain ⟨a1,a2,a3⟩:=NM h2 fun d hd=>hs d (List.mem_cons_of_mem _ hd)
  obtain ⟨x,rfl⟩:=hs d (List.mem_cons_self ..)
  simp only[A6] at h1
  obtain ⟨rfl,hx⟩:=h1
  have hren:∀ f,U0 f v=v:=fun f=>QY (bN 0 v hx)
  exact ⟨fun n=>by simp[y9,bN n v hx,a1 n],fun f=>by simp[V0,hren f,a2 f],fun w'=>by simp only[j8];exact ⟨v,vs',rfl,by simp only[A6,hx,and_self],a3 w'⟩⟩
theorem bH4 {n0 b N c:Nat} {h:l5} {blk:w9} (hb:g9 h b=some blk) (hn:n0≤b) (hi:∀ n,y9 n blk.cells= []) (hr:∀ f,V0 f blk.cells=blk.cells):
  gc n0 h (.slice (some ⟨b,0,some 0⟩) N c)=some (.slice (some ⟨n0,0,some 0⟩) N c,[blk]):=by
 have hid:w5 n0 (.slice (some ⟨b,0,some 0⟩) N c)= [b]:=by
  simp only[w5,n9]
  rw[if_pos (by rw[Nat.ble_eq];exact hn)]
 have hre:kW n0 h [b]=some [b]:=by
  have:cC n0 h 1000000 [b] []=some [b]:=by
   rw[show (1000000:Nat)=999999+1 from rfl]
   simp only[cC,l9,Bool.false_eq_true,if_false,hb,Option.bind_some,hi]
   rfl
  simp only[kW,this]
 have hto:A2 n0 [b] b=n0:=by
  simp only[A2,L5]
  rw[if_neg (by rw[Nat.blt_eq];omega),if_pos (j5.2 rfl)]
  rfl
 unfold gc
 rw[hid]
 simp only[hre,Option.bind_some,List.reverse_singleton,bY,hb,Option.map_some,hr]
 simp only[U0,J4,hto]
section
variable {old:Nat→Nat→Option Value} {rounds:Nat} {fns:FuncId→Option s6} {prims:FuncId→List Value→St→Option (Value × List w9)} {n:Nat} {f:FuncId} {xs:List V} {af:s6}
theorem bD2 {st0:m8} {t e N:Nat} {L:List D} (hf:fns f=some af) (hpu:af.pure=true) (hp:∀ xs s,prims f xs s=none) (hlen:xs.length≤af.n) (hN:N ≠ 0) (hL:L ≠ []) (hsc:∀ d ∈ L,∃ x,d= .sc x)
  (h:∀ C:D7,C.E=w8 old rounds fns prims n→C.w0.nx=st0.next→∃ st1 o,d9 st1.own o=some (.gro t e false L)∧st1.ro≤o∧gC C af.code [] (V4 0 xs) ⟨st0.own,st0.next,st0.next⟩ (sE C af.res (.gr 2 o N) st1)):
  IP (w8 old rounds fns prims (n+1)) f st0 xs (.gr 2 st0.next N) (.gro t e false L):=by
 have hok:W7 L=true:=by
  simp only[W7,List.all_eq_true]
  intro d hd
  obtain ⟨x,rfl⟩:=hsc d hd
  rfl
 have hln:(Obj.gro t e false L).none=false:=by cases L with|nil=>exact absurd rfl hL|cons=>rfl
 refine ⟨hln,rfl,hok,?_⟩
 intro s μ F xsI w0 hs hx
 let C:D7:=⟨w8 old rounds fns prims n,s.next,s.heap,(· <s.next),⟨n6 (w8 old rounds fns prims n) s.heap,F,μ,st0.next⟩,s.next⟩
 have hs':SR C ⟨st0.own,st0.next,st0.next⟩ ⟨s.heap,s.next,s.next⟩ μ F:=hs.env (X5 _ _) rfl rfl rfl
 obtain ⟨st1,o,ho,hro,h⟩:=h C rfl rfl
 have hx':d8 (w7 C ⟨st0.own,st0.next,st0.next⟩ ⟨s.heap,s.next,s.next⟩ μ F) xs xsI:=by
  show d8 ⟨n6 (w8 old rounds fns prims n) s.heap,F,μ,st0.next⟩ xs xsI
  rw[X5 n (n+1)];exact hx
 obtain ⟨vI,sf,hbody,μ',G,g1,g2,g3,g4,g5⟩:=sJ (C:=C) (s:=⟨s.heap,s.next,s.next⟩) hlen h ⟨_,F,hs',dY 0 hx',VW.le.refl _,rfl,fun b hb=> .inl hb⟩ hx.length
 obtain ⟨b,blk,m1,m2,m3⟩:=g1.obj o _ ho hln
 simp only[b7] at g2
 obtain ⟨_,⟨h0,_⟩|⟨_,b',rfl,q⟩⟩:=g2
 ·exact absurd h0 hN
 have:=q b m1
 subst this
 have hb:s.next≤b':=by
  have:=g1.pb o b' m1 hro
  rw[g4] at this
  exact this
 obtain ⟨r1,r2,r3⟩:=NM m3.2.2.2 hsc
 refine ⟨.slice (some ⟨s.next,0,some 0⟩) N (x6+N),blk,?_,fun w k1 k2=>⟨?_,m3.1,m3.2.1,m3.2.2.1,r3 w⟩⟩
 ·simp only[N1,hp,hf,Option.bind_some,hpu,if_true]
  rw[show body (w8 old rounds fns prims n) af xsI ⟨s.heap,s.next,s.next⟩=some (.slice (some ⟨b',0,some 0⟩) N (x6+N),sf) from hbody]
  exact bH4 m2 hb r1 r2
 ·simp only[b7]
  exact ⟨k1,.inr ⟨hN,s.next,rfl,fun b hb=>by rw[k2] at hb;cases hb;rfl⟩⟩
end
theorem wS {α:Type} {r:List (Nat × α)} {i:Nat} {v:α} (h:(d9 r i).isSome=true):d9 (A3 r i v) i=some v:=by
 obtain ⟨u,hu⟩:=Option.isSome_iff_exists.1 h
 exact X4 hu
theorem TG:S0 []= .tup []:=(rfl)
theorem GO {t e n s:Nat} {z:Bool} {l:List D} {x:Value} (h:n=0↔l= []):cY [(0,.gro t e z l)] (.tup [.gr s 0 n,.sc x]):=by
 refine oZ ?_ (fun o ob ho=>by rw[(eZ ho).2]) (fun o ob ho=>by rw[(eZ ho).1];simp[aT,gQ])
 simp only[Cl,IJ,and_true]
 exact ⟨t,e,z,l,rfl,h⟩
section
variable {C:D7} {st:m8}
theorem GX {a a' b:V} (h:T3 C st a a'):T3 C st (.tup [a,b]) (.tup [a',b]):=by
 intro s μ F u h1 hv
 simp only[b7,d8] at hv ⊢
 obtain ⟨vs,rfl,v1,_,rfl,q1,v2,_,rfl,q2,rfl⟩:=hv
 exact ⟨_,rfl,v1,_,rfl,h s μ F v1 h1 q1,v2,_,rfl,q2,rfl⟩
end
theorem VV0:type_of% (And.intro @aS2 (And.intro @aS3 (And.intro @vA (And.intro @yR (And.intro @jE (And.intro @nG (And.intro @qF (And.intro @YF (And.intro @aR4 (And.intro @YD (And.intro @aR5 (And.intro @OD (And.intro @aR3 (And.intro @YB (And.intro @JS (And.intro @yQ (And.intro @YE (And.intro @YC (And.intro @aS4 (And.intro @OI (And.intro @aR9 (And.intro @YK (And.intro @OG (And.intro @OF (And.intro @YJ (And.intro @aR8 (And.intro @aR7 (And.intro @YI (And.intro @aC2 (And.intro @SO (And.intro @aC3 (And.intro @ED (And.intro @ND (And.intro @NE (And.intro @NC (And.intro @EI (And.intro @EH (And.intro @EG (And.intro @EF (@xW)))))))))))))))))))))))))))))))))))))))):=
 And.intro @aS2 (And.intro @aS3 (And.intro @vA (And.intro @yR (And.intro @jE (And.intro @nG (And.intro @qF (And.intro @YF (And.intro @aR4 (And.intro @YD (And.intro @aR5 (And.intro @OD (And.intro @aR3 (And.intro @YB (And.intro @JS (And.intro @yQ (And.intro @YE (And.intro @YC (And.intro @aS4 (And.intro @OI (And.intro @aR9 (And.intro @YK (And.intro @OG (And.intro @OF (And.intro @YJ (And.intro @aR8 (And.intro @aR7 (And.intro @YI (And.intro @aC2 (And.intro @SO (And.intro @aC3 (And.intro @ED (And.intro @ND (And.intro @NE (And.intro @NC (And.intro @EI (And.intro @EH (And.intro @EG (And.intro @EF (@xW)))))))))))))))))))))))))))))))))))))))
theorem VV1:type_of% (And.intro @EE (And.intro @OK (And.intro @OJ (And.intro @EX (And.intro @OH (And.intro @YL (And.intro @vG (And.intro @QJ (And.intro @DN (And.intro @aX2 (And.intro @MV (And.intro @MW (And.intro @IF (And.intro @TC (And.intro @aC1 (And.intro @HQ (And.intro @wW (And.intro @YM (And.intro @OL (And.intro @aS1 (And.intro @bP7 (And.intro @bP6 (And.intro @aS0 (And.intro @YW (And.intro @aS8 (And.intro @YU (And.intro @YV (And.intro @YT (And.intro @yP (And.intro @YG (And.intro @YH (And.intro @OE (And.intro @aS7 (And.intro @YS (And.intro @OR (And.intro @OS (And.intro @OT (And.intro @OQ (And.intro @YR (@OM)))))))))))))))))))))))))))))))))))))))):=
 And.intro @EE (And.intro @OK (And.intro @OJ (And.intro @EX (And.intro @OH (And.intro @YL (And.intro @vG (And.intro @QJ (And.intro @DN (And.intro @aX2 (And.intro @MV (And.intro @MW (And.intro @IF (And.intro @TC (And.intro @aC1 (And.intro @HQ (And.intro @wW (And.intro @YM (And.intro @OL (And.intro @aS1 (And.intro @bP7 (And.intro @bP6 (And.intro @aS0 (And.intro @YW (And.intro @aS8 (And.intro @YU (And.intro @YV (And.intro @YT (And.intro @yP (And.intro @YG (And.intro @YH (And.intro @OE (And.intro @aS7 (And.intro @YS (And.intro @OR (And.intro @OS (And.intro @OT (And.intro @OQ (And.intro @YR (@OM)))))))))))))))))))))))))))))))))))))))
theorem VV2:type_of% (And.intro @ON (And.intro @OO (And.intro @YQ (And.intro @OP (And.intro @aS6 (And.intro @aS5 (And.intro @YP (And.intro @qS (And.intro @zC (And.intro @FT (And.intro @GP (And.intro @rL (And.intro @AP (And.intro @CL (And.intro @CM (And.intro @vX (And.intro @TH (And.intro @TI (And.intro @RK (And.intro @bR7 (And.intro @PY (And.intro @PZ (And.intro @ZT (And.intro @ZS (And.intro @ZR (And.intro @MK (And.intro @MJ (And.intro @DS (And.intro @HZ (And.intro @IA (And.intro @HY (And.intro @bR1 (And.intro @RD (And.intro @RE (And.intro @GR (And.intro @RC (And.intro @CI (And.intro @ID (And.intro @zP (@zR)))))))))))))))))))))))))))))))))))))))):=
 And.intro @ON (And.intro @OO (And.intro @YQ (And.intro @OP (And.intro @aS6 (And.intro @aS5 (And.intro @YP (And.intro @qS (And.intro @zC (And.intro @FT (And.intro @GP (And.intro @rL (And.intro @AP (And.intro @CL (And.intro @CM (And.intro @vX (And.intro @TH (And.intro @TI (And.intro @RK (And.intro @bR7 (And.intro @PY (And.intro @PZ (And.intro @ZT (And.intro @ZS (And.intro @ZR (And.intro @MK (And.intro @MJ (And.intro @DS (And.intro @HZ (And.intro @IA (And.intro @HY (And.intro @bR1 (And.intro @RD (And.intro @RE (And.intro @GR (And.intro @RC (And.intro @CI (And.intro @ID (And.intro @zP (@zR)))))))))))))))))))))))))))))))))))))))
theorem VV3:type_of% (And.intro @zQ (And.intro @xE (And.intro @xF (And.intro @EL (And.intro @bP4 (And.intro @bP5 (And.intro @XK (And.intro @yC (And.intro @bB5 (And.intro @EB (And.intro @qU (And.intro @ET (And.intro @NV (And.intro @yG (And.intro @yH (And.intro @FD (And.intro @OY (And.intro @OZ (And.intro @FC (And.intro @NT (And.intro @PP (And.intro @PK (And.intro @FN (And.intro @PJ (And.intro @FO (And.intro @FM (And.intro @FP (And.intro @NO (And.intro @BC (And.intro @aX6 (And.intro @aA4 (And.intro @QI (And.intro @aX1 (And.intro @QK (And.intro @QQ (And.intro @aA1 (And.intro @GE (And.intro @aX0 (And.intro @aX3 (@QO)))))))))))))))))))))))))))))))))))))))):=
 And.intro @zQ (And.intro @xE (And.intro @xF (And.intro @EL (And.intro @bP4 (And.intro @bP5 (And.intro @XK (And.intro @yC (And.intro @bB5 (And.intro @EB (And.intro @qU (And.intro @ET (And.intro @NV (And.intro @yG (And.intro @yH (And.intro @FD (And.intro @OY (And.intro @OZ (And.intro @FC (And.intro @NT (And.intro @PP (And.intro @PK (And.intro @FN (And.intro @PJ (And.intro @FO (And.intro @FM (And.intro @FP (And.intro @NO (And.intro @BC (And.intro @aX6 (And.intro @aA4 (And.intro @QI (And.intro @aX1 (And.intro @QK (And.intro @QQ (And.intro @aA1 (And.intro @GE (And.intro @aX0 (And.intro @aX3 (@QO)))))))))))))))))))))))))))))))))))))))
theorem VV4:type_of% (And.intro @bR0 (And.intro @QL (And.intro @QM (And.intro @aW9 (And.intro @AE (And.intro @aA6 (And.intro @aX7 (And.intro @aA5 (And.intro @ZW (And.intro @ZX (And.intro @ZZ (And.intro @ZY (And.intro @GD (And.intro @aA0 (And.intro @aX4 (And.intro @aA2 (And.intro @aA3 (And.intro @aX5 (And.intro @bQ9 (And.intro @aW8 (And.intro @ZV (And.intro @QN (And.intro @vH (And.intro @zL (And.intro @zM (And.intro @QR (And.intro @AY (And.intro @GZ (And.intro @QT (And.intro @BT (And.intro @BV (And.intro @AB (And.intro @qD (And.intro @qE (And.intro @QP (And.intro @uV (And.intro @oH (And.intro @iH (And.intro @eR (@sG)))))))))))))))))))))))))))))))))))))))):=
 And.intro @bR0 (And.intro @QL (And.intro @QM (And.intro @aW9 (And.intro @AE (And.intro @aA6 (And.intro @aX7 (And.intro @aA5 (And.intro @ZW (And.intro @ZX (And.intro @ZZ (And.intro @ZY (And.intro @GD (And.intro @aA0 (And.intro @aX4 (And.intro @aA2 (And.intro @aA3 (And.intro @aX5 (And.intro @bQ9 (And.intro @aW8 (And.intro @ZV (And.intro @QN (And.intro @vH (And.intro @zL (And.intro @zM (And.intro @QR (And.intro @AY (And.intro @GZ (And.intro @QT (And.intro @BT (And.intro @BV (And.intro @AB (And.intro @qD (And.intro @qE (And.intro @QP (And.intro @uV (And.intro @oH (And.intro @iH (And.intro @eR (@sG)))))))))))))))))))))))))))))))))))))))
theorem VV5:type_of% (And.intro @jX (And.intro @iG (And.intro @uT (And.intro @aV1 (And.intro @aV0 (And.intro @QS (And.intro @ZU (And.intro @aA7 (And.intro @TV (And.intro @bE7 (And.intro @aD4 (And.intro @aD5 (And.intro @BL (And.intro @RT (And.intro @RU (And.intro @BJ (And.intro @BI (And.intro @HH (And.intro @vS (And.intro @SM (And.intro @MC (And.intro @SN (And.intro @HS (And.intro @HT (And.intro @wV (And.intro @uN (And.intro @uM (And.intro @pT (And.intro @uA (And.intro @RS (And.intro @BH (And.intro @HG (And.intro @HF (And.intro @uB (And.intro @HE (And.intro @HD (And.intro @uO (And.intro @RR (And.intro @aB6 (@bA8)))))))))))))))))))))))))))))))))))))))):=
 And.intro @jX (And.intro @iG (And.intro @uT (And.intro @aV1 (And.intro @aV0 (And.intro @QS (And.intro @ZU (And.intro @aA7 (And.intro @TV (And.intro @bE7 (And.intro @aD4 (And.intro @aD5 (And.intro @BL (And.intro @RT (And.intro @RU (And.intro @BJ (And.intro @BI (And.intro @HH (And.intro @vS (And.intro @SM (And.intro @MC (And.intro @SN (And.intro @HS (And.intro @HT (And.intro @wV (And.intro @uN (And.intro @uM (And.intro @pT (And.intro @uA (And.intro @RS (And.intro @BH (And.intro @HG (And.intro @HF (And.intro @uB (And.intro @HE (And.intro @HD (And.intro @uO (And.intro @RR (And.intro @aB6 (@bA8)))))))))))))))))))))))))))))))))))))))
theorem VV6:type_of% (And.intro @bA9 (And.intro @bB0 (And.intro @SF (And.intro @SD (And.intro @YA (And.intro @aR0 (And.intro @aR2 (And.intro @aR1 (And.intro @l8 (And.intro @wD (And.intro @wE (And.intro @IE (And.intro @aC8 (And.intro @aC7 (And.intro @ZB (And.intro @ZC (And.intro @ZD (And.intro @ZE (And.intro @GA (And.intro @LY (And.intro @l6 (And.intro @MD (And.intro @wZ (And.intro @wY (And.intro @wX (And.intro @lS (And.intro @wS (And.intro @TG (And.intro @ME (And.intro @K1 (And.intro @LW (And.intro @cZ (And.intro @DL (And.intro @uL (And.intro @oK (And.intro @eJ (And.intro @OC (And.intro @OB (And.intro @OA (@EM)))))))))))))))))))))))))))))))))))))))):=
 And.intro @bA9 (And.intro @bB0 (And.intro @SF (And.intro @SD (And.intro @YA (And.intro @aR0 (And.intro @aR2 (And.intro @aR1 (And.intro @l8 (And.intro @wD (And.intro @wE (And.intro @IE (And.intro @aC8 (And.intro @aC7 (And.intro @ZB (And.intro @ZC (And.intro @ZD (And.intro @ZE (And.intro @GA (And.intro @LY (And.intro @l6 (And.intro @MD (And.intro @wZ (And.intro @wY (And.intro @wX (And.intro @lS (And.intro @wS (And.intro @TG (And.intro @ME (And.intro @K1 (And.intro @LW (And.intro @cZ (And.intro @DL (And.intro @uL (And.intro @oK (And.intro @eJ (And.intro @OC (And.intro @OB (And.intro @OA (@EM)))))))))))))))))))))))))))))))))))))))
theorem VV7:type_of% (And.intro @jW (And.intro @aC6 (And.intro @aC4 (And.intro @SP (And.intro @aC5 (And.intro @SW (And.intro @SV (And.intro @SU (And.intro @SS (And.intro @CF (And.intro @SQ (And.intro @SX (And.intro @xQ (And.intro @HW (And.intro @FE (And.intro @HU (And.intro @HV (And.intro @rW (And.intro @uS (And.intro @nT (And.intro @SZ (And.intro @IC (And.intro @CH (And.intro @IB (And.intro @SY (And.intro @dB (And.intro @fD (And.intro @bO7 (And.intro @bO6 (And.intro @bO5 (And.intro @bO4 (And.intro @bO3 (And.intro @bO9 (And.intro @bO2 (And.intro @bP0 (And.intro @bO8 (And.intro @DP (And.intro @DQ (And.intro @UE (@aN6)))))))))))))))))))))))))))))))))))))))):=
 And.intro @jW (And.intro @aC6 (And.intro @aC4 (And.intro @SP (And.intro @aC5 (And.intro @SW (And.intro @SV (And.intro @SU (And.intro @SS (And.intro @CF (And.intro @SQ (And.intro @SX (And.intro @xQ (And.intro @HW (And.intro @FE (And.intro @HU (And.intro @HV (And.intro @rW (And.intro @uS (And.intro @nT (And.intro @SZ (And.intro @IC (And.intro @CH (And.intro @IB (And.intro @SY (And.intro @dB (And.intro @fD (And.intro @bO7 (And.intro @bO6 (And.intro @bO5 (And.intro @bO4 (And.intro @bO3 (And.intro @bO9 (And.intro @bO2 (And.intro @bP0 (And.intro @bO8 (And.intro @DP (And.intro @DQ (And.intro @UE (@aN6)))))))))))))))))))))))))))))))))))))))
theorem VV8:type_of% (And.intro @bE6 (And.intro @bR5 (And.intro @bR4 (And.intro @vK (And.intro @FS (And.intro @FQ (And.intro @zF (@zE)))))))):=
 And.intro @bE6 (And.intro @bR5 (And.intro @bR4 (And.intro @vK (And.intro @FS (And.intro @FQ (And.intro @zF (@zE)))))))
theorem VV9:type_of% (And.intro @Bool.false_eq_true (And.intro @Bool.not_true (And.intro @Bool.not_false (And.intro @Int.toNat_natCast (And.intro @Nat.zero_add (And.intro @Nat.add_zero (And.intro @Nat.mul_one (And.intro @Int.add_sub_cancel (And.intro @Bool.and_true (And.intro @Bool.true_and (And.intro @Bool.and_self (And.intro @true_or (And.intro @not_true_eq_false (And.intro @not_false_eq_true (And.intro @decide_true (And.intro @decide_false (And.intro @Option.map_some.{0,0} (And.intro @Option.bind_some.{0,0} (And.intro @List.cons_append.{0} (And.intro @List.nil_append.{0} (And.intro @List.map_cons.{0,0} (And.intro @List.map_nil.{0,0} (And.intro @List.append_nil.{0} (And.intro @Option.toList_some.{0} (And.intro @Option.toList_none.{0} (And.intro @if_true.{1} (And.intro @if_false.{1} (And.intro @List.length_cons.{0} (And.intro @List.length_nil.{0} (And.intro @List.length_singleton.{0} (And.intro @eq_self.{1} (And.intro @List.drop_zero.{0} (And.intro @List.drop_succ_cons.{0} (And.intro @Option.some.injEq.{0} (And.intro @Prod.mk.injEq.{0,0} (And.intro @List.set_cons_zero.{0} (@List.set_cons_succ.{0}))))))))))))))))))))))))))))))))))))):=
 And.intro @Bool.false_eq_true (And.intro @Bool.not_true (And.intro @Bool.not_false (And.intro @Int.toNat_natCast (And.intro @Nat.zero_add (And.intro @Nat.add_zero (And.intro @Nat.mul_one (And.intro @Int.add_sub_cancel (And.intro @Bool.and_true (And.intro @Bool.true_and (And.intro @Bool.and_self (And.intro @true_or (And.intro @not_true_eq_false (And.intro @not_false_eq_true (And.intro @decide_true (And.intro @decide_false (And.intro @Option.map_some.{0,0} (And.intro @Option.bind_some.{0,0} (And.intro @List.cons_append.{0} (And.intro @List.nil_append.{0} (And.intro @List.map_cons.{0,0} (And.intro @List.map_nil.{0,0} (And.intro @List.append_nil.{0} (And.intro @Option.toList_some.{0} (And.intro @Option.toList_none.{0} (And.intro @if_true.{1} (And.intro @if_false.{1} (And.intro @List.length_cons.{0} (And.intro @List.length_nil.{0} (And.intro @List.length_singleton.{0} (And.intro @eq_self.{1} (And.intro @List.drop_zero.{0} (And.intro @List.drop_succ_cons.{0} (And.intro @Option.some.injEq.{0} (And.intro @Prod.mk.injEq.{0,0} (And.intro @List.set_cons_zero.{0} (@List.set_cons_succ.{0}))))))))))))))))))))))))))))))))))))
theorem b9:type_of% (And.intro (@List.length_map.{0,0}) (And.intro (@List.length_set.{0}) (And.intro (@List.length_replicate.{0}) (And.intro (@List.length_cons.{0}) (And.intro (@List.length_nil.{0}) (@List.length_append.{0})))))):=
 And.intro (@List.length_map.{0,0}) (And.intro (@List.length_set.{0}) (And.intro (@List.length_replicate.{0}) (And.intro (@List.length_cons.{0}) (And.intro (@List.length_nil.{0}) (@List.length_append.{0})))))
def b8 (d:Nat) (p:N0):j6:=⟨some d,none,p⟩
def a7 (d k:Nat):j6:=⟨some d,none,.mov (.tmp k)⟩
def B6 (d k j:Nat):j6:=⟨some d,none,.ext (.tmp k) j⟩
def P9 (d f k:Nat):j6:=⟨some d,none,.callF f [.tmp k]⟩
def O6 (d k:Nat):j6:=⟨some d,none,.load none (.tmp k)⟩
def S9 (d j k:Nat):j6:=⟨some d,none,.fldA j (.tmp k)⟩
def o0 (n:Int):Operand:=.const (.int .i64 n)
def K9 (n:Int):Operand:=.const (.int .u8 n)
def H2 (d g:Nat) (p:N0):j6:=⟨some d,some (g,false),p⟩
def n8 (d g:Nat) (p:N0):j6:=⟨some d,some (g,true),p⟩
def o7 (d k:Nat) (b:BinOp) (x:Operand):j6:=⟨some d,none,.bin b (.tmp k) x⟩
def E2 (d:Nat) (n:Int):j6:=⟨some d,none,.mov (.const (.int .i64 n))⟩
theorem WA:type_of% (And.intro @b8.eq_1 (And.intro @a7.eq_1 (And.intro @B6.eq_1 (And.intro @P9.eq_1 (And.intro @O6.eq_1 (And.intro @S9.eq_1 (And.intro @o0.eq_1 (And.intro @K9.eq_1 (And.intro @H2.eq_1 (And.intro @n8.eq_1 (And.intro @o7.eq_1 (And.intro @E2.eq_1 (And.intro VV0 (And.intro VV1 (And.intro VV2 (And.intro VV3 (And.intro VV4 (And.intro VV5 (And.intro VV6 (And.intro VV7 (And.intro VV8 (And.intro VV9 (And.intro @ZI.eq_1 (And.intro @V4.eq_1 (And.intro @V4.eq_2 (And.intro @scL.eq_1 (And.intro @AW.eq_1 (And.intro @X8.eq_1 (@X8.eq_2))))))))))))))))))))))))))))):=And.intro @b8.eq_1 (And.intro @a7.eq_1 (And.intro @B6.eq_1 (And.intro @P9.eq_1 (And.intro @O6.eq_1 (And.intro @S9.eq_1 (And.intro @o0.eq_1 (And.intro @K9.eq_1 (And.intro @H2.eq_1 (And.intro @n8.eq_1 (And.intro @o7.eq_1 (And.intro @E2.eq_1 (And.intro VV0 (And.intro VV1 (And.intro VV2 (And.intro VV3 (And.intro VV4 (And.intro VV5 (And.intro VV6 (And.intro VV7 (And.intro VV8 (And.intro VV9 (And.intro @ZI.eq_1 (And.intro @V4.eq_1 (And.intro @V4.eq_2 (And.intro @scL.eq_1 (And.intro @AW.eq_1 (And.intro @X8.eq_1 (@X8.eq_2))))))))))))))))))))))))))))
end Go.Itp
namespace Go.Itp
open Go.RowKit (Below)
set_option linter.unusedVariables false
def XW:Value→Bool
 | .string _=>true
 | .int _ _=>true
 | .bool _=>true
 |_=>false
def fnP (f0:FuncId) (F:List Value→Option Value) (f:FuncId) (xs:List Value) (_:St):Option (Value × List w9):=
 if Nat.beq f f0 then (F xs).map fun v=>(v,[]) else none
theorem aB8 {μ:Mu}:∀ {v:Value},XW v=true→tr μ v=some v
 | .string _,_=>by simp[tr]
 | .int _ _,_=>by simp[tr]
 | .bool _,_=>by simp[tr]
theorem SH {μ:Mu}:∀ {xs:List Value},xs.all XW=true→E0 μ xs=some xs
 | [],_=>by simp[E0]
 |x::xs,h=>by
  simp only[List.all_cons,Bool.and_eq_true] at h
  simp[E0,aB8 h.1,SH h.2]
theorem VD {P:Program} {f0:FuncId} {F:List Value→Option Value} {w0:World} (hen:IL P f0) (hx:∀ xs v,F xs=some v→xs.all XW=true∧XW v=true)
  (hc:∀ xs v,F xs=some v→∀ w,Below w0.heap.size w0 w→Calls P f0 xs.toArray w fun e w'=>e= .returned v∧Below w.heap.size w w'):V6 P (fnP f0 F) w0:=by
 intro f xs s v bs h G μ w cs hG hr hx'
 unfold fnP at h
 split at h
 case isFalse=>cases h
 rename_i hf
 have:=j5.1 hf
 subst this
 simp only[Option.map_eq_some_iff,Prod.mk.injEq] at h
 obtain ⟨v',hv,rfl,rfl⟩:=h
 obtain ⟨h1,h2⟩:=hx xs _ hv
 rw[SH h1] at hx'
 cases hx'
 exact eI hen hr (hc xs _ hv w (by rw[← hG];exact hr.b0)) (aB8 h2)
theorem bU1 {old:Nat→Nat→Option Value} {rounds:Nat} {fns:FuncId→Option s6} {prims:FuncId→List Value→St→Option (Value × List w9)} {n:Nat} {f0:FuncId} {F:List Value→Option Value} {st:m8} {ys:List Value} {v:Value} (hF:F ys=some v) (hv:F8 v=true) (hp:∀ xs s r,fnP f0 F f0 xs s=some r→prims f0 xs s=some r):
  J9 (w8 old rounds fns prims (n+1)) f0 st (ys.map V.sc) (.sc v):=
 aW5 (fun s=>hp _ _ _ (by unfold fnP;rw[if_pos (j5.2 rfl),hF];rfl)) hv
def aP8 (st:m8) (n o k:Nat) (ys:List V):Option Obj→Option (V × m8 × T0)
 |some (.box t e l)=>if Nat.ble st.ro o && Nat.beq ys.length n && bK6 ys then (F4 l k ys).map fun l=>(.tup [],⟨A3 st.own o (.box t e l),st.next,st.ro⟩,⟨[o],[o],[],false,false⟩) else none
 |_=>none
theorem UU (st:m8) (n o k:Nat) (ys:List V):lY st n (some (.ptr o k)) (some (.agg ys))=aP8 st n o k ys (d9 st.own o):=by
 simp only[lY]
 cases d9 st.own o with
 |none=>rfl
 |some ob=>cases ob<;>rfl
theorem bG7 (st:m8) (o t e:Nat) (w0 w1:V) (a:Value) (s n:Nat) (l:List D) (hro:st.ro≤o):aP8 st 2 o 0 [.sc a,.sl s n l] (some (.box t e [w0,w1]))=some (.tup [],⟨A3 st.own o (.box t e [.sc a,.sl s n l]),st.next,st.ro⟩,⟨[o],[o],[],false,false⟩):=by
 simp only[aP8]
 rw[if_pos (by simp only[Bool.and_eq_true,Nat.ble_eq];exact ⟨⟨hro,rfl⟩,rfl⟩)]
 rfl
theorem aK7 {old:Nat→Nat→Option Value} {f:E8} {st:m8} (a x:Operand) (h:Option (List Nat)):Z0 old f st (.store 2 a x) h=lY st 2 (p6 f a) (p6 f x):=aK8 2 rfl a x h
def OX:List Value→Option Value
 | [.string s,.string t]=>if s.size<4294967281 then some (.int .i64 (Lib.index s.data.toList t.data.toList)) else none
 |_=>none
def AK:List Value→Option Value
 | [.string s,.string t,.string u,.int .i64 n]=>if s.size<4294967281∧1≤t.size∧s.size+Lib.countB s t*u.size≤140737488355328 then some (.string ⟨(Lib.replace s.data.toList t.data.toList u.data.toList n).toArray⟩) else none
 |_=>none
def MY:List Value→Option Value
 | [.string s,.string t]=>if s.size<4294967281∧1≤t.size then some (.int .i64 (Lib.countB s t)) else none
 |_=>none
end Go.Itp
namespace Go.Itp
open Go.ChangeShapes Go.WideShapes Go.ChangeAt Go.RowKit
set_option linter.unusedVariables false

end Go.Itp
namespace Go.Itp
set_option linter.unusedVariables false
set_option linter.constructorNameAsVariable false
section
variable {C:D7} {st:m8} {fr:E8}
theorem rP {s n:Nat} {l:List D} (h:s ≠ 1∨n ≠ 0):T3 C st (.sl s n l) (.sl 3 n l):=by
 intro s' μ F u h1 hv
 simp only[b7,A6] at hv ⊢
 rcases hv with ⟨a,c,rfl,i,k,r,q⟩|⟨h2,rfl,rfl,rfl|⟨h3,_⟩⟩
 ·exact .inl ⟨a,c,rfl,i,k,r,fun h=>by cases h⟩
 ·exact .inr ⟨by omega,rfl,rfl,.inl rfl⟩
 ·rcases h with h|h
  ·exact absurd h3 h
  ·exact absurd rfl h
theorem mP:T3 C st (.sc (.slice none 0 0)) (.sl 3 0 []):=by
 intro s μ F u h1 hv
 rw[hv.scv]
 simp only[b7,A6]
 refine .inr ⟨by omega,?_,?_,.inl ?_⟩<;>trivial
theorem V5 {v:V} {x:Value} {s n:Nat} {l:List D} (hs:w6 st.own v=some (.sl s n l)) (hrow:D8 st.ro st.own (eB v)=true) (hk:s ≠ 1∨n ≠ 0) (h0:C.w0.nx=0) (hro:st.ro=0):N4 C [(0,.tup [v,.sc x])] st [(0,.tup [.sl 3 n l,.sc x])] ⟨[],0,0⟩:=by
 have e1:eB (.tup [v,.sc x])=eB v:=by simp[eB,bH]
 have e2:w6 st.own (.tup [v,.sc x])=some (.tup [.sl s n l,.sc x]):=by simp[w6,K7,hs]
 refine (gT (t:=0) (v:= .tup [v,.sc x]) rfl e2 (by rw[e1];exact hrow)).trans ?_
 refine (P4 (t:=0) (v:= .tup [.sl s n l,.sc x]) (v':= .tup [.sl 3 n l,.sc x]) rfl (GX (rP hk))).trans ?_
 exact v6 [] 0 h0 hro rfl rfl rfl
theorem L9 {x:Value} (h0:C.w0.nx=0) (hro:st.ro=0):N4 C [(0,.tup [.sc (.slice none 0 0),.sc x])] st [(0,.tup [.sl 3 0 [],.sc x])] ⟨[],0,0⟩:=
 (P4 (t:=0) (v:= .tup [.sc (.slice none 0 0),.sc x]) (v':= .tup [.sl 3 0 [],.sc x]) rfl (GX mP)).trans (v6 [] 0 h0 hro rfl rfl rfl)
theorem G9 {n:Nat} {l:List D} {x:Value}:cY [] (.tup [.sl 3 n l,.sc x]):=gB (by simp only[Cl,IJ,and_true];rfl)
end
section
variable {C:D7} {st:m8} {fr:E8}
theorem GY {a a' b b' c:V} (h:T3 C st a a') (k:T3 C st b b'):T3 C st (.tup [a,b,c]) (.tup [a',b',c]):=by
 intro s μ F u h1 hv
 simp only[b7,d8] at hv ⊢
 obtain ⟨vs,rfl,v1,_,rfl,q1,v2,_,rfl,q2,v3,_,rfl,q3,rfl⟩:=hv
 exact ⟨_,rfl,v1,_,rfl,h s μ F v1 h1 q1,v2,_,rfl,k s μ F v2 h1 q2,v3,_,rfl,q3,rfl⟩
end
section
variable {old:Nat→Nat→Option Value} {rounds:Nat} {fns:FuncId→Option s6} {prims:FuncId→List Value→St→Option (Value × List w9)} {n:Nat} {f:FuncId} {C:D7} {st:m8}
theorem UI {v:V} {Q:V→m8→Prop} (hC:C.E=w8 old rounds fns prims (n+1)) (hp:∀ x s,prims f [x] s=some (x,[])) (hq:Q v st):X3 C f [v] st Q:=by
 refine ⟨v,st,hq,fun s μ F xsI hsr hx hpr=>?_⟩
 simp only[d8] at hx
 obtain ⟨vI,_,rfl,h1,rfl⟩:=hx
 refine ⟨vI,s,μ,F,?_,hsr,h1,VW.le.refl _,rfl,Nat.le_refl _,fun b hb=> .inl hb⟩
 simp only[callI,hC,N1,hp]
 rfl
end
theorem oI (g:Bool) (o k:Nat):sU 0 g (.ptr o k) (.sc (.pointer none))=some (.sc (.bool g)):=by cases g<;>rfl
theorem yB (g:Bool):sU 0 g (.sc (.pointer none)) (.sc (.pointer none))=some (.sc (.bool (!g))):=by cases g<;>rfl
theorem sF {α:Type}:∀ (r:List (Nat × α)) (i j:Nat) (v:α),i ≠ j→L0 i (A3 r j v)=A3 (L0 i r) j v
 | [],i,j,v,h=>rfl
 |(k,u)::r,i,j,v,h=>by
  simp only[K1,cZ]
  by_cases h1:j=k
  ·subst h1
   rw[if_pos rfl,cZ,if_neg h,if_neg h,K1,if_pos rfl]
  ·rw[if_neg h1,cZ]
   by_cases h2:i=k
   ·rw[if_pos h2,if_pos h2];exact sF r i j v h
   ·rw[if_neg h2,if_neg h2,K1,if_neg h1,sF r i j v h]
section
variable {C:D7} {st:m8}
theorem aZ8 {o:Nat}:T3 C st (.gr 2 o 0) (.sc (.slice none 0 0)):=by
 intro s' μ F u h1 hv
 simp only[b7] at hv ⊢
 rcases hv.2 with ⟨_,h|⟨h,_⟩⟩|⟨h,_⟩
 ·exact ⟨h,rfl⟩
 ·exact absurd rfl h
 ·exact absurd rfl h
end
section
variable {old:Nat→Nat→Option Value} {rounds:Nat} {fns:FuncId→Option s6} {prims:FuncId→List Value→St→Option (Value × List w9)} {n:Nat} {f:FuncId} {xs:List V} {v:V} {st st1:m8} {af:s6} {C:D7}
theorem aO5 {st':m8} {Q:V→m8→Prop} (hC:C.E=w8 old rounds fns prims (n+1)) (hf:fns f=some af) (hpu:af.pure=false) (hp:∀ xs s,prims f xs s=none) (hlen:xs.length≤af.n) (hq:Q v st1)
  (hW:∀ C':D7,C'.w0.nx=st.next→N4 C' (V4 0 xs) st (V4 0 xs) st') (h:∀ C':D7,C'.E=w8 old rounds fns prims n→C'.w0.nx=st.next→gC C' af.code [] (V4 0 xs) st' (sE C' af.res v st1)):X3 C f xs st Q:=by
 refine ⟨v,st1,hq,fun s μ F xsI hsr hx hpr=>?_⟩
 let C':D7:=⟨w8 old rounds fns prims n,s.next,s.heap,C.U,⟨n6 (w8 old rounds fns prims n) s.heap,F,μ,st.next⟩,C.p0⟩
 have hE:n6 C'.E=n6 C.E:=by rw[hC];exact X5 _ _
 have hs':SR C' st s μ F:=hsr.env2 hE (Nat.le_refl _) (fun b=>⟨fun hb=>⟨by have:=(hsr.un b hb).1;have:=hsr.n0;show b<s.next;omega,rfl⟩,fun hb=>hb⟩)
 have hx':d8 (w7 C' st s μ F) xs xsI:=by
  show d8 ⟨n6 C'.E s.heap,F,μ,st.next⟩ xs xsI
  rw[hE];exact hx
 obtain ⟨vI,sf,hbody,μ',G,g1,g2,g3,g4,g5⟩:=sJ (C:=C') (s:=s) hlen (h C' rfl rfl) (hW C' rfl s (fB 0 xsI) ⟨μ,F,hs',dY 0 hx',VW.le.refl _,hpr,fun b hb=> .inl hb⟩) hx.length
 have hn:s.next≤sf.next:=g1.n0
 have hw:w7 C st1 sf μ' G=w7 C' st1 sf μ' G:=by
  show (⟨n6 C.E sf.heap,G,μ',st1.next⟩:VW)=⟨n6 C'.E sf.heap,G,μ',st1.next⟩
  rw[hE]
 have g1':SR C st1 sf μ' G:=g1.env2 hE.symm (by have:=hsr.n0;omega) (fun b=>⟨fun hb=>⟨(hsr.un b hb).1,by rw[(g1.un b hb).2];exact (hsr.un b hb).2⟩,fun hb=>hb⟩)
 refine ⟨vI,sf,μ',G,?_,g1',by rw[hw];exact g2,?_,by rw[g4,hpr],hn,fun b hb=>?_⟩
 ·simp only[callI,hC,N1,uQ,hp,hf,Option.bind_some,hpu]
  exact hbody
 ·rw[hw]
  show VW.le ⟨n6 C.E s.heap,F,μ,st.next⟩ _
  rw[← hE];exact g3
 ·rcases g5 b hb with hb|hb
  ·exact .inl hb
  ·exact .inr (by rw[hpr];exact hb)
end
def bD (b:UInt8):D:= .sc (.int .u8 b.toNat)
def gF (s:ByteArray):List D:=s.data.toList.map bD
theorem bL3 (s:ByteArray):s.data.toList.map (fun b=>D.sc (.int .u8 b.toNat))=gF s:=(rfl)
theorem RZ (a b:ByteArray):gF (a++b)=gF a++gF b:=by simp[gF]
theorem BN (s:ByteArray):(gF s).length=s.size:=by simp[gF]
theorem bL4 (s:ByteArray):W7 (gF s)=true:=by
 unfold W7 gF
 rw[List.all_eq_true]
 intro d hd
 obtain ⟨b,_,rfl⟩:=List.mem_map.1 hd
 rfl
theorem oF:∀ (l:List UInt8),B3 (l.map bD)=some l
 | []=>rfl
 |b::r=>by
  have:=oF r
  rw[List.map_cons]
  show (B3 (r.map bD)).map (UInt8.ofNat ((b.toNat:Int)).toNat::·)=some (b::r)
  rw[this]
  simp
theorem aL7 (st:m8) (t:TypeId):CO st t (.sc (.pointer none)) (.sc (.int .i64 0))=some (.sc (.string .empty),st):=(rfl)
theorem aL6 (st:m8) (t e o:Nat) (s:ByteArray) (ho:d9 st.own o=some (.gro t e false (gF s))) (hro:st.ro≤o) (h0:0<s.size) (h1:s.size≤1099511627776):CO st t (.ptr o 0) (.sc (.int .i64 s.size))=some (.sc (.string s),⟨L0 o st.own,st.next,st.ro⟩):=by
 simp only[CO,ho]
 rw[if_pos ⟨by omega,by unfold s9;omega,by rw[Nat.ble_eq];exact hro⟩]
 have e1:(Nat.beq t t && !false)=true:=by rw[(j5 (i:=t) (j:=t)).2 rfl];rfl
 rw[if_pos e1]
 have e2:D4 ((gF s).drop 0) ((s.size:Int)).toNat=some (gF s):=by
  rw[List.drop_zero,Int.toNat_natCast,Y3 _ _ (by rw[BN];exact Nat.le_refl _),List.take_of_length_le (by rw[BN];exact Nat.le_refl _)]
 rw[e2]
 simp only[Option.bind_some,gF,oF,Option.map_some]
def iD (x:Int):D:= .sc (.int .i64 x)
def RdV (st:m8) (v:V) (l:List Int):Prop:=(∃ s,v= .sl s l.length (l.map iD))∨(∃ s o t z,v= .gr s o l.length∧d9 st.own o=some (.gro t 1 z (l.map iD)))∨(∃ o c t g z,v= .ref o 0 l.length c∧d9 st.own o=some (.row t 1 g z (l.map iD)))∨(v= .sc (.slice none 0 0)∧l= [])
structure Rdv (H:F3) (v:V) (l:List Int) (p:Nat→V):Prop where
 len:qQ false v=some (.sc (.int .i64 l.length))
 idx:∀ i:Int,0≤i→i<l.length→kI 1 v (.sc (.int .i64 i))=some (p i.toNat)
 ld:∀ (old:Nat→Nat→Option Value) (k:Nat),k<l.length→eA old H none (some (p k))=some (.sc (.int .i64 l[k]!))
theorem RdV.sl (st:m8) (s:Nat) (l:List Int):RdV st (.sl s l.length (l.map iD)) l:= .inl ⟨s,rfl⟩
theorem RdV.gr {st:m8} {s o t:Nat} {z:Bool} {l:List Int} (h:d9 st.own o=some (.gro t 1 z (l.map iD))):RdV st (.gr s o l.length) l:= .inr (.inl ⟨s,o,t,z,rfl,h⟩)
theorem RdV.ref {st:m8} {o c t:Nat} {g z:Bool} {l:List Int} (h:d9 st.own o=some (.row t 1 g z (l.map iD))):RdV st (.ref o 0 l.length c) l:= .inr (.inr (.inl ⟨o,c,t,g,z,rfl,h⟩))
set_option maxRecDepth 100000
set_option linter.unusedSimpArgs false
section
variable {old:Nat→Nat→Option Value} {rounds:Nat} {fns:FuncId→Option s6} {prims:FuncId→List Value→St→Option (Value × List w9)} {n:Nat} {f:FuncId} {C:D7} {st:m8}
end
theorem bG1 {H:F3} {o t:Nat} {g z:Bool} {L:List UInt8} (h:d9 H o=some (.row t 1 g z (L.map bD))) (c:Nat):aN4 H (.ref o 0 L.length c)=some (.sc (.string ⟨L.toArray⟩)):=by
 have e:((L.map bD).drop 0).take (L.length*1)=L.map bD:=by rw[List.drop_zero,Nat.mul_one,List.take_of_length_le (by simp)]
 simp only[aN4,okV,Z5,Option.bind_some,if_true,M5,h,List.length_map,Nat.zero_add,Nat.mul_one,Nat.le_refl]
 rw[Nat.mul_one] at e
 rw[e]
 simp[oF]
theorem cH7 (k:Nat) (h:k<256):bD (UInt8.ofNat k)= .sc (.int .u8 k):=by
 unfold bD
 rw[UInt8.toNat_ofNat_of_lt' h]
theorem DT (l m:List UInt8):(⟨l.toArray⟩:ByteArray)++⟨m.toArray⟩=⟨(l++m).toArray⟩:=by
 apply ByteArray.ext
 simp
theorem p9 (l:List UInt8):(⟨l.toArray⟩:ByteArray).size=l.length:=by simp[ByteArray.size]
theorem N2 (l m:List UInt8) (h:l.length+m.length<9223372036854775807):N5 .add (.string ⟨l.toArray⟩) (.string ⟨m.toArray⟩)=some (.string ⟨(l++m).toArray⟩):=by
 rw[aN5 _ _ (by rw[p9,p9];exact h),DT]
theorem II (k:Nat) (h:k<256):IntKind.wrap .u8 (k:Int)=k:=by
 simp[IntKind.wrap,IntKind.signed,IntKind.bits]
 omega
theorem XJ {H:F3} {o t:Nat} {g z:Bool} (k:Nat) (hk:k<256) (h:d9 H o=some (.row t 1 g z [.sc (.int .u8 (k:Int))])) (c:Nat):aN4 H (.ref o 0 1 c)=some (.sc (.string ⟨[UInt8.ofNat k].toArray⟩)):=
 bG1 (L:= [UInt8.ofNat k]) (g:=g) (z:=z) (t:=t) (by rw[List.map_cons,List.map_nil,cH7 k hk];exact h) c
def n7 (c:UInt8):List UInt8→List (List UInt8)
 | []=> [[]]
 |b::r=>if b=c then []::n7 c r else match n7 c r with
   | []=> [[b]]
   |w::ws=>(b::w)::ws
def join (c:UInt8):List (List UInt8)→List UInt8
 | []=> []
 | [w]=>w
 |w::v::ws=>w++c::join c (v::ws)
theorem gU (c:UInt8):∀ s,n7 c s ≠ []
 | []=>by simp[n7]
 |b::r=>by
  simp only[n7]
  split
  ·simp
  ·split<;>simp
theorem S1 {c:UInt8}:∀ {s:List UInt8},c ∉ s→n7 c s= [s]
 | [],_=>rfl
 |b::r,h=>by
  rw[List.mem_cons,not_or] at h
  have ih:=S1 h.2
  simp only[n7]
  rw[if_neg (fun e=>h.1 e.symm),ih]
theorem H5 {c:UInt8}:∀ {a:List UInt8} (r:List UInt8),c ∉ a→n7 c (a++c::r)=a::n7 c r
 | [],r,_=>by simp[n7]
 |b::a,r,h=>by
  rw[List.mem_cons,not_or] at h
  have ih:=H5 r h.2
  rw[List.cons_append,n7,if_neg (fun e=>h.1 e.symm),ih]
theorem W1 (c:UInt8):∀ s:List UInt8,c ∉ s∨∃ a r,s=a++c::r∧c ∉ a
 | []=> .inl (by simp)
 |b::s=>by
  by_cases h:b=c
  ·subst h;exact .inr ⟨[],s,rfl,by simp⟩
  ·rcases W1 c s with h2|⟨a,r,rfl,h2⟩
   ·exact .inl (by rw[List.mem_cons,not_or];exact ⟨fun e=>h e.symm,h2⟩)
   ·exact .inr ⟨b::a,r,rfl,by rw[List.mem_cons,not_or];exact ⟨fun e=>h e.symm,h2⟩⟩
theorem pH {c:UInt8}:∀ {ws:List (List UInt8)},ws ≠ []→(∀ w ∈ ws,c ∉ w)→n7 c (join c ws)=ws
 | [],h,_=>absurd rfl h
 | [w],_,h=>S1 (h w (by simp))
 |w::v::ws,_,h=>by
  rw[join,H5 _ (h w (by simp)),pH (by simp) fun x hx=>h x (List.mem_cons_of_mem _ hx)]
theorem tJ {c:UInt8}:∀ (ws:List (List UInt8)) (w:List UInt8),ws ≠ []→join c (ws++ [w])=join c ws++c::w
 | [],w,h=>absurd rfl h
 | [v],w,_=>rfl
 |v::u::ws,w,_=>by
  have:=tJ (c:=c) (u::ws) w (by simp)
  simp only[List.cons_append,join,List.append_assoc] at this ⊢
  rw[this]
theorem words_len {c:UInt8}:∀ (n:Nat) {s:List UInt8},s.length≤n→(n7 c s).length≤s.length+1∧∀ w ∈ n7 c s,w.length≤s.length
 |n,s,hn=>by
  rcases W1 c s with h|⟨a,r,rfl,h⟩
  ·rw[S1 h];simp
  ·rw[H5 r h]
   cases n with
   |zero=>simp at hn
   |succ n=>
    have ih:=words_len (c:=c) n (s:=r) (by simp at hn;omega)
    refine ⟨by simp only[List.length_cons,List.length_append];omega,fun w hw=>?_⟩
    rcases List.mem_cons.1 hw with rfl|hw
    ·simp only[List.length_cons,List.length_append];omega
    ·have:=ih.2 w hw
     simp only[List.length_cons,List.length_append];omega
theorem sW (l:List UInt8) (i j:Nat):(⟨l.toArray⟩:ByteArray).extract i j=⟨((l.drop i).take (j - i)).toArray⟩:=by
 apply ByteArray.ext
 apply Array.ext'
 rw[ByteArray.data_extract]
 simp
theorem aG7 (k:IntKind) (z:Int) (n:Nat) (h0:0≤z) (h1:z<n):y6 (.int k z) n=some z.toNat:=by
 simp only[y6];rw[if_pos ⟨h0,h1⟩]
theorem lT (k:IntKind) (z:Int) (d n:Nat) (h0:0≤z) (h1:z≤n):u6 (some (.int k z)) d n=some z.toNat:=by
 simp only[u6];rw[if_pos ⟨h0,h1⟩]
theorem Y1 (l:List UInt8) (k:IntKind) (z:Int) (h0:0≤z) (h1:z<l.length):iL (.sc (.string ⟨l.toArray⟩)) (.sc (.int k z))=some (.sc (.int .u8 (l[z.toNat]!).toNat)):=by
 simp only[iL]
 rw[aG7 _ _ _ h0 (by rw[p9];exact h1)]
 have hz:z.toNat<l.length:=by omega
 simp only[Option.bind_some,y7,List.getElem?_eq_getElem hz]
 rw[getElem!_pos l z.toNat hz]
theorem aJ2 (l:List UInt8) (k j:IntKind) (a b:Int) (h0:0≤a) (h1:a≤b) (h2:b≤l.length):jI (some (.int k a)) (some (.int j b)) (.sc (.string ⟨l.toArray⟩))=some (.sc (.string ⟨((l.drop a.toNat).take (b.toNat - a.toNat)).toArray⟩)):=by
 simp only[jI]
 rw[lT _ _ _ _ (by omega) (by rw[p9];exact h2),Option.bind_some,lT _ _ _ _ h0 (by omega),Option.bind_some,sW]
theorem rR (l:List UInt8) (j:IntKind) (b:Int) (h0:0≤b) (h2:b≤l.length):jI none (some (.int j b)) (.sc (.string ⟨l.toArray⟩))=some (.sc (.string ⟨(l.take b.toNat).toArray⟩)):=by
 simp only[jI]
 rw[lT _ _ _ _ (by omega) (by rw[p9];exact h2),Option.bind_some,show u6 none 0 b.toNat=some 0 from rfl,Option.bind_some,sW]
 simp
theorem cM (l:List UInt8) (k:IntKind) (a:Int) (h0:0≤a) (h1:a≤l.length):jI (some (.int k a)) none (.sc (.string ⟨l.toArray⟩))=some (.sc (.string ⟨(l.drop a.toNat).toArray⟩)):=by
 simp only[jI]
 rw[show u6 none (ByteArray.mk l.toArray).size (ByteArray.mk l.toArray).size=some l.length by rw[p9];rfl,Option.bind_some,lT _ _ _ _ h0 (by omega),Option.bind_some,sW]
 rw[List.take_of_length_le (by simp)]
theorem bW (l m:List UInt8):((⟨l.toArray⟩:ByteArray)=⟨m.toArray⟩)=(l=m):=by
 refine propext ⟨fun h=>?_,fun h=>by rw[h]⟩
 have:=congrArg (fun b:ByteArray=>b.data.toList) h
 simpa using this
theorem J9.env {E E':F7} {f:FuncId} {st:m8} {xs:List V} {v:V} (h:J9 E f st xs v) (hp:E'.pcall=E.pcall) (ho:E'.old=E.old):J9 E' f st xs v:=by
 have ha:n6 E'=n6 E:=UD ho
 intro s μ F xsI w0 hsr hx
 have hw:w7 (C1 E' s w0) ⟨st.own,st.next,st.next⟩ ⟨s.heap,s.next,s.next⟩ μ F=w7 (C1 E s w0) ⟨st.own,st.next,st.next⟩ ⟨s.heap,s.next,s.next⟩ μ F:=by
  show (⟨n6 E' s.heap,F,μ,st.next⟩:VW)=⟨n6 E s.heap,F,μ,st.next⟩
  rw[ha]
 have hsr':SR (C1 E s w0) ⟨st.own,st.next,st.next⟩ ⟨s.heap,s.next,s.next⟩ μ F:=hsr.env (C':=C1 E s w0) ha.symm rfl rfl rfl
 obtain ⟨vI,e,hv⟩:=h s μ F xsI w0 hsr' (by rw[← hw];exact hx)
 exact ⟨vI,by rw[hp];exact e,hv⟩
theorem aL9 {C:D7} {fr:E8} {own own':F3} {nx ro:Nat} (h:∀ o ob,d9 own' o=some ob→d9 own o=some ob):N4 C fr ⟨own,nx,ro⟩ fr ⟨own',nx,ro⟩:=by
 rintro s frI ⟨μ,F,h1,hf,h3,h4,h5⟩
 let μ':Nat→Option Nat:=fun o=>if (d9 own' o).isSome then μ o else none
 have hμ:∀ o b,μ' o=some b→μ o=some b∧∃ ob,d9 own' o=some ob:=fun o b e=>by
  simp only[μ'] at e
  split at e
  ·rename_i hs;exact ⟨e,Option.isSome_iff_exists.1 hs⟩
  ·cases e
 have hμ2:∀ o b ob,d9 own' o=some ob→μ o=some b→μ' o=some b:=fun o b ob e1 e2=>by
  simp only[μ',e1,Option.isSome_some,if_true];exact e2
 have hle:VW.le (w7 C ⟨own,nx,ro⟩ s μ F) (w7 C ⟨own',nx,ro⟩ s μ' F):=⟨fun _ _=>rfl,fun _ hb=>hb,Nat.le_refl _,fun o b _ e=>(hμ o b e).1⟩
 refine ⟨μ',F,⟨?_,?_,?_,?_,?_,h1.lt,h1.cl,h1.un,h1.n0,?_,h1.hb,h1.pr,?_⟩,hf.mono hle,h3.trans hle,h4,h5⟩
 ·intro o ob e hn
  obtain ⟨b,blk,m1,m2,m3⟩:=h1.obj o ob (h o ob e) hn
  exact ⟨b,blk,hμ2 o b ob e m1,m2,m3.mono hle⟩
 ·intro o ob b e e2 hz
  exact h1.wr o ob b (h o ob e) (hμ o b e2).1 hz
 ·intro o ob b e e2 hz
  exact h1.fz o ob b (h o ob e) (hμ o b e2).1 hz
 ·intro o o' b e e'
  exact h1.inj o o' b (hμ o b e).1 (hμ o' b e').1
 ·intro o b e
  obtain ⟨e1,ob,e2⟩:=hμ o b e
  obtain ⟨d1,d2,ob',d3,d4⟩:=h1.dom o b e1
  have:=h o ob e2
  rw[d3] at this
  cases this
  exact ⟨d1,d2,_,e2,d4⟩
 ·intro o ob e
  exact h1.own o ob (h o ob e)
 ·intro o b e hr
  exact h1.pb o b (hμ o b e).1 hr
section
variable {C:D7} {st:m8} {fr:E8}
theorem TM {fz:List Nat} (hrow:D8 st.ro st.own fz=true):N4 C fr st fr ⟨A1 fz st.own,st.next,st.ro⟩:=by
 rintro s frI ⟨μ,F,h1,hf,h3,h4,h5⟩
 obtain ⟨f1,f2⟩:=h1.freeze hrow
 refine ⟨μ,_,f1,fun i u e=>?_,h3.trans f2,h4,fun b hb=>?_⟩
 ·obtain ⟨vI,a,b⟩:=hf i u e
  exact ⟨vI,a,b7.mono f2 b⟩
 ·rcases h1.fin_ge hrow hb with hb|hb
  ·exact h5 b hb
  ·exact .inr (by rw[← h4];exact hb)
theorem bK4 {o n e t:Nat} {l:List D} (ho:d9 st.own o=some (.gro t e true l)) (hl:l.length=n*e) (he:e ≠ 0):T3 C st (.gr 2 o n) (.sl 2 n l):=by
 intro s μ F u h1 hv
 refine rS (w:=w7 C st s μ F) (w1:=w7 C st s μ F) h1.hr (VW.le.refl _) rfl rfl hv ?_ (fun j hj b e=>?_) (fun j hj b e k sp blk hb=>cO (E:=C.E) hb)
 ·simp only[w6,eC,ho]
  rw[if_pos ⟨hl,by decide,by decide,he⟩]
  rfl
 ·simp only[eB,List.mem_singleton] at hj
  subst hj
  exact h1.fz j _ b ho e rfl
theorem bN3 {w:VW} {d:D} {v:Value} (h:b7 w (dv d) v):A6 w d v:=by
 cases d with
 |sc x=>simpa only[dv,b7,A6] using h
 |sl s n l=>simpa only[dv,b7] using h
theorem TA {w:VW}:∀ {l:List D} {vs:List Value},d8 w (dvL l) vs→j8 w l vs
 | [],vs,h=>by simpa only[dvL,d8,j8] using h
 |d::r,vs,h=>by
  simp only[dvL,d8,j8] at h ⊢
  obtain ⟨v,vs',h1,h2,h3⟩:=h
  exact ⟨v,vs',h1,bN3 h2,TA h3⟩
theorem TL {o t e:Nat} {l:List D} (h:d9 st.own o=some (.box t e (dvL l))) (hok:W7 l=true):N4 C fr st fr ⟨A3 st.own o (.row t e false false l),st.next,st.ro⟩:=by
 rintro s frI ⟨μ,F,h1,hf,h3⟩
 have hown:∀ i ob,d9 (A3 st.own o (.row t e false false l)) i=some ob→(i=o∧ob= .row t e false false l)∨(i ≠ o∧d9 st.own i=some ob):=fun i ob e'=>by
  rw[L2 _ _ _ _ _ h] at e'
  split at e'
  ·rename_i hi;cases e';exact .inl ⟨hi,rfl⟩
  ·rename_i hi;exact .inr ⟨hi,e'⟩
 refine ⟨μ,F,⟨?_,?_,?_,h1.inj,?_,h1.lt,h1.cl,h1.un,h1.n0,?_,h1.hb,h1.pr,h1.pb⟩,hf,h3⟩
 ·intro i ob e' hn
  rcases hown i ob e' with ⟨rfl,rfl⟩|⟨hi,e1⟩
  ·obtain ⟨b,blk,m1,m2,m3⟩:=h1.obj i _ h rfl
   exact ⟨b,blk,m1,m2,m3.1,m3.2.1,m3.2.2.1,TA m3.2.2.2⟩
  ·exact h1.obj i ob e1 hn
 ·intro i ob b e' e2 hz
  rcases hown i ob e' with ⟨rfl,rfl⟩|⟨hi,e1⟩
  ·exact h1.wr i _ b h e2 rfl
  ·exact h1.wr i ob b e1 e2 hz
 ·intro i ob b e' e2 hz
  rcases hown i ob e' with ⟨rfl,rfl⟩|⟨hi,e1⟩
  ·cases hz
  ·exact h1.fz i ob b e1 e2 hz
 ·intro i b e'
  obtain ⟨d1,d2,ob,d3,d4⟩:=h1.dom i b e'
  by_cases hi:i=o
  ·subst hi;exact ⟨d1,d2,_,by simp only;rw[L2 _ _ _ _ _ h,if_pos rfl],rfl⟩
  ·exact ⟨d1,d2,ob,by simp only;rw[L2 _ _ _ _ _ h,if_neg hi];exact d3,d4⟩
 ·intro i ob e'
  rcases hown i ob e' with ⟨rfl,rfl⟩|⟨hi,e1⟩
  ·exact ⟨(h1.own i _ h).1,hok⟩
  ·exact h1.own i ob e1
theorem xM {f:FuncId} {xs:List V} {st':m8} {Q:V→m8→Prop} (hW:∀ C':D7,C'.w0.nx=st.next→N4 C' [] st [] st') (h:X3 C f xs st' Q):X3 C f xs st Q:=by
 obtain ⟨v,st2,hq,k⟩:=h
 refine ⟨v,st2,hq,fun s μ F xsI hsr hx hpr=>?_⟩
 let C':D7:=⟨C.E,s.next,s.heap,C.U,w7 C st s μ F,C.p0⟩
 have hs':SR C' st s μ F:=hsr.env2 rfl (Nat.le_refl _) (fun b=>⟨fun hb=>⟨by have:=(hsr.un b hb).1;have:=hsr.n0;show b<s.next;omega,rfl⟩,fun hb=>hb⟩)
 obtain ⟨μ1,F1,g1,_,g3,g4,g5⟩:=hW C' rfl s [] ⟨μ,F,hs',(fun i u e=>by cases e),VW.le.refl _,hpr,fun b hb=> .inl hb⟩
 have g1':SR C st' s μ1 F1:=g1.env2 rfl (by have:=hsr.n0;exact this) (fun b=>⟨fun hb=>hsr.un b hb,fun hb=>hb⟩)
 have hle:VW.le (w7 C st s μ F) (w7 C st' s μ1 F1):=g3
 obtain ⟨vI,s',μ',F',q0,q1,q2,q3,q4,q5,q6⟩:=k s μ1 F1 xsI g1' (hx.mono hle) hpr
 refine ⟨vI,s',μ',F',q0,q1,q2,hle.trans q3,q4,q5,fun b hb=>?_⟩
 rcases q6 b hb with hb|hb
 ·rcases g5 b hb with hb|hb
  ·exact .inl hb
  ·exact .inr (by rw[hpr];exact hb)
 ·exact .inr hb
end
end Go.Itp
namespace Go.Itp
open Go.Lib
set_option linter.unusedVariables false
def C5 (b:UInt8):Bool:=decide (48≤b.toNat) && decide (b.toNat≤57)
theorem fE {d:Nat} (h:d<10):C5 (UInt8.ofNat (48+d))=true∧(UInt8.ofNat (48+d)).toNat=48+d:=by
 have:(UInt8.ofNat (48+d)).toNat=48+d:=UInt8.toNat_ofNat_of_lt' (by unfold UInt8.size;omega)
 refine ⟨?_,this⟩
 simp only[C5,this,Bool.and_eq_true,decide_eq_true_eq]
 omega
theorem oG:∀ (n u:Nat),u≤n→∀ c ∈ decDigits u,C5 c=true
 |n,u,hn,c,hc=>by
  rw[decDigits] at hc
  split at hc
  ·rw[List.mem_singleton.1 hc];exact (fE (by omega)).1
  ·rcases List.mem_append.1 hc with hc|hc
   ·cases n with
    |zero=>omega
    |succ n=>exact oG n (u / 10) (by omega) c hc
   ·rw[List.mem_singleton.1 hc];exact (fE (by omega)).1
theorem PD {z:Int} (h:0≤z):∀ c ∈ itoa z,C5 c=true:=by
 obtain ⟨u,rfl⟩:=Int.eq_ofNat_of_zero_le h
 rw[itoa_nonneg]
 exact oG u u (Nat.le_refl _)
theorem qA (u:Nat):decDigits u ≠ []:=by rw[decDigits];split<;>simp
theorem qM {z:Int}:itoa z ≠ []:=by unfold itoa;split;simp;exact qA _
theorem jT:∀ (l m:List UInt8) (acc:Nat),decFrom acc (l++m)=(decFrom acc l).bind fun a=>decFrom a m
 | [],m,acc=>rfl
 |b::r,m,acc=>by
  simp only[List.cons_append,decFrom]
  cases digitVal b with
  |none=>rfl
  |some d=>exact jT r m _
theorem jV {d:Nat} (h:d<10):digitVal (UInt8.ofNat (48+d))=some d:=by
 unfold digitVal
 rw[(fE h).2,if_pos (by omega)]
 congr 1
 omega
theorem X6:∀ (n u:Nat),u≤n→decFrom 0 (decDigits u)=some u
 |n,u,hn=>by
  rw[decDigits]
  split
  ·rename_i h
   simp only[decFrom,jV h]
   congr 1
   omega
  ·cases n with
   |zero=>omega
   |succ n=>
    rw[jT,X6 n (u / 10) (by omega)]
    simp only[Option.bind_some,decFrom,jV (show u % 10<10 by omega)]
    congr 1
    omega
theorem CW {u v:Nat} (h:decDigits u=decDigits v):u=v:=by
 have h1:=X6 u u (Nat.le_refl _)
 rw[h,X6 v v (Nat.le_refl _)] at h1
 exact (Option.some.inj h1).symm
theorem PE {x y:Int} (hx:0≤x) (hy:0≤y) (h:itoa x=itoa y):x=y:=by
 obtain ⟨u,rfl⟩:=Int.eq_ofNat_of_zero_le hx
 obtain ⟨v,rfl⟩:=Int.eq_ofNat_of_zero_le hy
 rw[itoa_nonneg,itoa_nonneg] at h
 rw[CW h]
theorem MF (u:Nat) (h:(decDigits u).length≤18):atoiAll (decDigits u)= .ok (u:Int):=by
 rw[atoiAll_short _ h]
 have hd:=oG u u (Nat.le_refl _)
 have hf:=X6 u u (Nat.le_refl _)
 cases hw:decDigits u with
 |nil=>exact absurd hw (qA u)
 |cons b r=>
  rw[hw] at hd hf
  have hb:=hd b (by simp)
  simp only[C5,Bool.and_eq_true,decide_eq_true_eq] at hb
  have n1:¬ b=45:=by rintro rfl;simp at hb
  have n2:¬ b=43:=by rintro rfl;simp at hb
  have e1:(b==45)=false:=by simpa using n1
  have e2:(b==43)=false:=by simpa using n2
  simp only[atoi,e1,e2,decNat,List.isEmpty_cons,hf]
  rfl
theorem aV:∀ (k u:Nat),u<10 ^ (k+1)→(decDigits u).length≤k+1
 |0,u,h=>by rw[decDigits,dif_pos (by simpa using h)];simp
 |k+1,u,h=>by
  rw[decDigits]
  split
  ·simp
  ·have:=aV k (u / 10) (by rw[Nat.pow_succ] at h;omega)
   simp;omega
theorem aE2 {z:Int} (h:0≤z) (h1:z<1000000000000):atoiAll (itoa z)= .ok z:=by
 obtain ⟨u,rfl⟩:=Int.eq_ofNat_of_zero_le h
 rw[itoa_nonneg]
 exact MF u (by have:=aV 11 u (by simpa using (by omega:u<1000000000000));omega)
end Go.Itp
namespace Go.Itp
open Go.ChangeShapes Go.WideShapes Go.ChangeAt Go.RowKit
set_option linter.unusedVariables false
section
variable {H:Type} {enc:TypeId × Value→H} {P:Program} {W:World} {base:Nat} {held:Bool}
end
end Go.Itp
namespace Go.Itp
open Go.Lib
set_option linter.unusedVariables false
theorem m7.arg {E:F7} {f:FuncId} {xs xs':List V} {v:V} {st1:m8} (h:m7 E f xs' v st1) (hx:∀ (w:VW) (vs:List Value),d8 w xs vs→d8 w xs' vs):m7 E f xs v st1:=fun s F xsI h1 h2 h3=>h s F xsI h1 h2 (hx _ _ h3)
end Go.Itp
namespace Go.Itp
open Go.RowKit (Below)
set_option linter.unusedVariables false
set_option linter.constructorNameAsVariable false
def BO:List Value→Option (List ByteArray)
 | []=>some []
 | .string b::r=>(BO r).map (b::·)
 |_=>none
theorem BP:∀ {cs:List Value} {bs:List ByteArray},BO cs=some bs→cs=bs.map Value.string
 | [],bs,h=>by simp[BO] at h;subst h;rfl
 |c::r,bs,h=>by
  unfold BO at h
  split at h
  ·rename_i heq;cases heq
  ·rename_i heq
   simp only[List.cons.injEq] at heq
   obtain ⟨rfl,rfl⟩:=heq
   simp only[Option.map_eq_some_iff] at h
   obtain ⟨bs',h1,rfl⟩:=h
   rw[BP h1];rfl
  ·cases h
theorem HL:∀ (bs:List ByteArray),BO (bs.map Value.string)=some bs
 | []=>rfl
 |b::r=>by simp only[List.map_cons,BO,HL r,Option.map_some]
def bT8 (old:Nat→Nat→Option Value):F7:=w8 old 0 (fun _=>none) (fun _ _ _=>none) 0
def ZA (bs:List ByteArray) (sep:ByteArray):List UInt8:=Lib.join (bs.map (·.data.toList)) sep.data.toList
def FI (old:Nat→Nat→Option Value) (f0:FuncId) (f:FuncId) (xs:List Value) (s:St):Option (Value × List w9):=
 if Nat.beq f f0 then (match xs with
  | [.slice a n c,.string sep]=>if Nat.beq n 0 then some (.string ⟨#[]⟩,[]) else if Nat.ble n (z1 c) && Nat.ble n s9 then
    (o8 (bT8 old) s.heap 1 n (.slice a n c)).bind fun cs=>(BO cs).bind fun bs=>if Nat.ble (ZA bs sep).length 140737488355328 then some (.string ⟨(ZA bs sep).toArray⟩,[]) else none
   else none
  |_=>none) else none
section
variable {P:Program} {G:x5} {μ:Mu} {s:St} {w:World}
theorem SJ:∀ {bs:List ByteArray} {cs:List Value},E0 μ (bs.map Value.string)=some cs→cs=bs.map Value.string
 | [],cs,h=>by simp[E0] at h;subst h;rfl
 |b::r,cs,h=>by
  simp only[List.map_cons,E0,tr,Option.bind_some,Option.map_eq_some_iff] at h
  obtain ⟨cs',h1,rfl⟩:=h
  rw[SJ h1];rfl
theorem aT9 {old:Nat→Nat→Option Value} {f0:FuncId} {w0:World} (hen:IL P f0) (hold:cA (bT8 old) w0)
  (h0:∀ (a:Option Addr) (c:Nat) (sep:ByteArray) (w:World),Calls P f0 #[.slice a 0 c,.string sep] w fun e w'=>e= .returned (.string ⟨#[]⟩)∧w'=w)
  (h1:∀ (bk o c:Nat) (xs:List ByteArray) (sep:ByteArray) (w:World) (_:∀ (j:Nat) x,xs[j]? =some x→w.cell? ⟨bk,o+j,none⟩=some (.string x))
   (_:bk<w.heap.size) (_:xs.length≤140737488355328) (_:xs.length≤c) (_:(Lib.join (xs.map (·.data.toList)) sep.data.toList).length≤140737488355328),
   Calls P f0 #[.slice (some ⟨bk,o,none⟩) xs.length c,.string sep] w fun e w'=>e= .returned (.string ⟨(Lib.join (xs.map (·.data.toList)) sep.data.toList).toArray⟩)∧Below w.heap.size w w'):V6 P (FI old f0) w0:=by
 intro f xs s v bs h G μ w cs hG hr hx
 unfold FI at h
 split at h
 case isFalse=>cases h
 rename_i hf
 have:=j5.1 hf
 subst this
 split at h
 case h_2=>cases h
 rename_i a n c sep
 simp only[E0,Option.bind_eq_some_iff,Option.map_eq_some_iff] at hx
 obtain ⟨x1,hx1,cs1,⟨x2,hx2,cs2,hcs2,rfl⟩,rfl⟩:=hx
 simp at hcs2
 subst hcs2
 have:x2= .string sep:=by simp[tr] at hx2;exact hx2.symm
 subst this
 obtain ⟨qa,k',rfl,e2,e3⟩:=E7 hx1
 split at h
 ·rename_i hn
  have:=j5.1 hn
  subst this
  simp only[Option.some.injEq,Prod.mk.injEq] at h
  obtain ⟨rfl,rfl⟩:=h
  exact eI hen hr ((h0 qa k' sep w).mono fun e w' ⟨he,hw⟩=>⟨he,hw▸Below.refl _ _⟩) rfl
 rename_i hn
 have hn:n ≠ 0:=fun e=>hn (j5.2 e)
 split at h
 case isFalse=>cases h
 rename_i hc
 rw[Bool.and_eq_true,Nat.ble_eq,Nat.ble_eq] at hc
 obtain ⟨hc,hroom⟩:=hc
 simp only[Option.bind_eq_some_iff] at h
 obtain ⟨vs,hvs,ls,hls,h⟩:=h
 split at h
 case isFalse=>cases h
 rename_i hlen
 rw[Nat.ble_eq] at hlen
 simp only[Option.some.injEq,Prod.mk.injEq] at h
 obtain ⟨rfl,rfl⟩:=h
 cases a with
 |none=>
  simp only[o8] at hvs
  rw[if_neg (fun e=>hn (j5.1 e))] at hvs
  cases hvs
 |some a=>
 simp only[o8,Nat.mul_one] at hvs
 obtain ⟨bk,o,rfl⟩:=E6 e2
 obtain ⟨cs,c1,c2,c3⟩:=hr.loadN (by rw[hG];exact hold) hvs e2
 have hvs':=BP hls
 subst hvs'
 have hcs:=SJ c1
 subst hcs
 rw[List.length_map] at c2
 subst c2
 have hcell:∀ (j:Nat) x,ls[j]? =some x→w.cell? ⟨bk,o+j,none⟩=some (.string x):=fun j x hj=>by
  have:=c3 j (.string x) (by rw[List.getElem?_map,hj];rfl)
  have e:(⟨bk,o,none⟩:Addr).add j=⟨bk,o+j,none⟩:=by cases j<;>rfl
  rw[e] at this
  exact this
 have hcap:ls.length≤k':=by
  rw[F5] at hc
  obtain ⟨b,oo,sp⟩:=a
  cases sp with
  |none=>
   simp only[cE,Option.some.injEq] at e3
   subst e3
   split at hc<;>omega
  |some sp=>
   simp only[cE] at e3
   split at e3
   ·rename_i h;simp only[Option.some.injEq] at e3;subst e3;rw[if_pos h] at hc;exact hc
   ·rename_i h
    rw[if_neg h] at hc
    simp only[Option.map_eq_some_iff] at e3
    obtain ⟨l,_,rfl⟩:=e3
    omega
 have hbk:bk<w.heap.size:=by
  have:=hcell 0 ls[0]! (by rw[getElem!_pos ls 0 (by omega)];exact List.getElem?_eq_getElem (by omega))
  exact World.block_lt_of_cell? _ _ this
 exact eI hen hr (h1 bk o k' ls sep w hcell hbk (by unfold s9 at hroom;omega) hcap hlen) rfl
end
theorem LC {E E':F7} (h:E.old=E'.old) (hp:l5) (e n:Nat) (x:Value):o8 E hp e n x=o8 E' hp e n x:=by
 have hN:∀ b m o,tO E b o m=tO E' b o m:=fun b m=>by
  induction m with
  |zero=>intro o;rfl
  |succ m ih=>intro o;simp only[tO,h,ih]
 unfold o8
 split
 ·rename_i a _ _
  unfold H7
  split
  ·exact hN _ _ _
  ·rfl
  ·rfl
 all_goals rfl
def sD (x:List UInt8):D:= .sc (.string ⟨x.toArray⟩)
theorem aZ4 (x:List UInt8):dv (sD x)= .sc (.string ⟨x.toArray⟩):=(rfl)
theorem SA {w:VW}:∀ {ls:List (List UInt8)} {vs:List Value},j8 w (ls.map sD) vs→vs=(ls.map fun x=>ByteArray.mk x.toArray).map Value.string
 | [],vs,h=>by simpa only[List.map_nil,j8] using h
 |x::r,vs,h=>by
  simp only[List.map_cons,j8,sD,A6] at h
  obtain ⟨v,vs',rfl,⟨rfl,_⟩,h2⟩:=h
  rw[SA h2];rfl
section
variable {old:Nat→Nat→Option Value} {rounds:Nat} {fns:FuncId→Option s6} {prims:FuncId→List Value→St→Option (Value × List w9)} {n:Nat} {f:FuncId}
theorem bH6 (ls:List (List UInt8)) (sep:List UInt8):ZA (ls.map fun x=>ByteArray.mk x.toArray) ⟨sep.toArray⟩=Lib.join ls sep:=by
 unfold ZA
 congr 1
 rw[List.map_map]
 exact (List.map_congr_left (fun x _=>by simp)).trans (List.map_id _)
theorem bU7 {st:m8} (s:Nat) (hs:s ≠ 1) (ls:List (List UInt8)) (sep:List UInt8) (hl:ls.length≤1099511627776) (hlen:(Lib.join ls sep).length≤140737488355328) (hp:∀ xs s r,FI old f f xs s=some r→prims f xs s=some r):
  J9 (w8 old rounds fns prims (n+1)) f st [.sl s ls.length (ls.map sD),.sc (.string ⟨sep.toArray⟩)] (.sc (.string ⟨(Lib.join ls sep).toArray⟩)):=by
 intro s1 μ F xsI w0 hsr hx
 simp only[d8] at hx
 obtain ⟨x1,_,rfl,hx1,x2,_,rfl,hx2,rfl⟩:=hx
 have hx1':=hx1
 have:=hx2.scv
 subst this
 refine ⟨.string ⟨(Lib.join ls sep).toArray⟩,?_,fun w=> .mksc rfl⟩
 have hcall:FI old f f [x1,.string ⟨sep.toArray⟩] s1=some (.string ⟨(Lib.join ls sep).toArray⟩,[]):=by
  unfold FI
  rw[if_pos (j5.2 rfl)]
  simp only[b7,A6] at hx1'
  rcases hx1' with ⟨a,c,rfl,_,hcap,_,_⟩|⟨_,h0,h1,rfl|⟨h,_⟩⟩
  ·simp only
   by_cases hn:ls.length=0
   ·rw[if_pos (j5.2 hn)]
    have:ls= []:=List.eq_nil_of_length_eq_zero hn
    subst this
    rfl
   rw[if_neg (fun e=>hn (j5.1 e))]
   rw[if_pos (by rw[Bool.and_eq_true,Nat.ble_eq,Nat.ble_eq];exact ⟨hcap,by unfold s9;exact hl⟩)]
   obtain ⟨cs,k1,k2⟩:=(Y7 (e:=1) (m:=ls.length) (r:=(ls.map sD,[])) hsr.hr hx1 (by
    simp only[M5]
    rw[if_pos ⟨by simp,Nat.le_refl _⟩,Nat.mul_one,List.take_of_length_le (by simp)]) (fun m hm=>by simp only[U6] at hm;cases hm;exact Nat.le_refl _)).plain hsr.hr rfl
   rw[LC (E':=bT8 old) (by rfl)] at k1
   rw[k1]
   have:=SA k2
   subst this
   simp only[Option.bind_some,HL,bH6]
   rw[if_pos (by rw[Nat.ble_eq];exact hlen)]
  ·simp only
   rw[if_pos (j5.2 rfl)]
   have:ls= []:=by simpa using h1
   subst this
   rfl
  ·exact absurd h hs
 rw[N1,hp _ _ _ hcall]
end
theorem m7.ofO {E:F7} {f:FuncId} {xs:List V} {v:V} (h:J9 E f ⟨[],0,0⟩ xs v):m7 E f xs v ⟨[],0,0⟩:=by
 intro s F xsI h1 h2 hx
 have hsr:SR (C1 E s (ZJ E s.heap F)) ⟨[],0,0⟩ ⟨s.heap,s.next,s.next⟩ (fun _=>none) F:=SR.start h1 h2
 obtain ⟨vI,e,hv⟩:=h s (fun _=>none) F xsI (ZJ E s.heap F) hsr hx
 exact ⟨vI,[],fun _=>none,F,e,hsr,hv _,fun b hb=> .inl hb,fun b hb=>hb,fun _=>rfl⟩
end Go.Itp
namespace Go.Itp
set_option maxRecDepth 100000
set_option linter.unusedVariables false
section
variable {old : Nat → Nat → Option Value} {fr : E8} {H : F3} {nx : Nat} {st : m8}
end
section
variable {C:D7} {st:m8} {fr:E8}
theorem bA3 {H:F3} {o t n:Nat} {z:Bool} {l:List D} (h:d9 H o=some (.gro t 1 z l)) (hl:l.length=n):w6 H (.gr 2 o n)=some (.sl 2 n l):=by
 simp only[w6,eC,h,Nat.mul_one]
 rw[if_pos ⟨hl,by decide,by decide,by decide⟩]
 rfl
theorem HC {H:F3} {o c t n:Nat} {g z:Bool} {l:List D} (h:d9 H o=some (.row t 1 g z l)) (hl:l.length=n):w6 H (.ref o 0 n c)=some (.sl 0 n l):=by
 simp only[w6,eC,h,Nat.mul_one,Nat.zero_add,hl,Nat.le_refl,if_true,List.drop_zero,Option.map_some,dv]
 rw[List.take_of_length_le (by omega)]
end
section
variable {C:D7} {st:m8} {fr:E8}
end
section
variable {old:Nat→Nat→Option Value}
end
theorem MB {E:F7} {h:l5} {n:Nat} {bs:List w9} {a:Addr} (ha:a.spot=none∨a.block<n):n6 E (y5 h n bs) a=n6 E h a:=by
 obtain ⟨b,o,sp⟩:=a
 rcases sp with _|_|k
 ·rfl
 ·have hb:b<n:=by simpa using ha
  simp only[n6]
  rw[x9,if_neg (by omega)]
 ·rfl
theorem m7.weak {E:F7} {f:FuncId} {xs:List V} {v v':V} {st1 st2:m8} (h:m7 E f xs v st1) (hw:∀ C:D7,C.w0.nx=0→N4 C [(0,v)] st1 [(0,v')] st2) (hfl:x7 v'=true→x7 v=true):m7 E f xs v' st2:=by
 intro s F xsI hF hb hx
 obtain ⟨vI,bs,μ,G,e,g1,g2,g3,g4,g5⟩:=h s F xsI hF hb hx
 have hle:VW.le (ZJ E s.heap F) (w7 (C1 E s (ZJ E s.heap F)) st1 ⟨y5 s.heap s.next bs,s.next+bs.length,s.next⟩ μ G):=by
  refine ⟨fun a ha=>?_,g4,Nat.zero_le _,fun o b ho e=>absurd ho (Nat.not_lt_zero _)⟩
  refine MB ?_
  rcases aT6 ha with h1|h1
  ·exact .inl h1
  ·exact .inr (hF _ h1).1
 obtain ⟨μ',G',k1,k2,k3,k4,k5⟩:=hw (C1 E s (ZJ E s.heap F)) rfl ⟨y5 s.heap s.next bs,s.next+bs.length,s.next⟩ [(0,vI)] ⟨μ,G,g1,fun t u hu=>by
  by_cases ht:t=0
  ·subst ht
   have:v=u:=by simpa [d9] using hu
   subst this
   exact ⟨vI,rfl,g2⟩
  ·exfalso
   cases t with
   |zero=>exact ht rfl
   |succ t=>simp[d9] at hu,hle,rfl,g3⟩
 obtain ⟨uI,a,b⟩:=k2 0 v' rfl
 have:vI=uI:=by simpa [H0] using a
 subst this
 exact ⟨vI,bs,μ',G',e,k1,b,k5,fun b hb=>k3.F b hb,fun hf=>g5 (hfl hf)⟩
theorem m7.fin {E:F7} {f:FuncId} {xs:List V} {v v':V} {st1:m8} (h:m7 E f xs v st1) (hs:w6 st1.own v=some v') (hrow:D8 st1.ro st1.own (eB v)=true) (hro:st1.ro=0) (hren:bS [] v'=v') (hfl:x7 v'=true→x7 v=true):m7 E f xs v' ⟨[],0,0⟩:=
 h.weak (fun C h0=>(gT (t:=0) rfl hs hrow).trans (v6 [] 0 h0 hro rfl (by show AI [] [(0,v')]=_;rw[aI4,aY5,hren]) rfl)) hfl
theorem k8 {C:D7} {st:m8} {f:FuncId} {xs:List V} {v:V} {Q:V→m8→Prop} (h:m7 C.E f xs v ⟨[],0,0⟩) (hs:K7 st.own xs=some xs) (hz:bH xs= []) (hv:∀ k,CS k v=v) (hq:Q v st):X3 C f xs st Q:=by
 refine xL h hs (by rw[hz];rfl) rfl ?_
 rw[hz,hv,W2]
 exact hq
section
variable {C:D7} {st:m8}
theorem T3.refl (v:V):T3 C st v v:=fun _ _ _ _ _ h=>h
def nX (C:D7) (st:m8) (l l':List V):Prop:=∀ s μ F vs,SR C st s μ F→d8 (w7 C st s μ F) l vs→d8 (w7 C st s μ F) l' vs
theorem nX.nil:nX C st [] []:=fun _ _ _ _ _ h=>h
theorem nX.cons {a a':V} {l l':List V} (h:T3 C st a a') (k:nX C st l l'):nX C st (a::l) (a'::l'):=fun s μ F vs hs hv=>by
 simp only[d8] at hv ⊢
 obtain ⟨u,us,rfl,h1,h2⟩:=hv
 exact ⟨u,us,rfl,h s μ F u hs h1,k s μ F us hs h2⟩
theorem AU {l l':List V} (h:nX C st l l'):T3 C st (.agg l) (.agg l'):=fun s μ F v hs hv=>by
 rw[b7] at hv ⊢
 obtain ⟨vs,h1,h2⟩:=hv
 exact ⟨vs,h1,h s μ F vs hs h2⟩
theorem AV {l l':List V} (h:nX C st l l'):T3 C st (.tup l) (.tup l'):=fun s μ F v hs hv=>by
 rw[b7] at hv ⊢
 obtain ⟨vs,h1,h2⟩:=hv
 exact ⟨vs,h1,h s μ F vs hs h2⟩
end
theorem m7.same {E:F7} {f:FuncId} {xs:List V} {v v':V} {st1:m8} (h:m7 E f xs v st1) (hv:∀ C:D7,T3 C st1 v v') (hfl:x7 v'=true→x7 v=true):m7 E f xs v' st1:=
 h.weak (fun C _=>P4 (t:=0) (v:=v) (v':=v') rfl (hv C)) hfl
section
variable {C:D7} {st:m8} {fr:E8}
theorem aM0 {v:V} {x y:Value} {s n:Nat} {l:List D} (hs:w6 st.own v=some (.sl s n l)) (hrow:D8 st.ro st.own (eB v)=true) (hk:s ≠ 1∨n ≠ 0) (h0:C.w0.nx=0) (hro:st.ro=0):N4 C [(0,.tup [v,.sc x,.sc y])] st [(0,.tup [.sl 3 n l,.sc x,.sc y])] ⟨[],0,0⟩:=by
 have e1:eB (.tup [v,.sc x,.sc y])=eB v:=by simp[eB,bH]
 have e2:w6 st.own (.tup [v,.sc x,.sc y])=some (.tup [.sl s n l,.sc x,.sc y]):=by simp[w6,K7,hs]
 refine (gT (t:=0) (v:= .tup [v,.sc x,.sc y]) rfl e2 (by rw[e1];exact hrow)).trans ?_
 refine (P4 (t:=0) (v:= .tup [.sl s n l,.sc x,.sc y]) (v':= .tup [.sl 3 n l,.sc x,.sc y]) rfl (GY (rP hk) (fun _ _ _ _ _ h=>h))).trans ?_
 exact v6 [] 0 h0 hro rfl rfl rfl
theorem iY {x y:Value} (h0:C.w0.nx=0) (hro:st.ro=0):N4 C [(0,.tup [.sc (.slice none 0 0),.sc x,.sc y])] st [(0,.tup [.sl 3 0 [],.sc x,.sc y])] ⟨[],0,0⟩:=
 (P4 (t:=0) (v:= .tup [.sc (.slice none 0 0),.sc x,.sc y]) (v':= .tup [.sl 3 0 [],.sc x,.sc y]) rfl (GY mP (fun _ _ _ _ _ h=>h))).trans (v6 [] 0 h0 hro rfl rfl rfl)
theorem WP {n:Nat} {l:List D} {x y:Value}:cY [] (.tup [.sl 3 n l,.sc x,.sc y]):=gB (by simp only[Cl,IJ,and_true];rfl)
end
section
variable {C:D7} {st:m8} {fr:E8}
theorem mR {H:F3} {o n c t e:Nat} {g z:Bool} {l:List D} (h:d9 H o=some (.row t e g z l)) (hl:l.length=n*e):w6 H (.ref o 0 n c)=some (.sl 0 n l):=by
 simp only[w6,eC,h]
 rw[if_pos (by omega),List.drop_zero,List.take_of_length_le (by omega)]
 rfl
theorem aZ7 {o n c t e:Nat} {g:Bool} {l:List D} (ho:d9 st.own o=some (.row t e g true l)) (hl:l.length=n*e):T3 C st (.ref o 0 n c) (.sl 0 n l):=by
 intro s μ F u h1 hv
 refine rS (w:=w7 C st s μ F) (w1:=w7 C st s μ F) h1.hr (VW.le.refl _) rfl rfl hv (mR ho hl) (fun j hj b e=>?_) (fun j hj b e k sp blk hb=>cO (E:=C.E) hb)
 simp only[eB,List.mem_singleton] at hj
 subst hj
 exact h1.fz j _ b ho e rfl
theorem TN {o g t e k:Nat} {l:List V} {u u':V} {ob ob':Obj} (ho:d9 st.own o=some (.box t e l)) (hk:l[k]? =some u) (hg:d9 st.own g=some ob) (hb:ob.froz=ob') (hog:o ≠ g) (hs:T3 C ⟨A1 [g] st.own,st.next,st.ro⟩ u u') (hrow:D8 st.ro st.own [g]=true):
  N4 C fr st fr ⟨A3 (A1 [g] st.own) o (.box t e (l.set k u')),st.next,st.ro⟩:=by
 have h2:d9 (A1 [g] st.own) o=some (.box t e l):=by
  have:¬ l9 o [g]=true:=fun h=>hog (by simpa using (j9 _ _).1 h)
  rw[O7,ho,Option.map_some,if_neg this]
 refine (TM hrow).trans ?_
 exact uG (st:=⟨A1 [g] st.own,st.next,st.ro⟩) h2 hk hs
end
theorem DX {C:D7} {H:F3} {nx o g t N s c:Nat} {z b:Value} {u:V} {q:List D} {ob:Obj} {f:FuncId} {v:V} {Q:V→m8→Prop} (hsp:m7 C.E f [.agg [.sc z,.sl 0 1 [.sc b,.sl s N q]]] v ⟨[],0,0⟩) (hfl:x7 v=true)
  (ho:d9 H o=some (.box t 2 [.sc b,u])) (hg:d9 H g=some ob) (hog:o ≠ g) (hs:∀ C':D7,T3 C' ⟨A1 [g] H,nx,0⟩ u (.sl s N q)) (hrow:D8 0 H [g]=true) (hok:W7 [.sc b,.sl s N q]=true)
  (hq:Q v ⟨A3 (A3 (A1 [g] H) o (.box t 2 [.sc b,.sl s N q])) o (.row t 2 false false [.sc b,.sl s N q]),nx,0⟩):X3 C f [.agg [.sc z,.ref o 0 1 c]] ⟨H,nx,0⟩ Q:=by
 have h2:d9 (A1 [g] H) o=some (.box t 2 [.sc b,u]):=by
  have:¬ l9 o [g]=true:=fun h=>hog (by simpa using (j9 _ _).1 h)
  rw[O7,ho,Option.map_some,if_neg this]
 generalize hH1:A3 (A1 [g] H) o (.box t 2 [.sc b,.sl s N q])=H1 at*
 have o2:d9 H1 o=some (.box t 2 [.sc b,.sl s N q]):=by rw[← hH1];exact X4 h2
 have o5:d9 (A3 H1 o (.row t 2 false false [.sc b,.sl s N q])) o=some (.row t 2 false false [.sc b,.sl s N q]):=X4 o2
 refine xM (st':=⟨A3 H1 o (.row t 2 false false [.sc b,.sl s N q]),nx,0⟩) (fun C' hn'=>?_) ?_
 ·have w1:=TN (C:=C') (fr:= []) (st:=⟨H,nx,0⟩) (k:=1) ho rfl hg rfl hog (hs C') hrow
  have e1:A3 (A1 [g] H) o (.box t 2 (([.sc b,u]:List V).set 1 (.sl s N q)))=H1:=hH1
  rw[e1] at w1
  exact w1.trans (TL (C:=C') (fr:= []) (st:=⟨H1,nx,0⟩) (l:= [.sc b,.sl s N q]) o2 hok)
 ·refine a6 (hsp.flat hfl ?_) hq
  have h1:=mR (c:=c) (n:=1) o5 rfl
  show (w6 _ (.agg [.sc z,.ref o 0 1 c])).bind _=_
  generalize V.ref o 0 1 c=u at*
  simp[w6,K7,h1]
end Go.Itp
namespace Go.Itp
open Go Go.ChangeShapes
set_option linter.unusedVariables false
section
variable {H:Type} {enc:TypeId × Value→H} {P:Program} {W:World} {base:Nat} {held:Bool}
end
section
variable {H:Type} {enc:TypeId × Value→H} {P:Program} {W:World} {base:Nat} {held:Bool}
end
theorem aG0 {H:Type} {enc:TypeId × Value→H} {a:Assume} {C:Checked} {os:Os} {f:FuncId} {fn:Func} {s:ChangeSpec} {conds:List PathCond} {apart fresh handsOn again:Bool} {X:World→Array Value→Prop}
  (hX:∀ (w w':World) (args:Array Value),w.heap=w'.heap→X w args→X w' args)
  (own:ownKnob C.prog.godebug=none) (started:os.Started) (noInit:C.prog.inits.idxOf? f=none) (hfn:C.prog.funcs[f]? =some fn)
  (witness:∃ (w:World) (tape:Tape) (i:Input),w.os=os∧(w.forCall tape i).Shaped C.prog∧i.vars= []∧Input.okWide C.prog (w.forCall tape i) .any w.heap.size f i∧
   ((s.pre enc C.prog fn conds apart (w.forCall tape i).memory i.args∧X (w.forCall tape i).memory i.args)∧sizedMet enc C.prog fn (OpenSpec.ofChange s) apart (w.forCall tape i).memory i.args)∧a.holds C.prog (lone (Frame.enter C.prog f i.args .normal) [] (w.forCall tape i)))
  (contract:∀ (W:World) (base:Nat) (args:Array Value) (ds gs:List (DataW H)) (before:List MemPlace),
   (∀ (j:Nat) t v,fn.params[j]? =some t→args[j]? =some v→Value.okWide C.prog W .any base t v)→
   DataW.Whole enc C.prog fn.params.toList s.vars apart W args.toList ds gs before→
   (DataW.weightsEach C.prog (fn.params.toList++s.plain.varTypes C.prog) (ds++gs)).all (· ≤reachBytes)=true→X W args→W.ShapedOpen C.prog→
   Calls C.prog f args W fun e W'=>∃ v,e= .returned v∧s.post enc C.prog fn apart fresh handsOn again W args v W'):
  ReturnsInHanded a C os f .any (fun w args=>(s.pre enc C.prog fn conds apart w args∧X w args)∧sizedMet enc C.prog fn (OpenSpec.ofChange s) apart w args) (s.post enc C.prog fn apart fresh handsOn again):=by
 refine returnsInHanded_of_calls own started noInit witness ?_
 intro w tape i _ hsh _ hok hpre hholds
 obtain ⟨_,_,_,fn',hfn',_,_,_,_,hval⟩:=hok
 have e:fn'=fn:=Option.some.inj (hfn'.symm.trans hfn)
 subst e
 obtain ⟨⟨⟨ds,gs,before,hw,_⟩,hx⟩,hz⟩:=hpre
 have hw':=DataW.Whole.of_heap (w':=w.forCall tape i) (by rfl) hw
 refine (contract (w.forCall tape i) w.heap.size i.args ds gs before hval hw' (hz.weights hw) (hX _ _ _ (by rfl) hx) hsh).mono fun e W' ⟨v,he,hp⟩=>?_
 subst he
 exact ChangeSpec.post_blind hp
end Go.Itp
