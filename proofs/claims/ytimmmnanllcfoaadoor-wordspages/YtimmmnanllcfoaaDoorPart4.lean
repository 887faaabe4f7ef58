/- What is proved: the law WordsPages returns true for every input. Conditions: none beyond the card's own.
   Texts: V20, V21, Shell, Shell2, Shell3, V22, V23, V30, SP, V31, V24, V25, V26, VV, V52, V27, V28, V32, V33, V29, V40, V34, V35, V36, V41, V37, V38, V39, V42, V43, V44, V45, V46, V47, V51, V50, V53, V54, V56.
-/
import Derived.Test.YtimmmnanllcfoaaDoorPart3
import Derived.ChangeSame
import Derived.ChangeReads
import Derived.ChangeSlices
import Derived.SliceStrings
import Derived.ChangeShapes
import Derived.WideShapes
import Derived.ProofKit
import Derived.OpenShut
import Derived.SizedLaws
import Derived.WalkSmall
import Derived.Lib.LaidTab
import Derived.Sort.Grow
import Derived.Shelf.Strconv.Itoa3
import Derived.Lib.AtoiAll
import Derived.Lib.AtoiErrMem
import Derived.Lib.Replace
import Derived.Lib.ItoaNum
import Derived.Lib.Atoi
import Derived.Lib.AtoiTie
import Derived.Lib.Join
import Derived.HandedShaped
import Derived.Shelf.Vars
namespace Go.Itp
theorem bd {a b:Bool} (h:a=b):a=b:=h
set_option linter.unusedVariables false
set_option linter.constructorNameAsVariable false
section
variable {C:C5} {st:l8} {fr:D7}
theorem P0 (t ty e:Nat) (h:f8 fr t=some (.sc (.slice none 0 0))):M3 C fr st (qL fr t (.gr 2 st.next 0)) ⟨(st.next,.gro ty e false [])::st.own,st.next+1,st.ro⟩:=
 (SL fr ty e).trans (M2 h (QN (t:=ty) (e:=e) (z:=false) (Nat.lt_succ_self _)))
theorem qB (o t' e' k ty e:Nat) {l:List V} (h:f8 st.own o=some (.box t' e' l)) (hk:l[k]? =some (.sc (.slice none 0 0))) (ho:o ≠ st.next):
  M3 C fr st fr ⟨A3 ((st.next,.gro ty e false [])::st.own) o (.box t' e' (l.set k (.gr 2 st.next 0))),st.next+1,st.ro⟩:=by
 refine (SL fr ty e).trans (GW (C:=C) (fr:=fr) (st:=⟨(st.next,.gro ty e false [])::st.own,st.next+1,st.ro⟩) (v:= .sc (.slice none 0 0)) (v':= .gr 2 st.next 0) ?_ hk (QN (t:=ty) (e:=e) (z:=false) (Nat.lt_succ_self _)))
 simp only
 rw[k7,if_neg ho]
 exact h
theorem s9 (ρ:List (Nat × Nat)) (k:Nat) {fr':D7} {st':l8} (h0:C.w0.nx=0) (hr:st.ro=0) (hk:OT 0 0 k ρ=true) (hf:yT ρ fr=fr') (hs:(⟨BS ρ st.own ρ,k,0⟩:l8)=st'):M3 C fr st fr' st':=by
 have:=SM (C:=C) (st:=st) ρ k (fr:=fr) (by omega) (by rw[h0,hr];exact hk)
 rw[hr,hs,hf] at this
 exact this
theorem aX8 (ρ:List (Nat × Nat)):yT ρ []= []:=(rfl)
theorem aH1 (ρ:List (Nat × Nat)) (t:Nat) (v:V) (r:D7):yT ρ ((t,v)::r)=(t,aD ρ v)::yT ρ r:=(rfl)
end
theorem m6.at {E:E2} {f:FuncId} {xs:List V} {v:V} {st1:l8} (h:m6 E f xs v st1) (hf:w7 v=true) (st:l8) (hs:J7 st.own xs=some xs):H0 E f st xs v:=h.flat hf hs
theorem m6.of {C:C5} {E:E2} (hC:C.E=E) {f:FuncId} {xs:List V} {v:V} {st1:l8} (h:m6 E f xs v st1) (hf:w7 v=true) (st:l8) (hs:J7 st.own xs=some xs):H0 C.E f st xs v:=by
 rw[hC];exact h.flat hf hs
theorem nJ {H:E4} {v:V} (hcl:Cl H v) (hb:∀ o ob,f8 H o=some ob→(match ob with| .box _ _ _=>false|_=>true)=true) (hv:∀ o ob,f8 H o=some ob→o ∈ Y1 v):bM H v:=
 ⟨hcl,(fun o t e l h=>by have:=hb o _ h;cases this),(fun o ob h _=>VR.root o (hv o ob h))⟩
theorem eC {v:V} (hcl:Cl [] v):bM [] v:=⟨hcl,(fun o t e l h=>by cases h),(fun o ob h=>by cases h)⟩
theorem ON {α β:Type} {f:α→β} {l:List α} {n:Nat} (h:n=l.length):n=0↔l.map f= []:=by
 subst h
 cases l<;>simp
theorem dF {α:Type} {i o:Nat} {v u:α} (h:f8 [(i,v)] o=some u):o=i∧u=v:=by
 rw[k7] at h
 split at h
 ·rename_i e;cases h;exact ⟨e,rfl⟩
 ·cases h
theorem QD {t e n s:Nat} {z:Bool} {l:List D} (h:n=0↔l= []):bM [(0,.gro t e z l)] (.gr s 0 n):=by
 refine nJ ?_ (fun o ob ho=>by rw[(dF ho).2]) (fun o ob ho=>by rw[(dF ho).1];simp[Y1])
 simp only[Cl]
 exact ⟨t,e,z,l,rfl,h⟩
end Go.Itp
namespace Go.Itp
set_option linter.unusedVariables false
set_option linter.constructorNameAsVariable false
def xE (s:Nat):Nat:=if Nat.beq s 0 then 0 else 3
theorem YN:xE 0=0:=(rfl)
theorem YQ:xE 3=3:=(rfl)
theorem YP:xE 2=3:=(rfl)
theorem YO:xE 1=3:=(rfl)
theorem HO (k:IntKind) (z:Int) (d n:Nat) (h0:0≤z) (h1:z≤n):r6 (some (.int k z)) d n=some z.toNat:=by
 simp only[r6]
 rw[if_pos ⟨h0,h1⟩]
theorem GU (e s n:Nat) (l:List D) (k j:IntKind) (a b:Int) (h0:0≤a) (h1:a≤b) (h2:b≤n) (h4:s ≠ 1∨n ≠ 0):aE e (some (.int k a)) (some (.int j b)) none (.sl s n l)=some (.sl (xE s) (b.toNat - a.toNat) (partD l (a.toNat*e) (b.toNat*e))):=by
 simp only[aE]
 rw[if_pos (aJ.2 h4)]
 simp only[rZ,HO j b n n (by omega) h2,Option.bind_some,HO k a 0 b.toNat h0 (by omega)]
 rfl
theorem aB4 (e s n:Nat) (l:List D) (k:IntKind) (a:Int) (h0:0≤a) (h1:a≤n) (h4:s ≠ 1∨n ≠ 0):aE e (some (.int k a)) none none (.sl s n l)=some (.sl (xE s) (n - a.toNat) (partD l (a.toNat*e) (n*e))):=by
 simp only[aE]
 rw[if_pos (aJ.2 h4)]
 have h5:rZ n (some (.int k a)) none=some (a.toNat,n):=by
  have h6:r6 none n n=some n:=rfl
  simp only[rZ,h6,HO k a 0 n h0 h1,Option.bind_some]
 rw[h5]
 rfl
theorem aB3 (e s n:Nat) (l:List D) (j:IntKind) (b:Int) (h1:0≤b) (h2:b≤n) (h4:s ≠ 1∨n ≠ 0):aE e none (some (.int j b)) none (.sl s n l)=some (.sl (xE s) b.toNat (partD l 0 (b.toNat*e))):=by
 simp only[aE]
 rw[if_pos (aJ.2 h4)]
 have h5:rZ n none (some (.int j b))=some (0,b.toNat):=by
  simp only[rZ,HO j b n n h1 h2,Option.bind_some]
  rfl
 rw[h5]
 simp only[Option.map_some,Nat.zero_mul,Nat.sub_zero]
 rfl
theorem EO {α:Type} (f:α→D) (l:List α) (a b:Nat):partD (l.map f) a b=((l.drop a).take (b - a)).map f:=by
 simp[partD,List.map_drop,List.map_take]
theorem uJ (k j:IntKind) (a b:Int):mmV true (.sc (.int k a)) (.sc (.int j b))=some (.sc (.int k (max a b))):=by
 have h:(if b>a then b else a)=max a b:=by omega
 simp only[mmV,if_true,h]
theorem uK (k j:IntKind) (a b:Int):mmV false (.sc (.int k a)) (.sc (.int j b))=some (.sc (.int k (min a b))):=by
 have h:(if b<a then b else a)=min a b:=by omega
 simp only[mmV,Bool.false_eq_true,if_false,h]
end Go.Itp
namespace Go.Itp
open Go.RowKit (Below)
open Go.ChangeShapes Go.WideShapes
def tD (P:Program):Nat→TypeId→Bool
 |0,_=>false
 |k+1,t=>match P.underlying t with
  |some .bool=>true
  |some (.int _)=>true
  |some .string=>true
  |some (.slice e)=> !(P.cellsOf e==0) && tD P k e
  |some (.struct fs)=>fs.toList.all fun f=>tD P k f.type
  |some (.array _ e)=>tD P k e
  |_=>false
section
variable {H:Type} {enc:TypeId × Value→H} {P:Program} {w:World} {base:Nat} {held:Bool} {sp:Nat→Bool}
theorem aA5:∀ (k n:Nat) (t:TypeId) (cs:List Value) (x:DataW H × List MemPlace),tD P k t=true→DataW.trod enc P w base (fun _=>true) held n t cs=some x→(∀ p ∈ x.2,sp p.block=true)→
  DataW.trod enc P w base sp held n t cs=some x
 |0,_,_,_,_,h,_,_=>by simp[tD] at h
 |k+1,0,_,_,_,_,h,_=>by simp[DataW.trod] at h
 |k+1,n+1,t,cs,x,hf,h,hs=>by
  have ih:=fun t cs x=>aA5 k n t cs x
  rw[DataW.trod_step] at h ⊢
  unfold DataW.trodStep at h ⊢
  unfold tD at hf
  split at h
  case h_8 e a len cap hu=>
   rw[hu] at hf
   simp only[Bool.and_eq_true,Bool.not_eq_true',beq_eq_false_iff_ne] at hf
   simp only at h ⊢
   split at h
   ·rename_i hc
    rw[if_pos hc]
    simp only[Option.map_eq_some_iff,Option.bind_eq_some_iff,if_true] at h ⊢
    obtain ⟨elems,he,rest,hrest,rfl⟩:=h
    have hl1:elems.length=len:=by simpa using mapM_some_length he
    have hl2:rest.length=cap - len:=by simpa using mapM_some_length hrest
    have one:∀ (a:Addr) (y:DataW H × List MemPlace),y ∈ elems++rest→(w.cells? base a (P.cellsOf e)).bind (DataW.trod enc P w base (fun _=>true) held n e)=some y→
      (w.cells? base a (P.cellsOf e)).bind (DataW.trod enc P w base sp held n e)=some y:=by
     intro a y hy hv
     simp only[Option.bind_eq_some_iff] at hv ⊢
     obtain ⟨c,hc1,hc2⟩:=hv
     exact ⟨c,hc1,ih _ _ _ hf.2 hc2 fun p hp=>hs p (by simp only[List.mem_append,List.mem_flatMap];exact Or.inr ⟨y,by simpa using hy,hp⟩)⟩
    refine ⟨elems,mapM_carry he fun i y _ hy hv=>one _ y (by simp[hy]) hv,rest,?_,rfl⟩
    by_cases hz:elems.length+rest.length=0
    ·have:rest= []:=List.length_eq_zero_iff.1 (by omega)
     subst this
     have:cap - len=0:=by simpa using hl2.symm
     rw[this]
     split<;>simp
    ·have hb:sp a.block=true:=by
      have:=hs (.cell a.block (a.off+0)) (by
       simp only[List.mem_append]
       left
       refine MemPlace.mem_row.2 ⟨0,?_,rfl⟩
       exact Nat.mul_pos (by omega) (Nat.pos_of_ne_zero hf.1))
      simpa [MemPlace.block] using this
     rw[if_pos hb]
     exact mapM_carry hrest fun j y _ hy hv=>one _ y (by simp[hy]) hv
   ·cases h
  case h_9 fs hu=>
   rw[hu] at hf
   simp only[List.all_eq_true] at hf
   split at h
   ·rename_i hc
    rw[if_pos hc]
    simp only[Option.map_eq_some_iff] at h ⊢
    obtain ⟨xs,hx,rfl⟩:=h
    exact ⟨xs,mapM_carry hx (fun f y hfm hy hv=>ih _ _ _ (hf f hfm) hv (fun p hp=>hs p (List.mem_flatMap.2 ⟨y,hy,hp⟩))),rfl⟩
   ·cases h
  case h_10 m e hu=>
   rw[hu] at hf
   split at h
   ·rename_i hc
    rw[if_pos hc]
    simp only[Option.map_eq_some_iff] at h ⊢
    obtain ⟨xs,hx,rfl⟩:=h
    exact ⟨xs,mapM_carry hx (fun f y _ hy hv=>ih _ _ _ hf hv (fun p hp=>hs p (List.mem_flatMap.2 ⟨y,hy,hp⟩))),rfl⟩
   ·cases h
  all_goals first|exact h|(exfalso;simp_all;done)|(simp_all;done)
theorem AN (k:Nat) {W W':World} (hb:Below W.heap.size W W'):∀ (ts:List TypeId) (vs:List Value) (ds:List (DataW H)) (ps:List MemPlace),ts.all (tD P k)=true→
  DataW.TrodAll enc P W base (fun _=>true) held ts vs ds ps→(∀ p ∈ ps,p.block<W.heap.size)→(∀ p ∈ ps,sp p.block=true)→DataW.TrodAll enc P W' base sp held ts vs ds ps
 | [],[],[],_,_,h,_,_=>h
 |t::ts,v::vs,d::ds,ps,hf,⟨p,q,⟨n,h1⟩,h2,e⟩,hl,hs=>by
  subst e
  simp only[List.all_cons,Bool.and_eq_true] at hf
  refine ⟨p,q,⟨n,?_⟩,AN k hb ts vs ds q hf.2 h2 (fun x hx=>hl x (by simp[hx])) (fun x hx=>hs x (by simp[hx])),rfl⟩
  refine aA5 k n _ _ _ hf.1 (DataW.trod_carry n _ _ _ h1 fun x hx=>hb.same (hl x ?_)) fun x hx=>hs x ?_
  ·simp only at hx;simp[hx]
  ·simp only at hx;simp[hx]
 | [],_::_,_,_,_,h,_,_=>by simp[DataW.TrodAll] at h
 | [],[],_::_,_,_,h,_,_=>by simp[DataW.TrodAll] at h
 |_::_,[],_,_,_,h,_,_=>by simp[DataW.TrodAll] at h
 |_::_,_::_,[],_,_,h,_,_=>by simp[DataW.TrodAll] at h
theorem aT3 {f:Func} {s:ChangeSpec} {apart fresh handsOn again:Bool} {W W':World} {args:Array Value} {ds gs:List (DataW H)} {before:List MemPlace} {rt:TypeId}
  (hW:DataW.Whole enc P f.params.toList s.vars apart W args.toList ds gs before) (hv:s.vars= []) (hfn:s.fn H ds={results:= [.lit (.bool true)],args:=ds})
  (hf:f.params.toList.all (tD P 20)=true) (hr:f.resultTypes=#[rt]) (hrt:P.underlying rt=some .bool) (hb:Below W.heap.size W W'):
  s.post enc P f apart fresh handsOn again W args (.bool true) W':=by
 have hlt:∀ p ∈ before,p.block<W.heap.size:=fun p hp=>hW.lt p hp
 have hW':=hW
 obtain ⟨pa,pv,hA,hV,hps,hz,hn⟩:=hW
 rw[hv] at hV
 obtain ⟨rfl,rfl⟩:=trodVars_none hV
 rw[List.append_nil] at hps
 subst hps
 have hd:s.fn H (ds++ [])={results:= [.lit (.bool true)],args:=ds}:=by rw[List.append_nil];exact hfn
 have hres:∀ (b:Nat) (sp:Nat→Bool) (hd:Bool),DataW.TrodAll enc P W' b sp hd f.resultTypes.toList ((Value.bool true).resultList f.resultTypes.size) (s.fn H (ds++ [])).results []:=by
  intro b sp hd'
  rw[hr,hd]
  exact ⟨[],[],⟨1,by simp[DataW.trod,hrt,Value.cells]⟩,rfl,rfl⟩
 have hargs:∀ sp:Nat→Bool,(∀ p ∈ before,sp p.block=true)→DataW.TrodAll enc P W' 0 sp true f.params.toList args.toList (s.fn H (ds++ [])).args before:=fun sp hsp=>by rw[hd];exact AN 20 hb _ _ _ _ hf hA hlt hsp
 have hold:∀ p ∈ before,(fun b=>decide (b<W.heap.size)) p.block=true:=fun p hp=>by simpa using hlt p hp
 have hvars:∀ sp,DataW.TrodVars enc P W' sp s.vars (s.fn H (ds++ [])).vars []:=fun sp=>by rw[hv,hd];rfl
 refine ⟨ds,[],before,[],before,[],hW',hres _ _ _,hargs _ hold,hvars _,World.keptBut_mono (fun p hp=>⟨hp,?_⟩) (hb.frame (· ∈ before)),fun _=>?_⟩
 ·exact Or.inr (Or.inl hp)
 ·refine ⟨?_,_,_,([]++before)++ [],⟨[]++before,[],trodAll_append (hargs _ (fun _ _=>rfl)) (hres _ _ _),hvars _,rfl,?_,?_⟩,?_⟩
  ·intro j t r h1 h2
   rw[hr] at h1 h2
   have hj:j=0:=by
    rcases Nat.lt_or_ge j 1 with h|h
    ·omega
    ·rw[Array.getElem?_eq_none (by simpa using h)] at h1;cases h1
   subst hj
   simp at h1 h2
   subst h1
   have h2':r= .bool true:=by
    have:(Value.bool true).resultList 1= [.bool true]:=rfl
    rw[this] at h2;simpa using h2.symm
   subst h2'
   exact Go.RowKit.okWide_bool_mk hrt true
  ·intro b off hp
   have hin:MemPlace.cell b off ∈ before:=by simpa using hp
   rw[hb.frozen (hlt _ hin)]
   exact hz b off hin
  ·intro ha;simpa using hn ha
  ·intro p hp _;simpa using hp
end
end Go.Itp
namespace Go.Itp
open Go.ChangeShapes Go.WideShapes
def HH:Value→Value
 | .slice (some ⟨b,o,some k⟩) 0 0=> .complex .f32 b (BK o k)
 |v=>v
section
variable {H:Type} {enc:TypeId × Value→H} {P:Program} {W:World} {base:Nat} {held:Bool}
theorem aC5 {b o:Nat} {c:Value} (h:W.cell? ⟨b,o,none⟩=some c) (hid:r5 0 c= []) (ha:HH c=c):I7 W b o=some (HH c):=by
 rw[ha];exact nB h hid
end
section
variable {H:Type} {enc:TypeId × Value→H} {P:Program} {W:World} {base:Nat} {held:Bool}
theorem jE {r:Reach} {b:Nat} {u:TypeId} {a:Addr} {n c:Nat} (h:Cell.okWide P W r b u (.slice (some a) n c)):a.spot=none:=by
 unfold Cell.okWide at h
 split at h
 all_goals first|(rename_i heq;cases heq;done)|skip
 unfold Cell.ok at h
 split at h
 all_goals first|(rename_i heq;cases heq;done)|skip
 ·rename_i e a' len cap _ heq
  cases heq
  exact h.2.2.2.1
 ·exact h.elim
theorem bR2 {r:Reach} {b:Nat} {u:TypeId} {v:Value} (h:Cell.okWide P W r b u v):HH v=v:=by
 unfold HH
 split
 ·rename_i b' o k
  have:=jE h
  cases this
 ·rfl
end
section
variable {H:Type} {enc:TypeId × Value→H} {P:Program} {W:World} {base:Nat} {held:Bool}
theorem UY {t:TypeId} {b:Nat} {v:Value} (ht:∀ fs,P.underlying t ≠ some (.struct fs)) (ht':∀ n e,P.underlying t ≠ some (.array n e)) (hv:Value.okWide P W .any b t v):Cell.okWide P W .any b t v:=by
 unfold Value.okWide at hv
 split at hv
 ·rename_i fs h;exact (ht fs h).elim
 ·rename_i n e h;exact (ht' n e h).elim
 ·exact hv
theorem aU6 {t:TypeId} {k:IntKind} {b:Nat} {v:Value} {d:DataW H} {ps:List MemPlace} (ht:P.underlying t=some (.int k)) (hv:Value.okWide P W .any b t v) (h:DataW.Trod enc P W base (fun _=>true) held t v d ps):
  ∃ z:Int,v= .int k z∧(Lit.int k z).wf=true:=by
 have hc:=UY (by simp[ht]) (by simp[ht]) hv
 obtain ⟨n,hn⟩:=h
 obtain ⟨z,h1,_,h2⟩:=DataW.trod_int ht hn
 refine ⟨z,?_,h2⟩
 unfold Cell.okWide at hc
 simp only[ht,Cell.ok] at hc
 cases v<;>first|(exfalso;simp at hc;done)|(simpa [Value.cells] using h1)
theorem BA {ts:List TypeId} {ds:List (DataW H)} (h:(DataW.weightsEach P ts ds).all (· ≤reachBytes)=true) {j:Nat} {t:TypeId} {d:DataW H} (ht:ts[j]? =some t) (hd:ds[j]? =some d):∀ n ∈ d.weights P t,n≤reachBytes:=fun n hn=>by
 have:=List.all_eq_true.1 h n (DataW.weights_mem_each ht hd n hn)
 simpa using this
end
set_option linter.unusedVariables false
set_option linter.unusedSimpArgs false
section
variable {H:Type} {enc:TypeId × Value→H} {P:Program} {W:World} {base:Nat} {held:Bool}
theorem vZ {e:TypeId} (he:P.underlying e=some .bool) (c:Value) (n:Nat) (y:DataW H × List MemPlace) (h:DataW.trod enc P W base (fun _=>true) held n e [c]=some y):∃ b:Bool,c= .bool b:=by
 obtain ⟨z,h1,_⟩:=DataW.trod_bool he h
 exact ⟨z,by simpa using h1⟩
theorem OZ {t:TypeId} {f0 f1:Field} {b:Nat} {v:Value} {d:DataW H} {ps:List MemPlace} (ht:P.underlying t=some (.struct #[f0,f1])) (o0:f0.offset=0) (o1:f1.offset=1)
  (c0:P.cellsOf f0.type=1) (c1:P.cellsOf f1.type=1) (ct:P.cellsOf t=2) (hv:Value.okWide P W .any b t v) (h:DataW.Trod enc P W base (fun _=>true) held t v d ps) (hsz:∀ n ∈ d.weights P t,n≤reachBytes):
  ∃ (n:Nat) (a0 a1:Value) (y0 y1:DataW H × List MemPlace),v= .agg [a0,a1].toArray∧HH a0=a0∧HH a1=a1∧
   DataW.trod enc P W base (fun _=>true) held n f0.type [a0]=some y0∧DataW.trod enc P W base (fun _=>true) held n f1.type [a1]=some y1∧
   (∀ m ∈ y0.1.weights P f0.type,m≤reachBytes)∧(∀ m ∈ y1.1.weights P f1.type,m≤reachBytes):=by
 unfold Value.okWide at hv
 rw[ht] at hv
 obtain ⟨cs,rfl,hcs,ts,_,_,hrow⟩:=hv
 rw[ct] at hcs
 obtain ⟨l⟩:=cs
 simp only[List.size_toArray] at hcs
 obtain ⟨a0,a1,rfl⟩:∃ a0 a1,l= [a0,a1]:=by
  rcases l with _|⟨a0,_|⟨a1,_|⟨a2,l⟩⟩⟩<;>simp at hcs
  exact ⟨a0,a1,rfl⟩
 obtain ⟨n,hn⟩:=h
 cases n with
 |zero=>simp[DataW.trod] at hn
 |succ n=>
  have habs:∀ i c,([a0,a1]:List Value)[i]? =some c→HH c=c:=fun i c hc=>by
   obtain ⟨u,_,hu⟩:=hrow i c (by simpa using hc)
   exact bR2 hu
  unfold DataW.trod at hn
  simp only[ht,Value.cells] at hn
  rw[if_pos (by simp[ct])] at hn
  simp only[Option.map_eq_some_iff,List.mapM_cons,List.mapM_nil] at hn
  obtain ⟨xs,hx,hd⟩:=hn
  simp only[o0,o1,c0,c1,List.drop_zero,List.drop_succ_cons,List.take_succ_cons,List.take_zero] at hx
  cases h0:DataW.trod enc P W base (fun _=>true) held n f0.type [a0] with
  |none=>simp[h0] at hx
  |some y0=>
   cases h1:DataW.trod enc P W base (fun _=>true) held n f1.type [a1] with
   |none=>simp[h0,h1] at hx
   |some y1=>
    have hxs:xs= [y0,y1]:=by simpa [h0,h1] using hx.symm
    subst hxs
    simp only[Prod.mk.injEq] at hd
    obtain ⟨rfl,rfl⟩:=hd
    have hw:∀ m,(m ∈ y0.1.weights P f0.type∨m ∈ y1.1.weights P f1.type)→m≤reachBytes:=fun m hm=>hsz m (by
     simp only[DataW.weights,ht,List.map_cons,List.map_nil,DataW.weightsEach,List.mem_append]
     rcases hm with hm|hm
     ·exact Or.inl hm
     ·exact Or.inr (Or.inl hm))
    exact ⟨n,a0,a1,y0,y1,rfl,habs 0 _ rfl,habs 1 _ rfl,h0,h1,fun m hm=>hw m (Or.inl hm),fun m hm=>hw m (Or.inr hm)⟩
end
end Go.Itp
namespace Go.Itp
set_option linter.unusedVariables false
section
variable {old:Nat→Nat→Option Value} {rounds:Nat} {fns:FuncId→Option p7} {prims:FuncId→List Value→St→Option (Value × List u6)} {n:Nat} {xs:List V} {af:p7}
abbrev sI (old:Nat→Nat→Option Value):VW:=⟨fun a=>match a.spot with|none=>old a.block a.off|some _=>none,fun _=>False,fun _=>none,0⟩
theorem KY (E:E2) (h:E.old=old):m9 E ([]:j9)=(sI old).ld:=by
 funext a
 obtain ⟨b,o,sp⟩:=a
 subst h
 rcases sp with _|_|k<;>rfl
theorem cD8 {xsI:List Value} {x:Value} (hlen:xs.length≤af.n) (hx:d8 (sI old) xs xsI)
  (h:∀ C:C5,C.E=t8 old rounds fns prims n→C.w0.nx=0→gC C af.code [] (R7 0 xs) ⟨[],0,0⟩ (qI C af.res (.sc x) ⟨[],0,0⟩)):∃ s',body (t8 old rounds fns prims n) af xsI St.empty=some (x,s'):=by
 let C:C5:=C1 (t8 old rounds fns prims n) St.empty (YV (t8 old rounds fns prims n) [] fun _=>False)
 have hs:SR C ⟨[],0,0⟩ ⟨St.empty.heap,St.empty.next,St.empty.next⟩ (fun _=>none) fun _=>False:=SR.start (fun b hb=>hb.elim) (fun b blk e=>by simp[St.empty,d9] at e)
 have hx':d8 (u5 C ⟨[],0,0⟩ ⟨St.empty.heap,St.empty.next,St.empty.next⟩ (fun _=>none) fun _=>False) xs xsI:=by
  show d8 ⟨m9 (t8 old rounds fns prims n) ([]:j9),fun _=>False,fun _=>none,0⟩ xs xsI
  rw[KY _ (eZ n)];exact hx
 obtain ⟨vI,sf,hbody,μ,G,g1,g2,g3,g4,g5⟩:=qN (C:=C) (s:=⟨St.empty.heap,St.empty.next,St.empty.next⟩) hlen (h C rfl rfl) ⟨_,_,hs,cK 0 hx',VW.le.refl _,rfl,fun b hb=> .inl hb⟩ hx.length
 simp only[b7] at g2
 rw[g2.1] at hbody
 exact ⟨sf,hbody⟩
theorem CX {α:Type} {W:VW} (g:α→D) (f:α→Value):∀ (l:List α) (a:Addr),(∀ k (hk:k<l.length),W.ld (y4 a k)=some (f l[k]))→(∀ x ∈ l,u7 W (g x) (f x))→v7 W (l.map g) a
 | [],a,_,_=>by simp only[List.map_nil,v7]
 |x::r,a,h,hg=>by
  simp only[List.map_cons,v7]
  refine ⟨⟨f x,?_,hg x (List.mem_cons_self ..)⟩,CX g f r _ (fun k hk=>?_) fun y hy=>hg y (List.mem_cons_of_mem _ hy)⟩
  ·have:=h 0 (by simp)
   simpa [y4] using this
  ·have:=h (k+1) (by simpa using hk)
   rw[show y4 (y4 a 1) k=y4 a (k+1) from by simp only[y4,Nat.add_assoc,Nat.add_comm 1 k]]
   simpa using this
end
set_option linter.constructorNameAsVariable false
section
variable {old:Nat→Nat→Option Value} {rounds:Nat} {fns:FuncId→Option p7} {prims:FuncId→List Value→St→Option (Value × List u6)} {n:Nat} {f:FuncId} {xs:List V} {v:V} {st st1:l8} {af:p7} {C:C5}
theorem SR.env2 {s:St} {μ:Nat→Option Nat} {F:Nat→Prop} (h:SR C st s μ F) {C':C5} (hE:m9 C'.E=m9 C.E) (hn:C'.n0≤s.next) (hU:∀ b,(C'.U b→b<C'.n0∧d9 s.heap b=d9 C'.h0 b)∧(C'.U b→C.U b)):SR C' st s μ F:=by
 have hw:u5 C' st s μ F=u5 C st s μ F:=by
  show (⟨m9 C'.E s.heap,F,μ,st.next⟩:VW)=⟨m9 C.E s.heap,F,μ,st.next⟩
  rw[hE]
 refine ⟨fun o ob e hnn=>?_,fun o ob b e1 e2 e3=>?_,h.fz,h.inj,h.dom,h.lt,h.cl,fun b hb=>(hU b).1 hb,hn,h.own,h.hb,h.pr,h.pb⟩
 ·rw[hw];exact h.obj o ob e hnn
 ·obtain ⟨q1,q2⟩:=h.wr o ob b e1 e2 e3
  exact ⟨q1,fun hr=>⟨(q2 hr).1,fun hu=>(q2 hr).2 ((hU b).2 hu)⟩⟩
theorem HU {Q:V→l8→Prop} (hC:C.E=t8 old rounds fns prims (n+1)) (hf:fns f=some af) (hpu:af.pure=false) (hp:∀ xs s,prims f xs s=none) (hlen:xs.length≤af.n) (hq:Q v st1)
  (h:∀ C':C5,C'.E=t8 old rounds fns prims n→C'.w0.nx=st.next→gC C' af.code [] (R7 0 xs) st (qI C' af.res v st1)):W2 C f xs st Q:=by
 refine ⟨v,st1,hq,fun s μ F xsI hsr hx hpr=>?_⟩
 let C':C5:=⟨t8 old rounds fns prims n,s.next,s.heap,C.U,⟨m9 (t8 old rounds fns prims n) s.heap,F,μ,st.next⟩,C.p0⟩
 have hE:m9 C'.E=m9 C.E:=by rw[hC];exact T8 _ _
 have hs':SR C' st s μ F:=hsr.env2 hE (Nat.le_refl _) (fun b=>⟨fun hb=>⟨by have:=(hsr.un b hb).1;have:=hsr.n0;show b<s.next;omega,rfl⟩,fun hb=>hb⟩)
 have hx':d8 (u5 C' st s μ F) xs xsI:=by
  show d8 ⟨m9 C'.E s.heap,F,μ,st.next⟩ xs xsI
  rw[hE];exact hx
 obtain ⟨vI,sf,hbody,μ',G,g1,g2,g3,g4,g5⟩:=qN (C:=C') (s:=s) hlen (h C' rfl rfl) ⟨μ,F,hs',cK 0 hx',VW.le.refl _,hpr,fun b hb=> .inl hb⟩ hx.length
 have hn:s.next≤sf.next:=g1.n0
 have hw:u5 C st1 sf μ' G=u5 C' st1 sf μ' G:=by
  show (⟨m9 C.E sf.heap,G,μ',st1.next⟩:VW)=⟨m9 C'.E sf.heap,G,μ',st1.next⟩
  rw[hE]
 have g1':SR C st1 sf μ' G:=g1.env2 hE.symm (by have:=hsr.n0;omega) (fun b=>⟨fun hb=>⟨(hsr.un b hb).1,by rw[(g1.un b hb).2];exact (hsr.un b hb).2⟩,fun hb=>hb⟩)
 refine ⟨vI,sf,μ',G,?_,g1',by rw[hw];exact g2,?_,by rw[g4,hpr],hn,fun b hb=>?_⟩
 ·simp only[callI,hC,K4,sR,hp,hf,Option.bind_some,hpu]
  exact hbody
 ·rw[hw]
  show VW.le ⟨m9 C.E s.heap,F,μ,st.next⟩ _
  rw[← hE];exact g3
 ·rcases g5 b hb with hb|hb
  ·exact .inl hb
  ·exact .inr (by rw[hpr];exact hb)
end
def aX6 (c:Nat):Obj:= .row c 0 true false []
section
variable {C:C5} {st:l8} {s:St} {μ:Nat→Option Nat} {F:Nat→Prop}
theorem S3:∀ H:E4,C0 [] H=H
 | []=>rfl
 |(j,o)::r=>by rw[iO,S3 r];rfl
theorem SR.recd (h:SR C st s μ F) {o c:Nat} (ho:f8 st.own o=some (aX6 c)):∃ b blk,μ o=some b∧d9 s.heap b=some blk∧blk.esz=0∧blk.grow=true∧blk.ty=c:=by
 obtain ⟨b,blk,h1,h2,h3⟩:=h.obj o _ ho rfl
 exact ⟨b,blk,h1,h2,h3.1,h3.2.1,h3.2.2.1⟩
theorem SR.setRec (h:SR C st s μ F) {o b c:Nat} (ho:f8 st.own o=some (aX6 c)) (hro:st.ro≤o) (hμ:μ o=some b) (c':Nat):
  SR C ⟨A3 st.own o (aX6 c'),st.next,st.ro⟩ {s with heap:=M4 s.heap b (N8 c')} μ F∧VW.le (u5 C st s μ F) (u5 C ⟨A3 st.own o (aX6 c'),st.next,st.ro⟩ {s with heap:=M4 s.heap b (N8 c')} μ F)∧s.prot≤b:=by
 obtain ⟨b',blk,h1,h2,_⟩:=h.recd ho
 rw[hμ] at h1;cases h1
 have:=h.upd (fz:= []) ho rfl hro hμ h2 rfl (by simp) (ob':=aX6 c') (blk':=N8 c') rfl rfl rfl (fun w' _ _ _=>⟨rfl,rfl,rfl,by simp only[j6,N8]⟩)
 rw[S3,U3] at this
 exact this
theorem TC {E E':E2} (h:E'.old=E.old):m9 E'=m9 E:=by
 funext hp a
 rw[HJ,HJ,h]
end
section
variable {C:C5} {st:l8} {old:Nat→Nat→Option Value} {rounds:Nat} {fns:FuncId→Option p7} {prims:FuncId→List Value→St→Option (Value × List u6)} {n:Nat} {f:FuncId} {xs:List V} {af:p7} {fr:D7} {P:A8} {K:List KF}
end
end Go.Itp
namespace Go.Itp
open Go.RowKit (Below)
open Go.Sort (grow)
section
variable {P:Program} {G:v8} {μ:Mu} {s:St} {w:World}
def HD (P:Program) (f:FuncId):Prop:=∃ fn c,P.funcs[f]? =some fn∧fn.body=some c∧(fn.name== "runtime.NumGoroutine")=false
theorem cS {f:FuncId} {args:Array Value} {v c:Value} (hen:HD P f) (hr:C8 G μ s w) (hc:Calls P f args w fun e w'=>e= .returned c∧Below w.heap.size w w') (hv:tr μ v=some c):N0 P f args w (s7 G μ s w v []):=by
 obtain ⟨fn,cd,h1,h2,h3⟩:=hen
 exact P6 h1 h2 h3 (hc.mono fun e w' ⟨he,hb⟩=>⟨c,he,μ,V8.refl s μ,hv,by rw[yL];exact hr.below hb,hb⟩)
theorem TE (w:World) (k:Nat) (os:Array Go.Obj):Below w.heap.size w (grow (w.drewN k) os):=
 ⟨rfl,rfl,rfl,by simp[grow,World.drewN],fun i hi=>by simp only[grow,World.drewN];rw[Array.getElem?_append_left hi]⟩
theorem aJ1 {name:String} {k:IntKind} {zs:List Int} {w0 w:World} (h:Lib.TabIs P w0 name k zs) (hb:Below w0.heap.size w0 w):Lib.TabIs P w name k zs:=by
 unfold Lib.TabIs World.var? at h ⊢
 cases hg:P.globalNamed name with
 |none=>rw[hg] at h;cases h
 |some g=>
  rw[hg] at h
  simp only[Option.bind_some] at h ⊢
  rcases Nat.lt_or_ge g w0.heap.size with h'|h'
  ·rw[hb.block g h'];exact h
  ·rw[Array.getElem?_eq_none h'] at h;cases h
end
def OC (f0:FuncId) (f:FuncId) (xs:List Value) (_:St):Option (Value × List u6):=
 if Nat.beq f f0 then (match xs with
  | [.int .i64 n]=>if -9223372036854775808≤n∧n≤9223372036854775807 then some (.string ⟨(Lib.itoa n).toArray⟩,[]) else none
  |_=>none) else none
theorem aT0 {P:Program} {f0:FuncId} {w0:World} (hen:HD P f0) (ht:Lib.TabIs P w0 "internal/strconv.uint64pow10" .u64 Lib.pow10Tab)
  (hc:∀ (n:Int) (_: -9223372036854775808≤n) (_:n≤9223372036854775807) (w:World) (_:Lib.TabIs P w "internal/strconv.uint64pow10" .u64 Lib.pow10Tab),
   Calls P f0 #[.int .i64 n] w fun e w'=>e= .returned (.string ⟨(Lib.itoa n).toArray⟩)∧∃ k os,w'=grow (w.drewN k) os):R9 P (OC f0) w0:=by
 intro f xs s v bs h G μ w cs hG hr hx
 unfold OC at h
 split at h
 case isFalse=>cases h
 rename_i hf
 have:=i6.1 hf
 subst this
 split at h
 case h_2=>cases h
 rename_i n
 split at h
 case isFalse=>cases h
 rename_i hn
 simp only[Option.some.injEq,Prod.mk.injEq] at h
 obtain ⟨rfl,rfl⟩:=h
 simp[C3,tr] at hx
 subst hx
 refine cS hen hr ((hc n hn.1 hn.2 w (aJ1 ht (by rw[← hG];exact hr.b0))).mono fun e w' ⟨he,k,os,hw⟩=>⟨he,?_⟩) rfl
 rw[hw]
 exact TE w k os
end Go.Itp
namespace Go.Itp
open Go.RowKit (Below)
set_option linter.unusedVariables false
set_option linter.constructorNameAsVariable false
section
variable {C:C5} {st:l8} {fr:D7}
end
section
variable {P:Program} {G:v8} {μ:Mu} {s:St} {w:World}
end
section
variable {old:Nat→Nat→Option Value} {rounds:Nat} {fns:FuncId→Option p7} {prims:FuncId→List Value→St→Option (Value × List u6)} {n:Nat} {f:FuncId}
theorem SB {w:VW}:∀ {ys:List Value} {xsI:List Value},d8 w (ys.map V.sc) xsI→xsI=ys
 | [],xsI,h=>by simpa [d8] using h
 |y::r,xsI,h=>by
  simp only[List.map_cons,d8] at h
  obtain ⟨v,vs',rfl,h1,h2⟩:=h
  rw[h1.scv,SB h2]
theorem aV8 {st:l8} {ys:List Value} {v:Value} (h:∀ s,prims f ys s=some (v,[])) (hv:B8 v=true):H0 (t8 old rounds fns prims (n+1)) f st (ys.map V.sc) (.sc v):=by
 intro s μ F xsI w0 hsr hx
 rw[SB hx]
 refine ⟨v,?_,fun w=> .mksc hv⟩
 simp only[K4,h]
theorem bT4 {f0:FuncId} {st:l8} {k:Int} (h0: -9223372036854775808≤k) (h1:k≤9223372036854775807) (hp:∀ xs s r,OC f0 f0 xs s=some r→prims f0 xs s=some r):
  H0 (t8 old rounds fns prims (n+1)) f0 st [.sc (.int .i64 k)] (.sc (.string ⟨(Lib.itoa k).toArray⟩)):=by
 refine aV8 (ys:= [.int .i64 k]) (fun s=>hp _ _ _ ?_) rfl
 unfold OC
 rw[if_pos (i6.2 rfl)]
 simp only
 rw[if_pos ⟨h0,h1⟩]
theorem S9 {a b:FuncId→List Value→St→Option (Value × List u6)} {xs:List Value} {s:St} {r:Value × List u6} (h:a f xs s=some r):U7 a b f xs s=some r:=by
 unfold U7
 rw[h]
theorem D2 {a b:FuncId→List Value→St→Option (Value × List u6)} {xs:List Value} {s:St} {r:Value × List u6} (h0:a f xs s=none) (h:b f xs s=some r):U7 a b f xs s=some r:=by
 unfold U7
 rw[h0]
 exact h
section
open Go.RowKit
theorem aT2 {P:Program} {w:World} {l:List (String × DataW Unit)} (h:laidMet P l w) {n:String} {d:DataW Unit} (i:Nat) (hi:l[i]? =some (n,d)) {g:Nat} {t e:TypeId} {k:IntKind} {m:Nat} {zs:List Int} (hg:P.globalNamed n=some g) (ht:(P.globals[g]?).map (·.type)=some t)
  (hta:P.underlying t=some (.array m e)) (he:P.underlying e=some (.int k)) (hc:P.cellsOf e=1) (hc2:P.cellsOf t=m) (hz:aO7 d=zs.map (Value.int k)):Lib.TabIs P w n k zs:=by
 obtain ⟨ps,h1,_,_⟩:=h
 obtain ⟨g',t',cs,fuel,p,k1,k2,k3,k4,_⟩:=OH l ps h1 i hi
 rw[hg] at k1;cases k1
 rw[ht] at k2;cases k2
 have hcs:=aF6 hta he hc hc2 k4
 unfold Lib.TabIs
 rw[k3,← hz,← hcs]
end
end
end Go.Itp
namespace Go.Itp
set_option linter.unusedVariables false
set_option linter.constructorNameAsVariable false
section
variable {C:C5} {st:l8} {fr:D7}
end
theorem kF {α:Type}:∀ (r:List (Nat × α)) (i:Nat) (u v:α),A3 (A3 r i u) i v=A3 r i v
 | [],i,u,v=>rfl
 |(k,x)::r,i,u,v=>by
  rw[J1,J1]
  split
  ·rename_i h;subst h;rw[J1,if_pos rfl]
  ·rename_i h;rw[J1,if_neg h,kF r i u v]
theorem CB {α:Type}:∀ (r:List (Nat × α)) (i:Nat) (u:α),f8 r i=some u→A3 r i u=r
 | [],i,u,h=>rfl
 |(k,x)::r,i,u,h=>by
  rw[J1]
  rw[k7] at h
  split
  ·rename_i hk;rw[if_pos hk] at h;cases h;rfl
  ·rename_i hk;rw[if_neg hk] at h;rw[CB r i u h]
theorem eP {α:Type} {r:List (Nat × α)} {i:Nat} {u v:α} (h:f8 r i=some u):f8 (A3 r i v) i=some v:=by rw[O3 _ _ _ _ _ h,if_pos rfl]
theorem tL (u t:TypeId) (f:FuncId) (r:List (TypeId × FuncId)):P8 ((u,f)::r) t=if t=u then some f else P8 r t:=by
 simp only[P8]
 by_cases h:t=u
 ·rw[if_pos (i6.2 h),if_pos h]
 ·rw[if_neg (by rw[i6];exact h),if_neg h]
section
variable {old:Nat→Nat→Option Value} {fr:D7} {H:E4} {nx:Nat}
def bF4:V→Option V
 | .ref _ _ _ c=>if Nat.blt c v6 then some (.sc (.int .i64 c)) else none
 | .slk _ _ c _=>some (.sc (.int .i64 c))
 | .sc (.slice none _ _)=>some (.sc (.int .i64 0))
 |_=>none
theorem aW5 (x:Operand):f6 old fr H nx (.cap x)=vp (kR bF4 (o9 fr x)):=by
 simp only[f6,kR]
 cases o9 fr x with
 |none=>rfl
 |some v=>
  simp only[Option.bind_some]
  cases v with
  |sc x=>cases x with
   |slice a b c=>cases a<;>rfl
   |_=>rfl
  |ref o k n c=>simp only[bF4];split<;>rfl
  |_=>rfl
theorem LW (n c:Nat):bF4 (.sc (.slice none n c))=some (.sc (.int .i64 0)):=(rfl)
theorem LX (s n c:Nat) (l:List D):bF4 (.slk s n c l)=some (.sc (.int .i64 c)):=(rfl)
theorem GV (e n c:Nat) (j:IntKind):aE e none (some (.int j 0)) none (.sc (.slice none n c))=some (.sc (.slice none 0 0)):=by
 simp only[aE]
 rfl
theorem SC (e s o n:Nat) (j:IntKind) (hn:n ≠ 0):aE e none (some (.int j 0)) none (.gr s o n)=some (.ref o 0 0 (v6+n)):=by
 simp only[aE]
 rw[if_neg (by rw[i6];exact hn)]
 have h1:Nat.blt (v6+n) v6=false:=by rw[← Bool.not_eq_true,Nat.blt_eq];omega
 have h2:Nat.blt 0 (v6+n - v6)=true:=by rw[Nat.blt_eq];omega
 have h0:0<n:=by omega
 simp only[nK,r6,Option.bind_some]
 simp[h1,h0]
theorem PJ (t:TypeId) (e b:Nat) (z:List Value) (x y:Operand):f6 old fr H nx (.appMk t e b z x y)=kS (AP nx t e b z) (o9 fr x) (o9 fr y):=(rfl)
theorem CA (t e b:Nat) (z:Value) (n:Nat) (hn:0<n) (h1:n≤1099511627776) (hz:B8 z=true) (h2:n*b≤1099511627776):AP nx t e b [z] (.sc (.slice none 0 0)) (.sc (.int .i64 n))=some (.gr 2 nx n,some (.gro t e false (List.replicate n (.sc z))),[]):=by
 have hr:rep [z] n=List.replicate n z:=by
  induction n with
  |zero=>rfl
  |succ n ih=>
   rcases Nat.eq_zero_or_pos n with h0|h0
   ·subst h0;rfl
   ·simp only[rep,List.replicate_succ]
    rw[ih h0 (by omega) (Nat.le_trans (Nat.mul_le_mul_right _ (Nat.le_succ n)) h2)]
    rfl
 simp only[AP]
 rw[if_neg (by omega),if_pos ⟨by omega,by unfold r4;omega,by simp[hz],by simp⟩]
 simp only[Int.toNat_natCast]
 rw[if_pos (by rw[Nat.ble_eq];exact h2),hr]
 simp[BD]
def eV (st:l8) (t e b o k n c:Nat) (ob:Option Obj) (src:Src):Option (V × l8):=
 match ob,src with
 |some (.row t' e' g z l),some (m,new,fz)=>
  if T6 new && !Nat.beq e 0 && E1 st.ro st.own fz then (if !Nat.ble st.ro o||z||Nat.beq m 0|| !Nat.ble (n+m) r4|| !Nat.ble ((n+m)*b) r4 then none
      else if Nat.blt c v6 then (if Nat.ble (n+m) c && !l7 o fz then (D8 l (k+n*e) new).map fun l=>(.ref o k (n+m) c,⟨A3 (C0 fz st.own) o (.row t' e' g false l),st.next,st.ro⟩) else none)
      else if g && Nat.beq t' t && Nat.beq e' e && Nat.beq (k+n*e) l.length && Nat.beq c (v6+n) && !l7 o fz then
       some (.gr 2 st.next (n+m),⟨(st.next,.gro t e false (l.drop k++new))::C0 fz (H9 o st.own),st.next+1,st.ro⟩)
      else if Nat.ble (n+m) (c - v6) && !l7 o fz && !(g && Nat.beq t' t && Nat.beq e' e && Nat.beq (k+n*e) l.length && Nat.beq c (v6+n)) then (D8 l (k+n*e) new).map fun l=>(.ref o k (n+m) c,⟨A3 (C0 fz st.own) o (.row t' e' g false l),st.next,st.ro⟩)
      else none) else none
 |_,_=>none
theorem GH (st:l8) (t e b o k n c:Nat) (y:V):uB st t e b (.ref o k n c) y=eV st t e b o k n c (f8 st.own o) (R5 st.own e y):=by
 simp only[uB,R5]
 cases Q7 y with
 |none=>simp only[Option.bind_none,eV];cases f8 st.own o with|none=>rfl|some ob=>cases ob<;>rfl
 |some m=>
  simp only[Option.bind_some]
  cases J8 st.own e m y with
  |none=>simp only[Option.bind_none,Option.map_none,eV];cases f8 st.own o with|none=>rfl|some ob=>cases ob<;>rfl
  |some r=>
   simp only[Option.bind_some,Option.map_some]
   cases f8 st.own o with
   |none=>simp only[eV];split<;>rfl
   |some ob=>cases ob<;>simp only[eV]<;>split<;>rfl
theorem yM {α:Type}:∀ (l:List α) (k:Nat) (m:List α),k+m.length≤l.length→D8 l k m=some (l.take k++m++l.drop (k+m.length))
 |l,k,[],h=>by simp[D8]
 | [],k,x::m,h=>by simp at h
 |a::l,0,x::m,h=>by
  simp only[List.length_cons] at h
  simp only[D8]
  rw[yM l 0 m (by omega)]
  simp
 |a::l,k+1,x::m,h=>by
  simp only[List.length_cons] at h
  simp only[D8]
  rw[yM l k (x::m) (by simp only[List.length_cons];omega)]
  simp only[Option.map_some,List.take_succ_cons,List.cons_append,List.length_cons]
  rw[show k+1+(m.length+1)=k+(m.length+1)+1 by omega,List.drop_succ_cons]
theorem vB (H:E4) (nx ro t e b o k n N t' e' m:Nat) (g:Bool) (l new:List D) (hro:ro≤o) (he:e ≠ 0) (hm:m ≠ 0) (hok:T6 new=true) (hle:n+m≤N) (h1:n+m≤1099511627776) (h2:(n+m)*b≤1099511627776) (hl:k+n*e+new.length≤l.length) (hn:n ≠ N):
  eV ⟨H,nx,ro⟩ t e b o k n (v6+N) (some (.row t' e' g false l)) (some (m,new,[]))=some (.ref o k (n+m) (v6+N),⟨A3 H o (.row t' e' g false (l.take (k+n*e)++new++l.drop (k+n*e+new.length))),nx,ro⟩):=by
 simp only[eV,hok]
 have hb:Nat.ble ro o=true:=by rw[Nat.ble_eq];exact hro
 have h3:Nat.ble (n+m) r4=true:=by rw[Nat.ble_eq];exact h1
 have h4:Nat.ble ((n+m)*b) r4=true:=by rw[Nat.ble_eq];exact h2
 have h5:Nat.beq (v6+N) (v6+n)=false:=SW.2 (by omega)
 have h6:Nat.ble (n+m) (v6+N - v6)=true:=by rw[Nat.ble_eq];omega
 rw[if_pos (by simp[SW.2 he,E1]),if_neg (by simp[hb,h3,h4,SW.2 hm]),if_neg (by rw[Nat.blt_eq];omega),if_neg (by simp[h5]),if_pos (by rw[h6,h5];simp[l7])]
 rw[yM _ _ _ hl,z6]
 rfl
end
structure P1 where
 v:List Nat
 w:List Nat
 n:List Nat
  /-- it sees all but v -/
 a:Bool
  /-- its new objects are a stretch's -/
 r:Bool
def P1.out (l:List Nat) (q:P1):Bool:=if q.a then KC l q.v else MK l q.v
def P1.ok (p q:P1):Bool:=q.out p.w && p.out q.w && q.out p.n
def jD (rs:List P1) (q:P1):List Nat→Bool
 | []=>true
 |k::r=>(match A5 rs k with|some p=>p.ok q|none=>false) && jD rs q r
def UU:K3→Bool
 | .mov _=>true
 | .pick _ _ _=>true
 | .alloc _ _=>true
 | .box _ _=>true
 | .build _ _=>true
 | .mkRow _ _ _ _ _=>true
 | .nilChk _=>true
 | .bin _ _ _=>true
 | .eqB _ _ _=>true
 | .eqNil _ _ _ _=>true
 | .un _ _=>true
 | .convI _ _=>true
 | .convS _=>true
 | .mkSlice _ _ _ _ _ _=>true
 | .slcS _ _ _=>true
 | .slc _ _ _ _ _=>true
 | .slcA _ _ _ _ _=>true
 | .fldA _ _=>true
 | .fldV _ _ _=>true
 | .idxS _ _ _=>true
 | .idxA _ _ _ _=>true
 | .idxStr _ _=>true
 | .idxV _ _ _ _ _=>true
 | .ext _ _=>true
 | .mkFn _ _ _=>true
 | .mkIf _ _=>true
 | .len _ _=>true
 | .mm _ _ _=>true
 | .eqIf _ _ _ _ _=>true
 | .eqAgg _ _ _ _=>true
 |_=>false
def cG6:V→List Nat
 | .ptr o _=> [o]
 |_=> []
def CN (old:Nat→Nat→Option Value) (st:l8) (k:Option Nat) (u:Option V):Option (V × l8 × P1):=u.bind fun u=>(cL old st.own k u).map fun v=>(v,st,⟨cG6 u,[],[],false,false⟩)
def oH (st:l8) (o k:Nat) (y:Value):Option Obj→Option (V × l8 × P1)
 |some (.row t e g false l)=>if Nat.ble st.ro o && Nat.blt k l.length then some (.tup [],⟨A3 st.own o (.row t e g false (l.set k (.sc y))),st.next,st.ro⟩,⟨[o],[o],[],false,false⟩) else none
 |some (.box t e l)=>if Nat.ble st.ro o && Nat.blt k l.length then some (.tup [],⟨A3 st.own o (.box t e (l.set k (.sc y))),st.next,st.ro⟩,⟨[o],[o],[],false,false⟩) else none
 |some (.gro t e false l)=>if Nat.ble st.ro o && Nat.blt k l.length then some (.tup [],⟨A3 st.own o (.gro t e false (l.set k (.sc y))),st.next,st.ro⟩,⟨[o],[o],[],false,false⟩) else none
 |_=>none
def ID (st:l8):Option V→Option V→Option (V × l8 × P1)
 |some (.ptr o k),some (.sc y)=>oH st o k y (f8 st.own o)
 |_,_=>none
def bJ7:List V→Bool
 | []=>true
 | .sc _::r=>bJ7 r
 | .sl _ _ _::r=>bJ7 r
 |_::_=>false
def kI (st:l8) (n:Nat):Option V→Option V→Option (V × l8 × P1)
 |some (.ptr o k),some (.agg ys)=>match f8 st.own o with
  |some (.box t e l)=>if Nat.ble st.ro o && Nat.beq ys.length n && bJ7 ys then (D8 l k ys).map fun l=>(.tup [],⟨A3 st.own o (.box t e l),st.next,st.ro⟩,⟨[o],[o],[],false,false⟩) else none
  |_=>none
 |_,_=>none
def aO6 (st:l8) (e:Nat):Option V→Option V→Option (V × l8 × P1)
 |some (.ref o k n c),some (.ref o2 k2 m c2)=>match f8 st.own o with
   |some (.row t e' g false l)=>(J8 st.own e (Nat.min m n) (.ref o2 k2 m c2)).bind fun cs=>
     if Nat.ble st.ro o && T6 cs.1 && cs.2.isEmpty && (f8 st.own o2).any (fun ob=> !ob.fz) then (D8 l k cs.1).map fun l=>(.sc (.int .i64 (Nat.min m n)),⟨A3 st.own o (.row t e' g false l),st.next,st.ro⟩,⟨[o,o2],[o,o2],[],false,true⟩) else none
   |_=>none
 |_,_=>none
def MF (st:l8):VO→Option (V × l8 × P1)
 |some (v,none,[])=>some (v,st,⟨[],[],[],false,false⟩)
 |some (v,some ob,[])=>some (v,⟨(st.next,ob)::st.own,st.next+1,st.ro⟩,⟨[],[],[st.next],false,false⟩)
 |_=>none
def WH (old:Nat→Nat→Option Value) (f:D7) (st:l8) (o:K3) (hint:Option (List Nat)):Option (V × l8 × P1):=
 match o with
 | .load k a=>CN old st k (o9 f a)
 | .store n a x=>if Nat.beq n 1 then ID st (o9 f a) (o9 f x) else kI st n (o9 f a) (o9 f x)
 | .copy e d x=>aO6 st e (o9 f d) (o9 f x)
 |o=>if hint.isNone && UU o then MF st (f6 old f st.own st.next o) else none
def bS2 (st:l8) (t e b:Nat):Option V→Option V→Option (V × l8 × P1)
 |some (.gr s o n),some (.ref o2 k2 m c2)=>match f8 st.own o,f8 st.own o2 with
   |some (.gro t' e' false l),some (.row t2 e2 g2 false l2)=>
     if Nat.ble st.ro o && !Nat.beq n 0 && !Nat.beq m 0 && !Nat.beq e 0 && Nat.beq t' t && Nat.beq e' e && Nat.beq l.length (n*e) && Nat.ble (n+m) r4 && Nat.ble ((n+m)*b) r4 && Nat.ble (k2+m*e) l2.length && T6 ((l2.drop k2).take (m*e)) then
      some (.gr 2 st.next (n+m),⟨(st.next,.gro t e false (l++(l2.drop k2).take (m*e)))::H9 o st.own,st.next+1,st.ro⟩,⟨[o,o2],[o,o2],[st.next],false,true⟩) else none
   |_,_=>none
 |_,_=>none
def XD (st:l8) (t e b:Nat):Option V→Option (V × l8 × P1)
 |some (.ref o2 k2 m c2)=>match f8 st.own o2 with
   |some (.row t2 e2 g2 false l2)=>
     if !Nat.beq m 0 && !Nat.beq e 0 && Nat.ble m r4 && Nat.ble (m*b) r4 && Nat.ble (k2+m*e) l2.length && T6 ((l2.drop k2).take (m*e)) then
      some (.gr 2 st.next m,⟨(st.next,.gro t e false ((l2.drop k2).take (m*e)))::st.own,st.next+1,st.ro⟩,⟨[o2],[],[st.next],false,false⟩) else none
   |_=>none
 |_=>none
def aO4 (st:l8) (t e b:Nat):Option V→Option V→Option (V × l8 × P1)
 |some (.sc (.slice none 0 0)),y=>XD st t e b y
 |some (.gr 2 _ 0),y=>XD st t e b y
 |x,y=>bS2 st t e b x y
def V4 (old:Nat→Nat→Option Value) (f:D7) (st:l8) (o:K3) (hint:Option (List Nat)):Option (V × l8 × P1):=
 match o with
 | .app t e b x y=>aO4 st t e b (o9 f x) (o9 f y)
 |o=>WH old f st o hint
def IN (rs:List P1):List Nat→Bool
 | []=>true
 |k::r=>(match A5 rs k with|some p=>p.n.isEmpty && !p.r|none=>false) && IN rs r
def wpS (C:C5) (o:K3) (hint:Option (List Nat)) (conc:List Nat) (rs:List P1) (f:D7) (st:l8) (Q:V→l8→P1→Prop):Prop:=
 match o with
 | .callF g xs=>hint=some []∧IN rs conc=true∧∃ args v,W1 f xs=some args∧H0 C.E g st args v∧Q v st ⟨[],[],[],true,false⟩
 |o=>match V4 C.E.old f st o hint with|some (v,st',r)=>Q v st' r|none=>False
def wpD (C:C5):List sL→List P1→D7→l8→(D7→l8→Prop)→Prop
 | [],_,fr,st,Q=>Q fr st
 |x::l,rs,fr,st,Q=>match x.o.guard with
   |none=>wpS C x.o.op x.hint x.conc rs (C9 (p9 x.o) fr) st fun v st' r=>jD rs r x.conc=true∧wpD C l (rs++ [r]) (u9 fr x.o.dst v) st' Q
   |some (t,want)=>match f8 fr t with
     |some (.sc (.bool b))=>if b==want then (wpS C x.o.op x.hint x.conc rs (C9 (p9 x.o) fr) st fun v st' r=>jD rs r x.conc=true∧wpD C l (rs++ [r]) (u9 fr x.o.dst v) st' Q) else wpD C l (rs++ [⟨[],[],[],false,false⟩]) (u9 fr x.o.dst (.tup [])) st Q
     |some (.tup _)=>wpD C l (rs++ [⟨[],[],[],false,false⟩]) (u9 fr x.o.dst (.tup [])) st Q
     |_=>False
theorem aF9 {E:E2} {f:Fr} {h:j9} {n p:Nat} {o:K3} (ho:UU o=true):a8 E f ⟨[],n,n⟩ o=a8 E f ⟨h,n,p⟩ o:=by
 cases o<;>first|rfl|cases ho
def cK4 (μ:Nat→Option Nat) (F:Nat→Prop) (w:NW) (l:List Nat) (r:Bool):Prop:=
 (r=false∧∃ ln,w= .fix ln∧∀ b ∈ ln,¬ F b∧∃ o ∈ l,μ o=some b)∨(r=true∧((∃ m,w= .rng m m)∨∃ m,w= .rng m (m+1)∧¬ F m∧∃ o ∈ l,μ o=some m))
def bR1 (μ:Nat→Option Nat) (F:Nat→Prop) (v:VS) (q:P1):Prop:=
 (q.a=false∧∃ lv,v= .only lv∧∀ b ∈ lv,F b∨∃ o ∈ q.v,μ o=some b)∨(q.a=true∧∃ lv,v= .but lv∧∀ o ∈ q.v,∃ b ∈ lv,μ o=some b)
def gZ (μ:Nat→Option Nat) (F:Nat→Prop) (r:H1) (q:P1):Prop:=
 ∃ vv lw nw,r=⟨vv,.only lw,nw⟩∧bR1 μ F vv q∧(∀ b ∈ lw,¬ F b∧∃ o ∈ q.w,μ o=some b)∧cK4 μ F nw q.n q.r
theorem PC (m:Nat):∀ l:List Nat,yF m m l=true
 | []=>rfl
 |x::r=>by
  simp only[yF,PC m r,Bool.and_true,Bool.or_eq_true,Nat.blt_eq,Nat.ble_eq]
  omega
theorem PB (m:Nat):∀ l:List Nat,yF m (m+1) l=true↔m ∉ l
 | []=>by simp[yF]
 |x::r=>by
  simp only[yF,Bool.and_eq_true,PB m r,Bool.or_eq_true,Nat.blt_eq,Nat.ble_eq,List.mem_cons,not_or]
  constructor
  ·rintro ⟨h1,h2⟩;exact ⟨by omega,h2⟩
  ·rintro ⟨h1,h2⟩;exact ⟨by omega,h2⟩
theorem bR1.out {μ:Nat→Option Nat} {F:Nat→Prop} (hinj:∀ o o' b,μ o=some b→μ o'=some b→o=o') {v:VS} {q:P1} (h:bR1 μ F v q) {l w:List Nat} (hl:∀ b ∈ l,¬ F b∧∃ o ∈ w,μ o=some b) (k:q.out w=true):(VS.only l).dis v=true:=by
 rcases h with ⟨ha,lv,rfl,hv⟩|⟨ha,lv,rfl,hv⟩
 ·simp only[P1.out,ha,Bool.false_eq_true,if_false,Z4] at k
  rw[aP0,Z4]
  intro x hx hx'
  obtain ⟨n1,o,ho,e⟩:=hl x hx
  rcases hv x hx' with hF|⟨o',ho',e'⟩
  ·exact n1 hF
  ·have:=hinj o o' x e e'
   subst this
   exact k o ho ho'
 ·simp only[P1.out,ha,if_true,cH] at k
  show KC l lv=true
  rw[cH]
  intro x hx
  obtain ⟨n1,o,ho,e⟩:=hl x hx
  obtain ⟨b,hb,e'⟩:=hv o (k o ho)
  rw[e] at e'
  cases e'
  exact hb
theorem gZ.ok {μ:Nat→Option Nat} {F:Nat→Prop} (hinj:∀ o o' b,μ o=some b→μ o'=some b→o=o') {r r':H1} {q q':P1} (h:gZ μ F r q) (h':gZ μ F r' q') (k:q.ok q'=true):r.ok r'=true:=by
 obtain ⟨lv,lw,ln,rfl,a1,a2,a3⟩:=h
 obtain ⟨lv',lw',ln',rfl,b1,b2,b3⟩:=h'
 simp only[P1.ok,Bool.and_eq_true] at k
 obtain ⟨⟨k1,k2⟩,k3⟩:=k
 rw[cE6]
 simp only[Bool.and_eq_true]
 refine ⟨⟨b1.out hinj a2 k1,a1.out hinj b2 k2⟩,?_⟩
 rcases a3 with ⟨_,l,rfl,a3⟩|⟨_,⟨m,rfl⟩|⟨m,rfl,a3,a4⟩⟩
 ·have:=b1.out hinj a3 k3
  rcases b1 with ⟨_,lv,rfl,_⟩|⟨_,lv,rfl,_⟩<;>exact this
 ·rcases b1 with ⟨_,lv,rfl,_⟩|⟨_,lv,rfl,_⟩
  ·rw[aU8];exact PC m _
  ·show (Nat.beq m m||_)=true
   rw[i6.2 rfl];rfl
 ·have:=b1.out hinj (l:= [m]) (w:=q.n) (by intro b hb;simp only[List.mem_singleton] at hb;subst hb;exact ⟨a3,a4⟩) k3
  rcases b1 with ⟨_,lv,rfl,_⟩|⟨_,lv,rfl,_⟩
  ·rw[aU8,PB]
   rw[aP0,Z4] at this
   exact this m (by simp)
  ·show (Nat.beq (m+1) m||(Nat.beq (m+1) (m+1) && l7 m lv))=true
   have h2:l7 m lv=true:=by
    have:=(cH [m] lv).1 this m (by simp)
    exact (j7 _ _).2 this
   rw[h2,i6.2 rfl];simp
theorem gZ.mk3 {μ:Nat→Option Nat} {F:Nat→Prop} {lv lw ln v w n:List Nat} (h1:∀ b ∈ lv,F b∨∃ o ∈ v,μ o=some b) (h2:∀ b ∈ lw,¬ F b∧∃ o ∈ w,μ o=some b) (h3:∀ b ∈ ln,¬ F b∧∃ o ∈ n,μ o=some b):
  gZ μ F ⟨.only lv,.only lw,.fix ln⟩ ⟨v,w,n,false,false⟩:=⟨_,_,_,rfl,.inl ⟨rfl,_,rfl,h1⟩,h2,.inl ⟨rfl,_,rfl,h3⟩⟩
theorem gZ.mkr {μ:Nat→Option Nat} {F:Nat→Prop} {lv lw v w n:List Nat} {m:Nat} (h1:∀ b ∈ lv,F b∨∃ o ∈ v,μ o=some b) (h2:∀ b ∈ lw,¬ F b∧∃ o ∈ w,μ o=some b):
  gZ μ F ⟨.only lv,.only lw,.rng m m⟩ ⟨v,w,n,false,true⟩:=⟨_,_,_,rfl,.inl ⟨rfl,_,rfl,h1⟩,h2,.inr ⟨rfl,.inl ⟨_,rfl⟩⟩⟩
theorem gZ.mono {μ μ':Nat→Option Nat} {F:Nat→Prop} (h:∀ o b,μ o=some b→μ' o=some b) {r:H1} {q:P1}:gZ μ F r q→gZ μ' F r q:=by
 rintro ⟨lv,lw,ln,e,a1,a2,a3⟩
 refine ⟨lv,lw,ln,e,?_,fun b hb=>⟨(a2 b hb).1,let ⟨o,x,y⟩:=(a2 b hb).2;⟨o,x,h _ _ y⟩⟩,?_⟩
 ·rcases a1 with ⟨ha,l,e1,e2⟩|⟨ha,l,e1,e2⟩
  ·exact .inl ⟨ha,l,e1,fun b hb=>(e2 b hb).imp id fun ⟨o,x,y⟩=>⟨o,x,h _ _ y⟩⟩
  ·exact .inr ⟨ha,l,e1,fun o ho=>let ⟨b,x,y⟩:=e2 o ho;⟨b,x,h _ _ y⟩⟩
 ·rcases a3 with ⟨hr,l,e1,e2⟩|⟨hr,⟨m,e1⟩|⟨m,e1,e2,o,e3,e4⟩⟩
  ·exact .inl ⟨hr,l,e1,fun b hb=>⟨(e2 b hb).1,let ⟨o,x,y⟩:=(e2 b hb).2;⟨o,x,h _ _ y⟩⟩⟩
  ·exact .inr ⟨hr,.inl ⟨m,e1⟩⟩
  ·exact .inr ⟨hr,.inr ⟨m,e1,e2,o,e3,h _ _ e4⟩⟩
inductive M7 (μ:Nat→Option Nat) (F:Nat→Prop):List H1→List P1→Prop
 |nil:M7 μ F [] []
 |cons {r q rs qs}:gZ μ F r q→M7 μ F rs qs→M7 μ F (r::rs) (q::qs)
theorem M7.snoc {μ:Nat→Option Nat} {F:Nat→Prop} {r:H1} {q:P1} (h:gZ μ F r q):∀ {rs:List H1} {qs:List P1},M7 μ F rs qs→M7 μ F (rs++ [r]) (qs++ [q])
 |_,_,.nil=> .cons h .nil
 |_,_,.cons a b=> .cons a (M7.snoc h b)
theorem M7.get {μ:Nat→Option Nat} {F:Nat→Prop}:∀ {rs:List H1} {qs:List P1},M7 μ F rs qs→∀ {k:Nat} {q:P1},A5 qs k=some q→∃ r,A5 rs k=some r∧gZ μ F r q
 |_,_,.nil,k,q,e=>by cases k<;>cases e
 |_,_,.cons a b,0,q,e=>by cases e;exact ⟨_,rfl,a⟩
 |_,_,.cons a b,k+1,q,e=>M7.get b e
theorem M7.mono {μ μ':Nat→Option Nat} {F:Nat→Prop} (h:∀ o b,μ o=some b→μ' o=some b):∀ {rs:List H1} {qs:List P1},M7 μ F rs qs→M7 μ' F rs qs
 |_,_,.nil=> .nil
 |_,_,.cons a b=> .cons (a.mono h) (M7.mono h b)
theorem M7.all {μ:Nat→Option Nat} {F:Nat→Prop} (hinj:∀ o o' b,μ o=some b→μ o'=some b→o=o') {rs:List H1} {qs:List P1} (h:M7 μ F rs qs) {r:H1} {q:P1} (hr:gZ μ F r q):∀ {l:List Nat},jD qs q l=true→tQ rs r l=true
 | [],_=>rfl
 |k::l,e=>by
  simp only[jD,Bool.and_eq_true] at e
  obtain ⟨e1,e2⟩:=e
  split at e1
  case h_2=>cases e1
  rename_i p hp
  obtain ⟨r',a,b⟩:=h.get hp
  simp only[tQ,Bool.and_eq_true,a]
  exact ⟨gZ.ok hinj b hr e1,M7.all hinj h hr e2⟩
theorem SR.congr {C:C5} {st:l8} {h h':j9} {n p:Nat} {μ:Nat→Option Nat} {F:Nat→Prop} (hs:SR C st ⟨h,n,p⟩ μ F) (he:∀ i,d9 h' i=d9 h i):SR C st ⟨h',n,p⟩ μ F∧u5 C st ⟨h',n,p⟩ μ F=u5 C st ⟨h,n,p⟩ μ F:=by
 have hl:m9 C.E h'=m9 C.E h:=by
  funext a
  unfold m9
  split
  ·rfl
  ·rw[he]
  ·rfl
 have hw:u5 C st ⟨h',n,p⟩ μ F=u5 C st ⟨h,n,p⟩ μ F:=by
  show (⟨m9 C.E h',F,μ,st.next⟩:VW)=⟨m9 C.E h,F,μ,st.next⟩
  rw[hl]
 refine ⟨⟨fun o ob e hn=>?_,hs.wr,hs.fz,hs.inj,hs.dom,fun b hb=>?_,fun b hb=>?_,fun b hb=>?_,hs.n0,hs.own,fun b blk hb=>?_,hs.pr,hs.pb⟩,hw⟩
 ·rw[hw];simp only[he];exact hs.obj o ob e hn
 ·simp only[he];exact hs.lt b hb
 ·simp only[he];exact hs.cl b hb
 ·simp only[he];exact hs.un b hb
 ·exact hs.hb b blk (by rw[← he];exact hb)
theorem aE9 (l:List Nat) (h:j9) (i:Nat):rH (A7 l h) i=true→i ∈ l:=by
 intro hk
 induction h with
 |nil=>simp[A7,rH] at hk
 |cons p r ih=>
  obtain ⟨j,b⟩:=p
  simp only[A7] at hk
  split at hk
  ·rename_i hj
   simp only[rH] at hk
   split at hk
   ·rename_i e;rw[i6.1 e];exact (j7 _ _).1 hj
   ·exact ih hk
  ·exact ih hk
theorem oO (h:j9) (i:Nat) {b:u6} (e:d9 h i=some b):rH h i=true:=by
 induction h with
 |nil=>cases e
 |cons p r ih=>
  obtain ⟨j,u⟩:=p
  simp only[d9] at e
  simp only[rH]
  split
  ·rfl
  ·rename_i hj;rw[if_neg hj] at e;exact ih e
theorem aF2 (L:List Nat) (h:j9) (b:Nat) (blk blk':u6) (n:Nat) (hb:b ∈ L) (he:d9 h b=some blk) (i:Nat):
  d9 (iL n n (A7 L h) (M4 (A7 L h) b blk')++cP L h) i=d9 (M4 h b blk') i:=by
 have hkb:d9 (A7 L h) b=some blk:=by rw[w9,if_pos ((j7 _ _).2 hb)];exact he
 rw[Z6,dO]
 by_cases hi:i=b
 ·subst hi
  rw[if_pos (.inr (oO _ _ hkb)),Y5,hkb,Y5,he]
  rfl
 ·rw[aS blk' i b hi,aS blk' i b hi,w9]
  by_cases hL:i ∈ L
  ·rw[if_pos ((j7 _ _).2 hL),K9]
   have:l7 i L=true:=(j7 _ _).2 hL
   simp only[this]
   cases hg:d9 h i with
   |none=>simp
   |some u=>
    rw[if_pos (.inr (oO _ _ (by rw[w9,if_pos this];exact hg)))]
  ·have hf:l7 i L=false:=cQ.2 hL
   rw[if_neg (by rintro (h1|h1);omega;exact hL (aE9 _ _ _ h1)),K9,hf]
   simp
def bE0 (μ μ':Nat→Option Nat) (k n k' n':Nat):Prop:=(∀ o b,μ o=some b→μ' o=some b)∧(∀ o b,μ' o=some b→μ o=some b∨(k≤o∧n≤b))∧k≤k'∧n≤n'
theorem bE0.rfl (μ:Nat→Option Nat) (k n:Nat):bE0 μ μ k n k n:=⟨fun _ _ e=>e,fun _ _ e=> .inl e,Nat.le_refl _,Nat.le_refl _⟩
section
variable {C:C5}
theorem aJ6 {st st':l8} {s:St} {μ:Nat→Option Nat} {F:Nat→Prop} {f:D7} {fI fr0:Fr} {o:K3} {hint:Option (List Nat)} {v:V} {q:P1} {conc:List Nat} {rs:List H1}
  (hsr:SR C st s μ F) (hf:FR (u5 C st s μ F) f fI) (h:WH C.E.old f st o hint=some (v,st',q)):
  ∃ vI h' n' r μ',V2 C.E fr0 s.prot ⟨⟨none,none,o⟩,conc,hint⟩ rs fI s.heap s.next=some (vI,h',n',r)∧SR C st' ⟨h',n',s.prot⟩ μ' F∧b7 (u5 C st' ⟨h',n',s.prot⟩ μ' F) v vI∧VW.le (u5 C st s μ F) (u5 C st' ⟨h',n',s.prot⟩ μ' F)∧
   gZ μ' F r q∧bE0 μ μ' st.next s.next st'.next n':=by
 unfold WH at h
 split at h
 ·rename_i k a
  simp only[CN,Option.bind_eq_some_iff,Option.map_eq_some_iff,Prod.mk.injEq] at h
  obtain ⟨u,hu,v',hv,rfl,rfl,rfl⟩:=h
  obtain ⟨uI,a1,a2⟩:=k9 hf hu
  obtain ⟨vI,b1,b2⟩:=AU hsr.hr a2 hv
  split at b1
  case h_2=>cases b1
  rename_i ad
  have hkeep:Z7 C.E (A7 (cA (.pointer (some ad))) s.heap) ad k=Z7 C.E s.heap ad k:=by
   obtain ⟨i,j,sp⟩:=ad
   cases sp with
   |none=>cases k<;>rfl
   |some sp=>
    have e:d9 (A7 [i] s.heap) i=d9 s.heap i:=by rw[w9];simp[l7]
    cases k<;>simp only[cA,Z7,m9,F9,e]
  refine ⟨vI,s.heap,s.next,⟨.only (cA (.pointer (some ad))),.only [],.fix []⟩,μ,?_,hsr,b2,VW.le.refl _,.mk3 (fun b hb=>?_) (fun b hb=>(by cases hb)) (fun b hb=>(by cases hb)),.rfl _ _ _⟩
  ·simp only[V2,a1,Option.bind_some,a8,hkeep,b1,lW,Option.map_some,x4,BO,List.length_nil,Nat.add_zero]
  ·obtain ⟨i,j,sp⟩:=ad
   cases sp with
   |none=>simp[cA] at hb
   |some sp=>
    simp only[cA,List.mem_singleton] at hb
    subst hb
    cases u with
    |ptr o j'=>
     refine .inr ⟨o,by simp[cG6],?_⟩
     simp only[b7] at a2
     obtain ⟨_,b',e,q⟩:=a2
     cases e
     have hob:∃ ob,f8 st.own o=some ob∧ob.none=false:=by
      simp only[cL] at hv
      split at hv
      ·rename_i he;exact ⟨_,he,rfl⟩
      ·rename_i he;exact ⟨_,he,rfl⟩
      ·rename_i t e z l he
       refine ⟨_,he,?_⟩
       cases l with
       |nil=>
        exfalso
        cases k with
        |none=>simp[D0,A5] at hv
        |some n=>cases n<;>simp[D0,B4] at hv
       |cons=>rfl
      ·cases hv
     obtain ⟨ob,he,hn⟩:=hob
     obtain ⟨b,blk,m1,m2,_⟩:=hsr.obj o ob he hn
     rw[m1,q b m1]
    |dp l o=>
     simp only[b7] at a2
     obtain ⟨a',e,hi,_⟩:=a2
     obtain ⟨ab,ao,asp⟩:=a'
     simp only[y4,Value.pointer.injEq,Option.some.injEq,Addr.mk.injEq] at e
     obtain ⟨rfl,_,rfl⟩:=e
     exact .inl hi
    |sc x=>
     have hx:=a2.ok
     have:=a2.scv
     subst this
     simp[B8] at hx
    |_=>simp[cL] at hv
 ·rename_i n a x
  split at h
  case isFalse=>
   unfold kI at h
   split at h
   case h_2=>cases h
   rename_i _ _ i k ys ha hx
   split at h
   case h_2=>cases h
   rename_i t e l ho
   split at h
   case isFalse=>cases h
   rename_i hc
   simp only[Bool.and_eq_true,Nat.ble_eq] at hc
   obtain ⟨⟨hro,hlen⟩,hsc⟩:=hc
   replace hlen:=i6.1 hlen
   simp only[Option.map_eq_some_iff,Prod.mk.injEq] at h
   obtain ⟨l',hl',rfl,rfl,rfl⟩:=h
   obtain ⟨aI,a1,a2⟩:=k9 hf ha
   obtain ⟨xI,x1,x2⟩:=k9 hf hx
   simp only[b7] at a2 x2
   obtain ⟨_,b',rfl,qq⟩:=a2
   obtain ⟨vs,rfl,x3⟩:=x2
   have hall:vs.all A1=true∧vs.length=ys.length:=by
    clear hlen hl' hx x1
    induction ys generalizing vs with
    |nil=>simp only[d8] at x3;subst x3;exact ⟨rfl,rfl⟩
    |cons y r ih=>
     simp only[d8] at x3
     obtain ⟨u,us,rfl,y1,y2⟩:=x3
     cases y with
     |sc z=>
      have hz:=y1.ok
      rw[y1.scv]
      obtain ⟨i1,i2⟩:=ih hsc us y2
      exact ⟨by simp[zG z hz,i1],by simp[i2]⟩
     |sl a b c=>
      obtain ⟨i1,i2⟩:=ih hsc us y2
      simp only[b7,u7] at y1
      rcases y1 with ⟨_,_,rfl,_⟩|⟨_,_,_,rfl|⟨_,_,_,_,rfl⟩⟩
      all_goals exact ⟨by simp[A1,i1],by simp[i2]⟩
     |_=>cases hsc
   obtain ⟨b,blk,m1,m2,m3⟩:=hsr.obj i _ ho rfl
   obtain ⟨rs',r1,r2⟩:=kV hl' m3.2.2.2 x3
   have:=qq b m1
   subst this
   obtain ⟨g1,g2,g3⟩:=hsr.upd (fz:= []) (ob':= .box t e l') ho rfl hro m1 m2 rfl (by simp) rfl rfl rfl (fun w' k1 _ _=>(⟨m3.1,m3.2.1,m3.2.2.1,r2.mono k1⟩:qG w' (.box t e l') {blk with cells:=rs'}))
   rw[U3,z6] at g1 g2
   refine ⟨.tuple #[],M4 s.heap b' {blk with cells:=rs'},s.next,⟨.only [b'],.only [b'],.fix []⟩,μ,?_,g1,by simp only[b7,d8];exact ⟨[],rfl,rfl⟩,g2,.mk3 (fun b hb=> .inr ⟨i,by simp,by simp at hb;rw[hb];exact m1⟩) (fun b hb=>⟨by simp at hb;rw[hb];exact (hsr.wr i _ b' ho m1 rfl).1,i,by simp,by simp at hb;rw[hb];exact m1⟩) (fun b hb=>(by cases hb)),.rfl _ _ _⟩
   have e:d9 (A7 [b'] s.heap) b'=some blk:=by rw[w9];simp[l7,m2]
   have hast:=O4 (s:=⟨A7 [b'] s.heap,s.next,s.prot⟩) (k:=k) e g3 hall.1 r1
   simp only[V2,zV,a1,Option.bind_some,cA,o8,x1,Value.cells,hall.2,hlen,hast,Option.map_some]
   rw[if_pos (i6.2 rfl)]
   simp only[Option.bind_some]
   rw[if_pos (i6.2 rfl),Y5,e]
   rfl
  rename_i hn1
  have hn1:=i6.1 hn1
  subst hn1
  unfold ID at h
  split at h
  case h_2=>cases h
  rename_i _ _ i k y ha hx
  obtain ⟨aI,a1,a2⟩:=k9 hf ha
  obtain ⟨xI,x1,x2⟩:=k9 hf hx
  have hy:=x2.ok
  rw[x2.scv] at x1
  simp only[b7] at a2
  obtain ⟨_,b',rfl,qq⟩:=a2
  have hone:y.cells.toList= [y]:=by cases y<;>first|rfl|(simp[B8] at hy)
  have fin:∀ {ob ob':Obj} {blk:u6} {b:Nat} {cs:List Value},f8 st.own i=some ob→ob.fz=false→μ i=some b→d9 s.heap b=some blk→st.ro≤i→ob'.none=false→ob'.fz=false→ob'.ok=true→P7 blk.cells k [y]=some cs→
    (∀ w',VW.le (u5 C st s μ F) w'→qG w' ob' {blk with cells:=cs})→v= .tup []→st'=⟨A3 st.own i ob',st.next,st.ro⟩→q=⟨[i],[i],[],false,false⟩→
    ∃ vI h' n' r μ',V2 C.E fr0 s.prot ⟨⟨none,none,.store 1 a x⟩,conc,hint⟩ rs fI s.heap s.next=some (vI,h',n',r)∧SR C st' ⟨h',n',s.prot⟩ μ' F∧b7 (u5 C st' ⟨h',n',s.prot⟩ μ' F) v vI∧VW.le (u5 C st s μ F) (u5 C st' ⟨h',n',s.prot⟩ μ' F)∧gZ μ' F r q∧bE0 μ μ' st.next s.next st'.next n':=by
   intro ob ob' blk b cs e1 e2 e3 e4 e5 e6 e7 e8 e9 e10 r1 r2 r3
   subst r1 r2 r3
   have:=qq b e3
   subst this
   obtain ⟨g1,g2,g3⟩:=hsr.upd (fz:= []) e1 e2 e5 e3 e4 rfl (by simp) e6 e7 e8 (fun w' k1 _ _=>e10 w' k1)
   rw[U3,z6] at g1 g2
   refine ⟨.tuple #[],M4 s.heap b' {blk with cells:=cs},s.next,⟨.only [b'],.only [b'],.fix []⟩,μ,?_,g1,by simp only[b7,d8];exact ⟨[],rfl,rfl⟩,g2,.mk3 (fun b hb=> .inr ⟨i,by simp,by simp at hb;rw[hb];exact e3⟩) (fun b hb=>⟨by simp at hb;rw[hb];exact (hsr.wr i ob b' e1 e3 e2).1,i,by simp,by simp at hb;rw[hb];exact e3⟩) (fun b hb=>(by cases hb)),.rfl _ _ _⟩
   have e:d9 (A7 [b'] s.heap) b'=some blk:=by rw[w9];simp[l7,e4]
   have hall: [y].all A1=true:=by simp[zG y hy]
   have hast:=O4 (s:=⟨A7 [b'] s.heap,s.next,s.prot⟩) (k:=k) e g3 hall e9
   simp only[V2,zV,a1,Option.bind_some,cA,o8,x1,hone,List.length_singleton,hast,Option.map_some]
   rw[if_pos (show Nat.beq 1 1=true from rfl)]
   simp only[Option.bind_some]
   rw[if_pos (i6.2 rfl),Y5,e]
   rfl
  have hput:∀ {α:Type} (l:List α) (x:α),k<l.length→D8 l k [x]=some (l.set k x):=fun l x hk=>Z9 _ _ _ hk
  unfold oH at h
  split at h
  ·rename_i t e g l ho
   split at h
   case isFalse=>cases h
   rename_i hc
   simp only[Bool.and_eq_true,Nat.ble_eq,Nat.blt_eq] at hc
   cases h
   obtain ⟨b,blk,m1,m2,m3⟩:=hsr.obj i _ ho rfl
   obtain ⟨rs',r1,r2⟩:=S0 (hput l (D.sc y) hc.2) m3.2.2.2 (show j6 (u5 C st s μ F) [D.sc y] [y] by simp only[j6,u7];exact ⟨y,[],rfl,⟨rfl,hy⟩,rfl⟩)
   refine fin (ob':= .row t e g false (l.set k (.sc y))) ho rfl m1 m2 hc.1 rfl rfl ?_ r1 (fun w' k1=>⟨m3.1,m3.2.1,m3.2.2.1,r2.mono k1⟩) rfl rfl rfl
   exact L6 (hput l (D.sc y) hc.2) (hsr.own i _ ho).2 rfl
  ·rename_i t e l ho
   split at h
   case isFalse=>cases h
   rename_i hc
   simp only[Bool.and_eq_true,Nat.ble_eq,Nat.blt_eq] at hc
   cases h
   obtain ⟨b,blk,m1,m2,m3⟩:=hsr.obj i _ ho rfl
   obtain ⟨rs',r1,r2⟩:=kV (hput l (V.sc y) hc.2) m3.2.2.2 (show d8 (u5 C st s μ F) [V.sc y] [y] by simp only[d8,b7];exact ⟨y,[],rfl,⟨rfl,hy⟩,rfl⟩)
   exact fin (ob':= .box t e (l.set k (.sc y))) ho rfl m1 m2 hc.1 rfl rfl rfl r1 (fun w' k1=>⟨m3.1,m3.2.1,m3.2.2.1,r2.mono k1⟩) rfl rfl rfl
  ·rename_i t e l ho
   split at h
   case isFalse=>cases h
   rename_i hc
   simp only[Bool.and_eq_true,Nat.ble_eq,Nat.blt_eq] at hc
   cases h
   have hln:(Obj.gro t e false l).none=false:=by cases l with|nil=>simp at hc|cons=>rfl
   obtain ⟨b,blk,m1,m2,m3⟩:=hsr.obj i _ ho hln
   obtain ⟨rs',r1,r2⟩:=S0 (hput l (D.sc y) hc.2) m3.2.2.2 (show j6 (u5 C st s μ F) [D.sc y] [y] by simp only[j6,u7];exact ⟨y,[],rfl,⟨rfl,hy⟩,rfl⟩)
   refine fin (ob':= .gro t e false (l.set k (.sc y))) ho rfl m1 m2 hc.1 ?_ rfl ?_ r1 (fun w' k1=>⟨m3.1,m3.2.1,m3.2.2.1,r2.mono k1⟩) rfl rfl rfl
   ·cases h1:l.set k (D.sc y) with
    |nil=>have:=congrArg List.length h1;simp at this;subst this;simp at hc
    |cons=>rfl
   ·exact L6 (hput l (D.sc y) hc.2) (hsr.own i _ ho).2 rfl
  ·cases h
 ·rename_i e d x
  unfold aO6 at h
  split at h
  case h_2=>cases h
  rename_i _ _ i k n c i2 k2 m c2 hd hx
  split at h
  case h_2=>cases h
  rename_i t e' g l ho
  simp only[Option.bind_eq_some_iff] at h
  obtain ⟨cs,hcs,h⟩:=h
  split at h
  case isFalse=>cases h
  rename_i hcond
  simp only[Bool.and_eq_true,Nat.ble_eq,List.isEmpty_iff] at hcond
  obtain ⟨⟨⟨hro,hok⟩,hfz⟩,hnz⟩:=hcond
  simp only[Option.map_eq_some_iff,Prod.mk.injEq] at h
  obtain ⟨l',hl',rfl,rfl,rfl⟩:=h
  obtain ⟨dI,d1,d2⟩:=k9 hf hd
  obtain ⟨xI,x1,x2⟩:=k9 hf hx
  obtain ⟨us,u1,u2⟩:=(V1 hsr.hr x2 hcs (fun j hj=>by simp only[Q7,V9,Option.some.injEq] at hj;subst hj;exact Nat.min_le_left _ _)).plain hsr.hr hfz
  have hob2:∃ ob,f8 st.own i2=some ob:=by
   simp only[J8] at hcs
   cases hob:f8 st.own i2 with
   |none=>rw[hob] at hcs;cases hcs
   |some ob=>exact ⟨ob,rfl⟩
  obtain ⟨ob2,hob2⟩:=hob2
  have hon2:ob2.none=false:=by
   cases ob2 with
   |gro t z e0 l0=>
    cases l0 with
    |cons=>rfl
    |nil=>
     exfalso
     simp only[J8,hob2] at hcs
     split at hcs
     ·rename_i hh
      obtain ⟨h1,h2,h3⟩:=hh
      simp only[List.length_nil,Nat.le_zero,Nat.add_eq_zero_iff] at h1
      rcases Nat.mul_eq_zero.1 h1.2 with h|h
      ·exact h2 h
      ·exact h3 h
     ·cases hcs
   |_=>rfl
  obtain ⟨b,blk,m1,m2,m3⟩:=hsr.obj i _ ho rfl
  obtain ⟨b2,blk2,w1,w2,w3⟩:=hsr.obj i2 _ hob2 hon2
  have hwr2:=hsr.wr i2 ob2 b2 hob2 w1
  simp only[b7] at d2 x2
  obtain ⟨_,_,b',rfl,qd⟩:=d2
  obtain ⟨_,_,b2',rfl,qx⟩:=x2
  have:=qd b m1
  subst this
  have:=qx b2 w1
  subst this
  obtain ⟨rs,r1,r2⟩:=S0 hl' m3.2.2.2 u2
  obtain ⟨g1,g2,g3⟩:=hsr.upd (fz:= []) (ob':= .row t e' g false l') (blk':={blk with cells:=rs}) ho rfl hro m1 m2 rfl (by simp) rfl rfl (L6 hl' (hsr.own i _ ho).2 hok) (fun w' k1 _ _=>⟨m3.1,m3.2.1,m3.2.2.1,r2.mono k1⟩)
  rw[U3,z6] at g1 g2
  have hids:r5 0 (.slice (some ⟨b',k,some 0⟩) n c)++r5 0 (.slice (some ⟨b2',k2,some 0⟩) m c2)= [b',b2']:=by
   simp only[r5,n5,Nat.zero_le,if_true,Nat.ble_eq]
   rfl
  have hkb:d9 (A7 [b',b2'] s.heap) b'=some blk:=by rw[w9,if_pos (by simp[l7])];exact m2
  have hkb2:d9 (A7 [b',b2'] s.heap) b2'=d9 s.heap b2':=by
   rw[w9,if_pos]
   rw[j7]
   simp
  have hsrc:n7 C.E (A7 [b',b2'] s.heap) e (Nat.min m n) (.slice (some ⟨b2',k2,some 0⟩) m c2)=some us:=by
   rw[← u1]
   simp only[n7,F9,hkb2]
  have hast:=O4 (s:=⟨A7 [b',b2'] s.heap,s.next,s.prot⟩) (k:=k) hkb g3 u2.one r1
  have hheap:=aF2 [b',b2'] s.heap b' blk {blk with cells:=rs} s.next (by simp) m2
  obtain ⟨q1,q2⟩:=SR.congr g1 hheap
  have hz2:ob2.fz=false:=by rw[hob2] at hnz;simpa using hnz
  refine ⟨.int .i64 (Nat.min m n),_,s.next,⟨.only [b',b2'],.only [b',b2'],.rng s.next s.next⟩,μ,?_,q1,?_,?_,.mkr (fun z hz=>?_) (fun z hz=>?_),.rfl _ _ _⟩
  ·simp only[V2,d1,x1,Option.bind_some,hids,mD,a8,C2,jV]
   rw[if_pos (by rw[Nat.ble_eq];exact hsr.pr)]
   simp only[o8,d1,x1,Option.bind_some,lenA,hsrc,hast,Option.map_some]
   rw[if_pos (by rw[Nat.ble_eq];exact Nat.le_refl _)]
  ·exact .mksc rfl
  ·rw[q2];exact g2
  ·simp only[List.mem_cons,List.not_mem_nil,or_false] at hz
   rcases hz with rfl|rfl
   ·exact .inr ⟨i,by simp,m1⟩
   ·exact .inr ⟨i2,by simp,w1⟩
  ·simp only[List.mem_cons,List.not_mem_nil,or_false] at hz
   rcases hz with rfl|rfl
   ·exact ⟨(hsr.wr i _ z ho m1 rfl).1,i,by simp,m1⟩
   ·exact ⟨(hwr2 hz2).1,i2,by simp,w1⟩
 ·rename_i hnl hns hcp
  split at h
  case isFalse=>cases h
  rename_i hc
  rw[Bool.and_eq_true] at hc
  obtain ⟨hc1,hc2⟩:=hc
  have hh:hint=none:=by cases hint with|none=>rfl|some _=>cases hc1
  subst hh
  have hls:cL1 o=false:=by cases o<;>first|rfl|cases hc2
  have hst:V2 C.E fr0 s.prot ⟨⟨none,none,o⟩,conc,none⟩ rs fI s.heap s.next=lW (.only []) s.heap s.next (a8 C.E fI ⟨s.heap,s.next,s.next⟩ o):=by
   rw[← aF9 (h:=s.heap) hc2]
   cases o<;>first|rfl|cases hls
  rw[hst]
  have go:∀ {v2:V} {ob:Option Obj},f6 C.E.old f st.own st.next o=some (v2,ob,[])→∃ vI bs,a8 C.E fI ⟨s.heap,s.next,s.next⟩ o=some (vI,bs)∧hY s.heap (u5 C st s μ F) s.next v2 ob [] vI bs:=fun e=>sF (n:=s.next) (p:=s.next) hsr.hr hf e
  unfold MF at h
  split at h
  ·rename_i v2 e
   simp only[Option.some.injEq,Prod.mk.injEq] at h
   obtain ⟨rfl,rfl,rfl⟩:=h
   obtain ⟨vI,bs,e1,e2⟩:=go e
   obtain ⟨rfl,_,e4⟩:=e2
   exact ⟨vI,s.heap,s.next,⟨.only [],.only [],.fix []⟩,μ,by simp[e1,lW,x4,BO],hsr,e4,VW.le.refl _,.mk3 (fun b hb=>(by cases hb)) (fun b hb=>(by cases hb)) (fun b hb=>(by cases hb)),.rfl _ _ _⟩
  ·rename_i v2 ob e
   simp only[Option.some.injEq,Prod.mk.injEq] at h
   obtain ⟨rfl,rfl,rfl⟩:=h
   obtain ⟨vI,bs,e1,e2⟩:=go e
   obtain ⟨q1,q2,q3,q4⟩:=hsr.push e2 rfl
   rw[U3] at q1 q2 q3
   obtain ⟨_,_,_,blk,rfl,_⟩:=e2
   have hp:st.push (some ob) []=⟨(st.next,ob)::st.own,st.next+1,st.ro⟩:=by simp[l8.push,z6]
   rw[hp] at q1 q2 q3
   refine ⟨vI,x4 s.heap s.next [blk],s.next+1,⟨.only [],.only [],.fix [s.next]⟩,_,by simp[e1,lW,BO],q1,q2,q3,.mk3 (fun b hb=>(by cases hb)) (fun b hb=>(by cases hb)) (fun b hb=>?_),fun o' b e'=>?_,fun o' b e'=>?_,Nat.le_succ _,Nat.le_succ _⟩
   ·simp only[List.mem_singleton] at hb
    subst hb
    exact ⟨fun hF=>Nat.lt_irrefl _ (hsr.lt _ hF).1,st.next,by simp,by simp[UT]⟩
   ·have:=(hsr.dom o' b e').2.1
    simp only[UT]
    rw[if_neg (by omega)]
    exact e'
   ·simp only[UT] at e'
    split at e'
    ·cases e';exact .inr ⟨by omega,Nat.le_refl _⟩
    ·exact .inl e'
  ·cases h
theorem bU (L:List Nat) (b:Nat) (hb:b ∈ L):∀ h:j9,d9 (G5 (A7 L h) b) b=d9 (G5 h b) b
 | []=>rfl
 |(j,u)::r=>by
  simp only[A7,G5]
  by_cases hj:Nat.beq b j=true
  ·have:=i6.1 hj
   subst this
   rw[if_pos ((j7 _ _).2 hb)]
   simp only[G5,if_pos hj]
   rw[w9,if_pos ((j7 _ _).2 hb)]
  ·rw[if_neg hj]
   simp only[d9]
   rw[if_neg hj]
   split
   ·simp only[G5,if_neg hj,d9]
    exact bU L b hb r
   ·exact bU L b hb r
theorem UJ (L:List Nat) (h:j9) (b n p:Nat) (blk':u6) (hb:b ∈ L) (i:Nat):
  d9 (iL n (n+1) (A7 L h) (St.push ⟨G5 (A7 L h) b,n,p⟩ [blk']).heap++cP L h) i=d9 (St.push ⟨G5 h b,n,p⟩ [blk']).heap i:=by
 simp only[St.push]
 rw[Z6,dO,w8,w8]
 by_cases hi:n≤i∧i<n+1
 ·have hi':n≤i∧i<n+ [blk'].length:=hi
  rw[if_pos (.inl hi),if_pos hi',if_pos hi']
  have:i - n=0:=by omega
  rw[this];rfl
 ·have hi':¬ (n≤i∧i<n+ [blk'].length):=hi
  rw[if_neg hi',if_neg hi']
  by_cases hib:i=b
  ·subst hib
   rw[bU L i hb,K9,if_pos ((j7 _ _).2 hb)]
   split<;>rename_i hh
   ·split at hh
    ·rw[hh]
    ·cases hh
   ·split at hh
    ·rw[hh]
    ·rename_i hk
     cases hg:d9 (G5 h i) i with
     |none=>rfl
     |some u=>
      exfalso
      obtain ⟨c,hc⟩:=bV h i i u hg
      exact hk (.inr (oO _ _ (by rw[w9,if_pos ((j7 _ _).2 hb)];exact hc)))
  ·rw[G6 _ _ _ hib,G6 _ _ _ hib,w9,K9]
   by_cases hL:i ∈ L
   ·rw[if_pos ((j7 _ _).2 hL),if_pos ((j7 _ _).2 hL)]
    cases hg:d9 h i with
    |none=>simp
    |some u=>rw[if_pos (.inr (oO _ _ (by rw[w9,if_pos ((j7 _ _).2 hL)];exact hg)))]
   ·have hf:l7 i L=false:=cQ.2 hL
    simp only[hf,Bool.false_eq_true,if_false]
    simp
def bE4 (C:C5) (st st':l8) (s:St) (h':j9) (n':Nat) (μ μ':Nat→Option Nat) (F:Nat→Prop) (v:V) (vI:Value) (r:H1) (q:P1):Prop:=
 SR C st' ⟨h',n',s.prot⟩ μ' F∧b7 (u5 C st' ⟨h',n',s.prot⟩ μ' F) v vI∧VW.le (u5 C st s μ F) (u5 C st' ⟨h',n',s.prot⟩ μ' F)∧(∀ ν:Nat→Option Nat,(∀ o b,μ o=some b→ν o=some b)→(∀ o b,μ' o=some b→ν o=some b)→gZ ν F r q)∧
  (∀ o b,μ' o=some b→μ o=some b∨(st.next≤o∧s.next≤b))∧st.next≤st'.next∧s.next≤n'
theorem bF6 {st st':l8} {s:St} {μ:Nat→Option Nat} {F:Nat→Prop} {f:D7} {fI fr0:Fr} {t e b:Nat} {x y:Operand} {hint:Option (List Nat)} {v:V} {q:P1} {conc:List Nat} {rs:List H1}
  (hsr:SR C st s μ F) (hf:FR (u5 C st s μ F) f fI) (h:bS2 st t e b (o9 f x) (o9 f y)=some (v,st',q)):
  ∃ vI h' n' r μ',V2 C.E fr0 s.prot ⟨⟨none,none,.app t e b x y⟩,conc,hint⟩ rs fI s.heap s.next=some (vI,h',n',r)∧bE4 C st st' s h' n' μ μ' F v vI r q:=by
 unfold bS2 at h
 split at h
 case h_2=>cases h
 rename_i _ _ s' o n o2 k2 m c2 hx hy
 split at h
 case h_2=>cases h
 rename_i _ _ t' e' l t2 e2 g2 l2 ho ho2
 split at h
 case isFalse=>cases h
 rename_i hc
 simp only[Bool.and_eq_true,Bool.not_eq_true',SW,Nat.ble_eq] at hc
 obtain ⟨⟨⟨⟨⟨⟨⟨⟨⟨⟨hro,hn0⟩,hm0⟩,he0⟩,ht⟩,he⟩,hl⟩,hr1⟩,hr2⟩,hk2⟩,hok⟩:=hc
 have ht:=i6.1 ht
 have he:=i6.1 he
 have hl:=i6.1 hl
 subst ht he
 simp only[Option.some.injEq,Prod.mk.injEq] at h
 obtain ⟨rfl,rfl,rfl⟩:=h
 obtain ⟨xI,x1,x2⟩:=k9 hf hx
 obtain ⟨yI,y1,y2⟩:=k9 hf hy
 have hcs:J8 st.own e' m (.ref o2 k2 m c2)=some ((l2.drop k2).take (m*e'),[]):=by
  simp only[J8,ho2]
  rw[if_pos hk2]
 have hlen:=oV y2 (show Q7 (.ref o2 k2 m c2)=some m from rfl)
 obtain ⟨us,u1,u2⟩:=(V1 hsr.hr y2 hcs (fun j hj=>by simp only[Q7,V9,Option.some.injEq] at hj;subst hj;exact Nat.le_refl _)).plain hsr.hr rfl
 have hln:l ≠ []:=fun e0=>by
  rw[e0] at hl
  have:=Nat.mul_pos (Nat.pos_of_ne_zero hn0) (Nat.pos_of_ne_zero he0)
  simp at hl;omega
 obtain ⟨b0,blk,m1,m2,m3⟩:=hsr.obj o _ ho (N5 hln)
 obtain ⟨b2,blk2,w1,w2,w3⟩:=hsr.obj o2 _ ho2 rfl
 have hcl:=m3.2.2.2.length
 simp only[b7] at x2 y2
 obtain ⟨_,⟨hn,_⟩|⟨_,b',rfl,qx⟩⟩:=x2
 ·exact absurd hn hn0
 obtain ⟨_,_,b2',rfl,qy⟩:=y2
 have:=qx b0 m1
 subst this
 have:=qy b2 w1
 subst this
 obtain ⟨d1,d2,d3⟩:=hsr.del ho rfl hro m1
 have hokl:T6 (l++(l2.drop k2).take (m*e'))=true:=by
  have:=(hsr.own o _ ho).2
  simp only[Obj.ok] at this
  simp only[T6,List.all_append,Bool.and_eq_true];exact ⟨this,hok⟩
 have hne:l++(l2.drop k2).take (m*e') ≠ []:=by simp[hln]
 have hP:hY (G5 s.heap b') (u5 C ⟨H9 o st.own,st.next,st.ro⟩ {s with heap:=G5 s.heap b'} (fun i=>if i=o then none else μ i) F) s.next (.gr 2 st.next (n+m)) (some (.gro t' e' false (l++(l2.drop k2).take (m*e')))) [] (.slice (some ⟨s.next,0,some 0⟩) (n+m) (v6+(n+m))) [⟨blk.cells++us,e',true,t'⟩]:=
  ⟨N5 hne,rfl,hokl,_,rfl,fun w' k1 _ _ k4 k5=>⟨.gr_new k4 k5 (n+m) (by omega),rfl,rfl,rfl,(m3.2.2.2.mono (d2.trans k1)).append (u2.mono (d2.trans k1))⟩⟩
 obtain ⟨p1,p2,p3,p4⟩:=d1.push hP rfl
 rw[U3] at p1 p2 p3
 simp only[l8.push,z6] at p1 p2 p3
 have hids:r5 0 (.slice (some ⟨b',0,some 0⟩) n (v6+n))++r5 0 (.slice (some ⟨b2',k2,some 0⟩) m c2)= [b',b2']:=by
  simp only[r5,n5,Nat.zero_le,if_true,Nat.ble_eq]
  rfl
 have hkb:d9 (A7 [b',b2'] s.heap) b'=some blk:=by rw[w9,if_pos (by simp[l7])];exact m2
 have hkb2:d9 (A7 [b',b2'] s.heap) b2'=d9 s.heap b2':=by
  rw[w9,if_pos]
  rw[j7]
  simp
 have hsrc:n7 C.E (A7 [b',b2'] s.heap) e' m (.slice (some ⟨b2',k2,some 0⟩) m c2)=some us:=by
  rw[← u1]
  simp only[n7,F9,hkb2]
 have hone:us.all A1=true:=u2.one
 have hnb:Nat.blt (v6+n) v6=false:=by rw[← Bool.not_eq_true,Nat.blt_eq];omega
 have h0:¬ Nat.beq m 0=true:=by rw[i6];exact hm0
 have hheap:=UJ [b',b2'] s.heap b' s.next s.next ⟨blk.cells++us,e',true,t'⟩ (by simp)
 have p1':SR C _ ⟨(St.push ⟨G5 s.heap b',s.next,s.next⟩ [⟨blk.cells++us,e',true,t'⟩]).heap,s.next+1,s.prot⟩ _ F:=p1
 obtain ⟨q1,q2⟩:=SR.congr p1' hheap
 have hnF:∀ z,μ o2=some z→¬ F z:=fun z hz=>(hsr.wr o2 _ z ho2 hz rfl).1
 have hnF1:∀ z,μ o=some z→¬ F z:=fun z hz=>(hsr.wr o _ z ho hz rfl).1
 refine ⟨.slice (some ⟨s.next,0,some 0⟩) (n+m) (v6+(n+m)),_,s.next+1,⟨.only [b',b2'],.only [b',b2'],.rng s.next (s.next+1)⟩,_,?_,q1,?_,?_,fun ν k1 k2=>?_,fun i z e'=>?_,Nat.le_succ _,Nat.le_succ _⟩
 ·simp only[V2,x1,y1,Option.bind_some,hids,mD,a8,C2,jV]
  rw[show Z2 C.E ⟨A7 [b',b2'] s.heap,s.next,s.next⟩ t' e' b (.slice (some ⟨b',0,some 0⟩) n (v6+n)) (.slice (some ⟨b2',k2,some 0⟩) m c2)=none by
   simp only[Z2,hlen,Option.bind_some]
   rw[if_neg h0,if_neg (by simp[hnb])]]
  simp only
  rw[if_pos (by rw[Nat.ble_eq];exact hsr.pr)]
  simp only[o8,x1,y1,Option.bind_some]
  have:iC C.E ⟨A7 [b',b2'] s.heap,s.next,s.prot⟩ t' e' b (.slice (some ⟨b',0,some 0⟩) n (v6+n)) (.slice (some ⟨b2',k2,some 0⟩) m c2)=some (.slice (some ⟨s.next,0,some 0⟩) (n+m) (v6+(n+m)),St.push ⟨G5 (A7 [b',b2'] s.heap) b',s.next,s.prot⟩ [⟨blk.cells++us,e',true,t'⟩]):=by
   simp only[iC,hlen,Option.bind_some]
   rw[if_neg h0,if_pos (by simp only[Bool.and_eq_true,Nat.ble_eq];exact ⟨hr1,hr2⟩),hsrc]
   simp only[Option.bind_some]
   rw[if_pos hone,if_neg (by rw[hnb];simp),if_pos (by rw[Nat.ble_eq];exact d3),hkb]
   simp only[Option.bind_some]
   rw[if_pos (by simp only[Bool.and_eq_true];rw[m3.1,m3.2.1,m3.2.2.1,hcl,hl];refine ⟨⟨⟨⟨rfl,i6.2 rfl⟩,i6.2 rfl⟩,i6.2 (by omega)⟩,i6.2 rfl⟩)]
   rfl
  rw[this]
  simp only[Option.bind_some]
  rw[if_pos (by rw[Nat.ble_eq];exact Nat.le_succ _)]
  rfl
 ·rw[q2];exact p2
 ·rw[q2];exact d2.trans p3
 ·refine ⟨_,_,_,rfl,.inl ⟨rfl,_,rfl,fun z hz=>?_⟩,fun z hz=>?_,.inr ⟨rfl,.inr ⟨_,rfl,fun hF=>Nat.lt_irrefl _ (hsr.lt _ hF).1,st.next,by simp,k2 _ _ (by simp[UT])⟩⟩⟩
  ·simp only[List.mem_cons,List.not_mem_nil,or_false] at hz
   rcases hz with rfl|rfl
   ·exact .inr ⟨o,by simp,k1 _ _ m1⟩
   ·exact .inr ⟨o2,by simp,k1 _ _ w1⟩
  ·simp only[List.mem_cons,List.not_mem_nil,or_false] at hz
   rcases hz with rfl|rfl
   ·exact ⟨hnF1 _ m1,o,by simp,k1 _ _ m1⟩
   ·exact ⟨hnF _ w1,o2,by simp,k1 _ _ w1⟩
 ·simp only[UT] at e'
  split at e'
  ·cases e';exact .inr ⟨by omega,Nat.le_refl _⟩
  ·split at e'
   ·cases e'
   ·exact .inl e'
theorem MB {st st':l8} {s:St} {μ:Nat→Option Nat} {F:Nat→Prop} {f:D7} {fI fr0:Fr} {t e b:Nat} {x y:Operand} {hint:Option (List Nat)} {v:V} {q:P1} {conc:List Nat} {rs:List H1}
  (hsr:SR C st s μ F) (hf:FR (u5 C st s μ F) f fI) {u:V} (hx:o9 f x=some u) (hu:∀ (w:VW) (xI:Value),b7 w u xI→xI= .slice none 0 0) (h:XD st t e b (o9 f y)=some (v,st',q)):
  ∃ vI h' n' r μ',V2 C.E fr0 s.prot ⟨⟨none,none,.app t e b x y⟩,conc,hint⟩ rs fI s.heap s.next=some (vI,h',n',r)∧bE4 C st st' s h' n' μ μ' F v vI r q:=by
 unfold XD at h
 split at h
 case h_2=>cases h
 rename_i _ o2 k2 m c2 hy
 split at h
 case h_2=>cases h
 rename_i _ t2 e2 g2 l2 ho2
 split at h
 case isFalse=>cases h
 rename_i hc
 simp only[Bool.and_eq_true,Bool.not_eq_true',SW,Nat.ble_eq] at hc
 obtain ⟨⟨⟨⟨⟨hm0,he0⟩,hr1⟩,hr2⟩,hk2⟩,hok⟩:=hc
 simp only[Option.some.injEq,Prod.mk.injEq] at h
 obtain ⟨rfl,rfl,rfl⟩:=h
 obtain ⟨xI,x1,x2⟩:=k9 hf hx
 obtain ⟨yI,y1,y2⟩:=k9 hf hy
 have hxI:=hu _ _ x2
 subst hxI
 have hcs:J8 st.own e m (.ref o2 k2 m c2)=some ((l2.drop k2).take (m*e),[]):=by
  simp only[J8,ho2]
  rw[if_pos hk2]
 have hlen:=oV y2 (show Q7 (.ref o2 k2 m c2)=some m from rfl)
 obtain ⟨us,u1,u2⟩:=(V1 hsr.hr y2 hcs (fun j hj=>by simp only[Q7,V9,Option.some.injEq] at hj;subst hj;exact Nat.le_refl _)).plain hsr.hr rfl
 obtain ⟨b2,blk2,w1,w2,w3⟩:=hsr.obj o2 _ ho2 rfl
 simp only[b7] at y2
 obtain ⟨_,_,b2',rfl,qy⟩:=y2
 have:=qy b2 w1
 subst this
 have hne:(l2.drop k2).take (m*e) ≠ []:=fun e0=>by
  have h1:=congrArg List.length e0
  have:=Nat.mul_pos (Nat.pos_of_ne_zero hm0) (Nat.pos_of_ne_zero he0)
  simp at h1
  omega
 have hP:hY s.heap (u5 C st s μ F) s.next (.gr 2 st.next m) (some (.gro t e false ((l2.drop k2).take (m*e)))) [] (.slice (some ⟨s.next,0,some 0⟩) m (v6+m)) [⟨us,e,true,t⟩]:=
  ⟨N5 hne,rfl,hok,_,rfl,fun w' k1 _ _ k4 k5=>⟨.gr_new k4 k5 m hm0,rfl,rfl,rfl,u2.mono k1⟩⟩
 obtain ⟨p1,p2,p3,p4⟩:=hsr.push hP rfl
 rw[U3] at p1 p2 p3
 simp only[l8.push,z6] at p1 p2 p3
 have hids:r5 0 (.slice none 0 0)++r5 0 (.slice (some ⟨b2',k2,some 0⟩) m c2)= [b2']:=by
  simp only[r5,n5,Nat.zero_le,if_true,Nat.ble_eq]
  rfl
 have hkb2:d9 (A7 [b2'] s.heap) b2'=d9 s.heap b2':=by
  rw[w9,if_pos]
  rw[j7]
  simp
 have hsrc:n7 C.E (A7 [b2'] s.heap) e m (.slice (some ⟨b2',k2,some 0⟩) m c2)=some us:=by
  rw[← u1]
  simp only[n7,F9,hkb2]
 have h0:¬ Nat.beq m 0=true:=by rw[i6];exact hm0
 refine ⟨.slice (some ⟨s.next,0,some 0⟩) m (v6+m),_,s.next+1,⟨.only [b2'],.only [],.fix [s.next]⟩,_,?_,p1,p2,p3,fun ν k1 k2=>⟨_,_,_,rfl,.inl ⟨rfl,_,rfl,fun z hz=>?_⟩,fun z hz=>(by cases hz),.inl ⟨rfl,_,rfl,fun z hz=>?_⟩⟩,fun i z e'=>?_,Nat.le_succ _,Nat.le_succ _⟩
 ·simp only[V2,x1,y1,Option.bind_some,hids,mD,a8,C2]
  have:Z2 C.E ⟨A7 [b2'] s.heap,s.next,s.next⟩ t e b (.slice none 0 0) (.slice (some ⟨b2',k2,some 0⟩) m c2)=some (.slice (some ⟨s.next,0,some 0⟩) m (v6+m),[⟨us,e,true,t⟩]):=by
   simp only[Z2,hlen,Option.bind_some]
   rw[if_neg h0,if_pos (by simp only[Bool.and_eq_true,Nat.ble_eq,Nat.blt_eq,Nat.zero_add];exact ⟨⟨⟨hr1,hr2⟩,by unfold v6;omega⟩,by omega⟩),hsrc]
   simp only[Option.bind_some,n7,Nat.zero_add]
   rfl
  rw[this]
  rfl
 ·simp only[List.mem_singleton] at hz
  subst hz
  exact .inr ⟨o2,by simp,k1 _ _ w1⟩
 ·simp only[List.mem_singleton] at hz
  subst hz
  exact ⟨fun hF=>Nat.lt_irrefl _ (hsr.lt _ hF).1,st.next,by simp,k2 _ _ (by simp[UT])⟩
 ·simp only[UT] at e'
  split at e'
  ·cases e';exact .inr ⟨by omega,Nat.le_refl _⟩
  ·exact .inl e'
theorem aO5 {st st':l8} {s:St} {μ:Nat→Option Nat} {F:Nat→Prop} {f:D7} {fI fr0:Fr} {t e b:Nat} {x y:Operand} {hint:Option (List Nat)} {v:V} {q:P1} {conc:List Nat} {rs:List H1}
  (hsr:SR C st s μ F) (hf:FR (u5 C st s μ F) f fI) (h:aO4 st t e b (o9 f x) (o9 f y)=some (v,st',q)):
  ∃ vI h' n' r μ',V2 C.E fr0 s.prot ⟨⟨none,none,.app t e b x y⟩,conc,hint⟩ rs fI s.heap s.next=some (vI,h',n',r)∧bE4 C st st' s h' n' μ μ' F v vI r q:=by
 unfold aO4 at h
 split at h
 ·rename_i hx
  exact MB hsr hf hx (fun w xI h=>h.scv) h
 ·rename_i hx
  refine MB hsr hf hx (fun w xI h=>?_) h
  simp only[b7] at h
  obtain ⟨_,⟨_,h|⟨h,_⟩⟩|⟨h,_⟩⟩:=h
  ·exact h
  ·exact absurd rfl h
  ·exact absurd rfl h
 ·exact bF6 hsr hf h
theorem DH {μ:Nat→Option Nat} {F:Nat→Prop} {rs:List H1} {qs:List P1} (h:M7 μ F rs qs):∀ conc,IN qs conc=true→JG rs conc= []
 | [],_=>rfl
 |k::r,hk=>by
  simp only[IN,Bool.and_eq_true] at hk
  obtain ⟨h1,h2⟩:=hk
  cases hq:A5 qs k with
  |none=>rw[hq] at h1;cases h1
  |some q=>
   rw[hq] at h1
   simp only[Bool.and_eq_true,List.isEmpty_iff,Bool.not_eq_true'] at h1
   obtain ⟨w,e1,vv,lw,nw,rfl,_,_,e4⟩:=h.get hq
   rcases e4 with ⟨_,ln,rfl,e5⟩|⟨e5,_⟩
   ·have:ln= []:=by
     cases ln with
     |nil=>rfl
     |cons b r=>
      obtain ⟨_,o,ho,_⟩:=e5 b (by simp)
      rw[h1.1] at ho
      cases ho
    subst this
    simp only[JG,e1,List.nil_append,DH h r h2]
   ·rw[h1.2] at e5;cases e5
theorem bZ0 {st:l8} {s:St} {μ ν:Nat→Option Nat} {F:Nat→Prop} {f:D7} {fI fr0:Fr} {o:K3} {hint:Option (List Nat)} {conc:List Nat} {rs:List H1} {qs:List P1} {Q:V→l8→P1→Prop}
  (hsr:SR C st s μ F) (hf:FR (u5 C st s μ F) f fI) (hrs:M7 ν F rs qs) (h:wpS C o hint conc qs f st Q):
  ∃ v st' q vI h' n' r μ',V2 C.E fr0 s.prot ⟨⟨none,none,o⟩,conc,hint⟩ rs fI s.heap s.next=some (vI,h',n',r)∧bE4 C st st' s h' n' μ μ' F v vI r q∧Q v st' q:=by
 unfold wpS at h
 split at h
 ·rename_i g xs
  obtain ⟨rfl,hfr,args,v,hargs,hsp,hq⟩:=h
  obtain ⟨xsI,a1,a2⟩:=aY hf hargs
  obtain ⟨vI,e1,e2⟩:=hsp ⟨s.heap,s.next,s.next⟩ μ F xsI C.w0 (hsr.enter C.w0) a2
  refine ⟨v,st,_,vI,s.heap,s.next,⟨.but [],.only [],.fix []⟩,μ,?_,⟨hsr,e2 _,VW.le.refl _,fun ν' _ _=>⟨_,_,_,rfl,.inr ⟨rfl,_,rfl,fun z hz=>(by cases hz)⟩,fun z hz=>(by cases hz),.inl ⟨rfl,_,rfl,fun z hz=>(by cases hz)⟩⟩,fun _ _ e=> .inl e,Nat.le_refl _,Nat.le_refl _⟩,hq⟩
  have hnid:=DH hrs conc hfr
  simp only[V2,IS,hnid,List.nil_append,mD,C2,qS,a8,a1,Option.bind_some]
  rw[show C.E.pcall g xsI ⟨s.heap,s.next,s.next⟩=some (vI,[]) from e1]
  rfl
 ·rename_i hno
  split at h
  case h_2=>exact h.elim
  rename_i v st' q hv
  unfold V4 at hv
  split at hv
  ·obtain ⟨vI,h',n',r,μ',k1,k2⟩:=aO5 (fr0:=fr0) (hint:=hint) (conc:=conc) (rs:=rs) hsr hf hv
   exact ⟨v,st',q,vI,h',n',r,μ',k1,k2,h⟩
  ·obtain ⟨vI,h',n',r,μ',k1,k2,k3,k4,k5,k6⟩:=aJ6 (fr0:=fr0) (conc:=conc) (rs:=rs) hsr hf hv
   exact ⟨v,st',q,vI,h',n',r,μ',k1,⟨k2,k3,k4,fun ν' _ j2=>k5.mono j2,k6.2.1,k6.2.2.1,k6.2.2.2⟩,h⟩
theorem WM (fr0:Fr) (p0:Nat) {F:Nat→Prop}:∀ (l:List sL) {qs:List P1} {rs:List H1} {fr:D7} {st:l8} {Q:D7→l8→Prop} {μ ν:Nat→Option Nat} {frI:Fr} {h:j9} {n:Nat},wpD C l qs fr st Q→
  SR C st ⟨h,n,p0⟩ μ F→FR (u5 C st ⟨h,n,p0⟩ μ F) fr frI→VW.le C.w0 (u5 C st ⟨h,n,p0⟩ μ F)→p0=C.p0→(∀ b,F b→C.w0.F b∨C.p0≤b)→M7 ν F rs qs→
  (∀ o b,μ o=some b→ν o=some b)→(∀ o o' b,ν o=some b→ν o'=some b→o=o')→(∀ o b,ν o=some b→o<st.next∧b<n)→
  ∃ frI' h' n' fr' st',uD C.E fr0 p0 l rs frI h n=some (frI',h',n')∧Rl C st' fr' ⟨h',n',p0⟩ frI'∧Q fr' st'
 | [],qs,rs,fr,st,Q,μ,ν,frI,h,n,hw,h1,h2,h3,h4,h5,h6,_,_,_=>⟨frI,h,n,fr,st,rfl,⟨μ,F,h1,h2,h3,h4,h5⟩,hw⟩
 |⟨⟨d,g,op⟩,conc,hint⟩::l,qs,rs,fr,st,Q,μ,ν,frI,h,n,hw,h1,h2,h3,h4,h5,h6,n1,n2,n3=>by
  have hrl:Rl C st fr ⟨h,n,p0⟩ frI:=⟨μ,F,h1,h2,h3,h4,h5⟩
  have run:(wpS C op hint conc qs (C9 (p9 ⟨d,g,op⟩) fr) st fun v st' r=>jD qs r conc=true∧wpD C l (qs++ [r]) (u9 fr d v) st' Q)→wanted (r7 (p9 ⟨d,g,op⟩) frI) g=some true→
    ∃ frI' h' n' fr' st',uD C.E fr0 p0 (⟨⟨d,g,op⟩,conc,hint⟩::l) rs frI h n=some (frI',h',n')∧Rl C st' fr' ⟨h',n',p0⟩ frI'∧Q fr' st':=by
   intro hq hwt
   obtain ⟨v,st',r,vI,h',n',r',μ',e1,⟨q1,q2,q3,q4,q5,q6,q7⟩,hq1,hq2⟩:=bZ0 (fr0:=fr0) h1 (h2.keep (p9 ⟨d,g,op⟩)) h6 hq
   let ν':Nat→Option Nat:=fun o=>match μ' o with|some b=>some b|none=>ν o
   have hq7:n≤n':=q7
   have m1:∀ o b,μ' o=some b→ν' o=some b:=fun o b e=>by simp only[ν',e]
   have m2:∀ o b,ν o=some b→ν' o=some b:=fun o b e=>by
    cases hm:μ' o with
    |none=>simp only[ν',hm];exact e
    |some b'=>
     simp only[ν',hm]
     rcases q5 o b' hm with e'|⟨e',_⟩
     ·rw[n1 o b' e'] at e;exact e
     ·have:=(n3 o b e).1;omega
   have m3:∀ o b,ν' o=some b→μ' o=some b∨(μ' o=none∧ν o=some b):=fun o b e=>by
    cases hm:μ' o with
    |none=>simp only[ν',hm] at e;exact .inr ⟨rfl,e⟩
    |some b'=>simp only[ν',hm] at e;exact .inl e
   have key:∀ o o' b,μ' o=some b→ν o'=some b→o=o':=fun o o' b e e'=>by
    rcases q5 o b e with k|⟨_,k⟩
    ·exact n2 o o' b (n1 o b k) e'
    ·have:=(n3 o' b e').2;exact absurd k (by show ¬ n≤b;omega)
   have m4:∀ o o' b,ν' o=some b→ν' o'=some b→o=o':=fun o o' b e e'=>by
    rcases m3 o b e with a|⟨_,a⟩<;>rcases m3 o' b e' with a'|⟨_,a'⟩
    ·exact q1.inj o o' b a a'
    ·exact key o o' b a a'
    ·exact (key o' o b a' a).symm
    ·exact n2 o o' b a a'
   have m5:∀ o b,ν' o=some b→o<st'.next∧b<n':=fun o b e=>by
    rcases m3 o b e with a|⟨_,a⟩
    ·obtain ⟨d1,d2,_⟩:=q1.dom o b a
     exact ⟨by omega,by omega⟩
    ·have:=n3 o b a;omega
   have hr':=q4 ν' (fun o b e=>m2 o b (n1 o b e)) m1
   have h6':=M7.mono (F:=F) m2 h6
   have hok:=M7.all m4 h6' hr' hq1
   obtain ⟨frI',h'',n'',fr',st'',k1,k2,k3⟩:=WM fr0 p0 l (rs:=rs++ [r']) (frI:=H5 frI d vI) hq2 q1 ((h2.mono q3).put q2 d) (h3.trans q3) h4 h5 (M7.snoc hr' h6') m1 m4 m5
   refine ⟨frI',h'',n'',fr',st'',?_,k2,k3⟩
   simp only[uD,hwt,Option.bind_some]
   rw[aI6,e1]
   simp only[Option.bind_some]
   rw[if_pos hok]
   exact k1
  have skip:wpD C l (qs++ [⟨[],[],[],false,false⟩]) (u9 fr d (.tup [])) st Q→wanted (r7 (p9 ⟨d,g,op⟩) frI) g=some false→
    ∃ frI' h' n' fr' st',uD C.E fr0 p0 (⟨⟨d,g,op⟩,conc,hint⟩::l) rs frI h n=some (frI',h',n')∧Rl C st' fr' ⟨h',n',p0⟩ frI'∧Q fr' st':=by
   intro hq hwt
   obtain ⟨frI',h'',n'',fr',st'',k1,k2,k3⟩:=WM fr0 p0 l (rs:=rs++ [⟨.only [],.only [],.fix []⟩]) (frI:=H5 frI d (.tuple #[])) hq h1 (h2.put (by simp only[b7,d8];exact ⟨[],rfl,rfl⟩) d) h3 h4 h5 (M7.snoc (.mk3 (fun b hb=>(by cases hb)) (fun b hb=>(by cases hb)) (fun b hb=>(by cases hb))) h6) n1 n2 n3
   refine ⟨frI',h'',n'',fr',st'',?_,k2,k3⟩
   simp only[uD,hwt,Option.bind_some]
   exact k1
  simp only[wpD] at hw
  split at hw
  ·exact run hw rfl
  ·rename_i _ t want
   have ht:t ∈ p9 ⟨d,some (t,want),op⟩:=by simp[p9]
   split at hw
   ·rename_i b hb
    have hb':=(dN hrl hb).1 b rfl
    split at hw
    ·rename_i hbw
     exact run hw (by simp only[wanted];rw[I3 _ _ _ ht,hb'];simp[hbw])
    ·rename_i hbw
     have hbw':(b==want)=false:=by simpa using hbw
     exact skip hw (by simp only[wanted];rw[I3 _ _ _ ht,hb'];simp[hbw'])
   ·rename_i l' hb
    obtain ⟨l2,hb'⟩:=(dN hrl hb).2 l' rfl
    exact skip hw (by simp only[wanted];rw[I3 _ _ _ ht,hb'];rfl)
   ·exact hw.elim
def gD (C:C5) (l:List sL) (rs:List P1) (tail:List i7) (ks:List Nat) (K:List KF) (fr:D7) (st:l8) (P:A8):Prop:=wpD C l rs fr st fun fr st=>gO C tail ks K fr st P
def gDV (C:C5) (r:Option (V × l8 × P1)) (conc:List Nat) (d:Option Nat) (l:List sL) (rs:List P1) (tail:List i7) (ks:List Nat) (K:List KF) (fr:D7) (P:A8):Prop:=
 match r with|some (v,st',r)=>jD rs r conc=true∧gD C l (rs++ [r]) tail ks K (u9 fr d v) st' P|none=>False
def gDG (C:C5) (v:Option V) (want:Bool) (r:Option (V × l8 × P1)) (conc:List Nat) (d:Option Nat) (l:List sL) (rs:List P1) (tail:List i7) (ks:List Nat) (K:List KF) (fr:D7) (st:l8) (P:A8):Prop:=
 match v with
 |some (.sc (.bool b))=>if b==want then gDV C r conc d l rs tail ks K fr P else gD C l (rs++ [⟨[],[],[],false,false⟩]) tail ks K (u9 fr d (.tup [])) st P
 |some (.tup _)=>gD C l (rs++ [⟨[],[],[],false,false⟩]) tail ks K (u9 fr d (.tup [])) st P
 |_=>False
variable {K:List KF} {fr:D7} {st:l8} {P:A8}
theorem A2 {pre:List sL} {tail:List i7} {ks:List Nat} (h:gD C pre [] tail ks K fr st P):gC C (.drawW pre tail ks) K fr st P:=by
 unfold gC
 simp only[KL]
 rintro frI s ⟨μ,F,h1,h2,h3,h4,h5⟩
 obtain ⟨frI',h',n',fr',st',e,g1,g2⟩:=WM frI s.prot pre (rs:= []) (ν:=μ) h h1 h2 h3 h4 h5 .nil (fun _ _ e=>e) h1.inj (fun o b e=>by obtain ⟨d1,d2,_⟩:=h1.dom o b e;exact ⟨by omega,by omega⟩)
 unfold gO at g2
 obtain ⟨frI2,s2,fr2,st2,e2,k1,k2⟩:=nS tail g2 g1
 refine ⟨.normal,r7 ks frI2,s2,?_,C9 ks fr2,st2,k1.keep ks,k2⟩
 simp only[A4,e,Option.bind_some]
 rw[e2]
 rfl
theorem aR1 (rs:List P1) (tail:List i7) (ks:List Nat):gD C [] rs tail ks K fr st P=gO C tail ks K fr st P:=(rfl)
def JH:K3→Bool
 | .callF _ _=>false
 |_=>true
theorem aB8 (o:K3) (ho:JH o=true) (hint:Option (List Nat)) (conc:List Nat) (rs:List P1) (f:D7) (Q:V→l8→P1→Prop):wpS C o hint conc rs f st Q=match V4 C.E.old f st o hint with|some (v,st',r)=>Q v st' r|none=>False:=by
 cases o<;>first|rfl|cases ho
theorem XV (d:Option Nat) (o:K3) (ho:JH o=true) (conc:List Nat) (hint:Option (List Nat)) (l:List sL) (rs:List P1) (tail:List i7) (ks:List Nat):gD C (⟨⟨d,none,o⟩,conc,hint⟩::l) rs tail ks K fr st P=gDV C (V4 C.E.old (C9 (m7 (s8 o)) fr) st o hint) conc d l rs tail ks K fr P:=by
 unfold gD gDV
 simp only[wpD,cW,aB8 o ho]
 rfl
theorem NF (d:Option Nat) (t:Nat) (want:Bool) (o:K3) (ho:JH o=true) (conc:List Nat) (hint:Option (List Nat)) (l:List sL) (rs:List P1) (tail:List i7) (ks:List Nat):
  gD C (⟨⟨d,some (t,want),o⟩,conc,hint⟩::l) rs tail ks K fr st P=gDG C (f8 fr t) want (V4 C.E.old (C9 (m7 (s8 o)++ [t]) fr) st o hint) conc d l rs tail ks K fr st P:=by
 unfold gD gDG gDV
 simp only[wpD,p9,aB8 o ho]
 rfl
theorem NE (v:V) (st':l8) (r:P1) (conc:List Nat) (d:Option Nat) (l:List sL) (rs:List P1) (tail:List i7) (ks:List Nat) (h:jD rs r conc=true):gDV C (some (v,st',r)) conc d l rs tail ks K fr P=gD C l (rs++ [r]) tail ks K (u9 fr d v) st' P:=by
 simp only[gDV,h,true_and]
theorem XU (b:Bool) (r:Option (V × l8 × P1)) (conc:List Nat) (d:Option Nat) (l:List sL) (rs:List P1) (tail:List i7) (ks:List Nat):gDG C (some (.sc (.bool b))) b r conc d l rs tail ks K fr st P=gDV C r conc d l rs tail ks K fr P:=by simp[gDG]
theorem aR0 (r:Option (V × l8 × P1)) (conc:List Nat) (d:Option Nat) (l:List sL) (rs:List P1) (tail:List i7) (ks:List Nat):gDG C (some (.sc (.bool true))) false r conc d l rs tail ks K fr st P=gD C l (rs++ [⟨[],[],[],false,false⟩]) tail ks K (u9 fr d (.tup [])) st P:=(rfl)
theorem aQ9 (r:Option (V × l8 × P1)) (conc:List Nat) (d:Option Nat) (l:List sL) (rs:List P1) (tail:List i7) (ks:List Nat):gDG C (some (.sc (.bool false))) true r conc d l rs tail ks K fr st P=gD C l (rs++ [⟨[],[],[],false,false⟩]) tail ks K (u9 fr d (.tup [])) st P:=(rfl)
theorem XT (a:List V) (want:Bool) (r:Option (V × l8 × P1)) (conc:List Nat) (d:Option Nat) (l:List sL) (rs:List P1) (tail:List i7) (ks:List Nat):gDG C (some (.tup a)) want r conc d l rs tail ks K fr st P=gD C l (rs++ [⟨[],[],[],false,false⟩]) tail ks K (u9 fr d (.tup [])) st P:=(rfl)
end
section
variable {old:Nat→Nat→Option Value} {f:D7} {st:l8}
theorem aA8 (k:Option Nat) (a:Operand) (h:Option (List Nat)):V4 old f st (.load k a) h=CN old st k (o9 f a):=(rfl)
theorem RR (a x:Operand) (h:Option (List Nat)):V4 old f st (.store 1 a x) h=ID st (o9 f a) (o9 f x):=(rfl)
theorem aJ5 (n:Nat) (hn:Nat.beq n 1=false) (a x:Operand) (h:Option (List Nat)):V4 old f st (.store n a x) h=kI st n (o9 f a) (o9 f x):=by
 show (if Nat.beq n 1 then _ else _)=_
 rw[hn];rfl
theorem aA7 (e:Nat) (a x:Operand) (h:Option (List Nat)):V4 old f st (.copy e a x) h=aO6 st e (o9 f a) (o9 f x):=(rfl)
theorem aA9 (o:K3) (ho:UU o=true):V4 old f st o none=MF st (f6 old f st.own st.next o):=by
 cases o<;>first|rfl|cases ho
def dLd (st:l8) (v:Option V) (l:List Nat):Option (V × l8 × P1):=v.map fun v=>(v,st,⟨l,[],[],false,false⟩)
theorem MC (v:V) (l:List Nat):dLd st (some v) l=some (v,st,⟨l,[],[],false,false⟩):=(rfl)
theorem CO (k:Option Nat) (o j:Nat):CN old st k (some (.ptr o j))=dLd st (cM old st.own k (some (.ptr o j))) [o]:=(rfl)
theorem MD (k:Option Nat) (l:List D) (j:Nat):CN old st k (some (.dp l j))=dLd st (cM old st.own k (some (.dp l j))) []:=(rfl)
theorem ME (k:Option Nat) (x:Value):CN old st k (some (.sc x))=dLd st (cM old st.own k (some (.sc x))) []:=(rfl)
theorem CT (o k:Nat) (y:Value):ID st (some (.ptr o k)) (some (.sc y))=oH st o k y (f8 st.own o):=(rfl)
theorem CS (o k t e:Nat) (g:Bool) (l:List D) (y:Value) (hro:st.ro≤o) (hk:k<l.length):oH st o k y (some (.row t e g false l))=some (.tup [],⟨A3 st.own o (.row t e g false (l.set k (.sc y))),st.next,st.ro⟩,⟨[o],[o],[],false,false⟩):=by
 simp only[oH]
 rw[if_pos (by simp only[Bool.and_eq_true,Nat.ble_eq,Nat.blt_eq];exact ⟨hro,hk⟩)]
theorem CR (o k t e:Nat) (l:List D) (y:Value) (hro:st.ro≤o) (hk:k<l.length):oH st o k y (some (.gro t e false l))=some (.tup [],⟨A3 st.own o (.gro t e false (l.set k (.sc y))),st.next,st.ro⟩,⟨[o],[o],[],false,false⟩):=by
 simp only[oH]
 rw[if_pos (by simp only[Bool.and_eq_true,Nat.ble_eq,Nat.blt_eq];exact ⟨hro,hk⟩)]
theorem CQ (o k t e:Nat) (l:List V) (y:Value) (hro:st.ro≤o) (hk:k<l.length):oH st o k y (some (.box t e l))=some (.tup [],⟨A3 st.own o (.box t e (l.set k (.sc y))),st.next,st.ro⟩,⟨[o],[o],[],false,false⟩):=by
 simp only[oH]
 rw[if_pos (by simp only[Bool.and_eq_true,Nat.ble_eq,Nat.blt_eq];exact ⟨hro,hk⟩)]
theorem vY (v:V):MF st (some (v,none,[]))=some (v,st,⟨[],[],[],false,false⟩):=(rfl)
theorem CP (v:V) (ob:Obj):MF st (some (v,some ob,[]))=some (v,⟨(st.next,ob)::st.own,st.next+1,st.ro⟩,⟨[],[],[st.next],false,false⟩):=(rfl)
end
theorem MM {w:VW}:∀ {L:List D} {vs:List Value},j6 w L vs→(∀ d ∈ L,∃ x,d= .sc x)→(∀ n,x8 n vs= [])∧(∀ f,R1 f vs=vs)∧∀ w',j6 w' L vs
 | [],vs,h,_=>by simp only[j6] at h;subst h;exact ⟨fun _=>rfl,fun _=>rfl,fun w'=>by simp only[j6]⟩
 |d::r,vs,h,hs=>by
  simp only[j6] at h
  obtain ⟨v,vs',rfl,h1,h2⟩:=h
  obtain ⟨a1,a2,a3⟩:=MM h2 fun d hd=>hs d (List.mem_cons_of_mem _ hd)
  obtain ⟨x,rfl⟩:=hs d (List.mem_cons_self ..)
  simp only[u7] at h1
  obtain ⟨rfl,hx⟩:=h1
  have hren:∀ f,P9 f v=v:=fun f=>QA (V0 0 v hx)
  exact ⟨fun n=>by simp[x8,V0 n v hx,a1 n],fun f=>by simp[R1,hren f,a2 f],fun w'=>by simp only[j6];exact ⟨v,vs',rfl,by simp only[u7,hx,and_self],a3 w'⟩⟩
theorem bG6 {n0 b N c:Nat} {h:j9} {blk:u6} (hb:d9 h b=some blk) (hn:n0≤b) (hi:∀ n,x8 n blk.cells= []) (hr:∀ f,R1 f blk.cells=blk.cells):
  gc n0 h (.slice (some ⟨b,0,some 0⟩) N c)=some (.slice (some ⟨n0,0,some 0⟩) N c,[blk]):=by
 have hid:r5 n0 (.slice (some ⟨b,0,some 0⟩) N c)= [b]:=by
  simp only[r5,n5]
  rw[if_pos (by rw[Nat.ble_eq];exact hn)]
 have hre:jI n0 h [b]=some [b]:=by
  have:aO n0 h 1000000 [b] []=some [b]:=by
   rw[show (1000000:Nat)=999999+1 from rfl]
   simp only[aO,l7,Bool.false_eq_true,if_false,hb,Option.bind_some,hi]
   rfl
  simp only[jI,this]
 have hto:y5 n0 [b] b=n0:=by
  simp only[y5,I4]
  rw[if_neg (by rw[Nat.blt_eq];omega),if_pos (i6.2 rfl)]
  rfl
 unfold gc
 rw[hid]
 simp only[hre,Option.bind_some,List.reverse_singleton,aK,hb,Option.map_some,hr]
 simp only[P9,G4,hto]
section
variable {old:Nat→Nat→Option Value} {rounds:Nat} {fns:FuncId→Option p7} {prims:FuncId→List Value→St→Option (Value × List u6)} {n:Nat} {f:FuncId} {xs:List V} {af:p7}
theorem bC2 {st0:l8} {t e N:Nat} {L:List D} (hf:fns f=some af) (hpu:af.pure=true) (hp:∀ xs s,prims f xs s=none) (hlen:xs.length≤af.n) (hN:N ≠ 0) (hL:L ≠ []) (hsc:∀ d ∈ L,∃ x,d= .sc x)
  (h:∀ C:C5,C.E=t8 old rounds fns prims n→C.w0.nx=st0.next→∃ st1 o,f8 st1.own o=some (.gro t e false L)∧st1.ro≤o∧gC C af.code [] (R7 0 xs) ⟨st0.own,st0.next,st0.next⟩ (qI C af.res (.gr 2 o N) st1)):
  HG (t8 old rounds fns prims (n+1)) f st0 xs (.gr 2 st0.next N) (.gro t e false L):=by
 have hok:T6 L=true:=by
  simp only[T6,List.all_eq_true]
  intro d hd
  obtain ⟨x,rfl⟩:=hsc d hd
  rfl
 have hln:(Obj.gro t e false L).none=false:=by cases L with|nil=>exact absurd rfl hL|cons=>rfl
 refine ⟨hln,rfl,hok,?_⟩
 intro s μ F xsI w0 hs hx
 let C:C5:=⟨t8 old rounds fns prims n,s.next,s.heap,(· <s.next),⟨m9 (t8 old rounds fns prims n) s.heap,F,μ,st0.next⟩,s.next⟩
 have hs':SR C ⟨st0.own,st0.next,st0.next⟩ ⟨s.heap,s.next,s.next⟩ μ F:=hs.env (T8 _ _) rfl rfl rfl
 obtain ⟨st1,o,ho,hro,h⟩:=h C rfl rfl
 have hx':d8 (u5 C ⟨st0.own,st0.next,st0.next⟩ ⟨s.heap,s.next,s.next⟩ μ F) xs xsI:=by
  show d8 ⟨m9 (t8 old rounds fns prims n) s.heap,F,μ,st0.next⟩ xs xsI
  rw[T8 n (n+1)];exact hx
 obtain ⟨vI,sf,hbody,μ',G,g1,g2,g3,g4,g5⟩:=qN (C:=C) (s:=⟨s.heap,s.next,s.next⟩) hlen h ⟨_,F,hs',cK 0 hx',VW.le.refl _,rfl,fun b hb=> .inl hb⟩ hx.length
 obtain ⟨b,blk,m1,m2,m3⟩:=g1.obj o _ ho hln
 simp only[b7] at g2
 obtain ⟨_,⟨h0,_⟩|⟨_,b',rfl,q⟩⟩:=g2
 ·exact absurd h0 hN
 have:=q b m1
 subst this
 have hb:s.next≤b':=by
  have:=g1.pb o b' m1 hro
  rw[g4] at this
  exact this
 obtain ⟨r1,r2,r3⟩:=MM m3.2.2.2 hsc
 refine ⟨.slice (some ⟨s.next,0,some 0⟩) N (v6+N),blk,?_,fun w k1 k2=>⟨?_,m3.1,m3.2.1,m3.2.2.1,r3 w⟩⟩
 ·simp only[K4,hp,hf,Option.bind_some,hpu,if_true]
  rw[show body (t8 old rounds fns prims n) af xsI ⟨s.heap,s.next,s.next⟩=some (.slice (some ⟨b',0,some 0⟩) N (v6+N),sf) from hbody]
  exact bG6 m2 hb r1 r2
 ·simp only[b7]
  exact ⟨k1,.inr ⟨hN,s.next,rfl,fun b hb=>by rw[k2] at hb;cases hb;rfl⟩⟩
end
theorem uX {α:Type} {r:List (Nat × α)} {i:Nat} {v:α} (h:(f8 r i).isSome=true):f8 (A3 r i v) i=some v:=by
 obtain ⟨u,hu⟩:=Option.isSome_iff_exists.1 h
 exact eP hu
theorem SG:O1 []= .tup []:=(rfl)
theorem FC {t e n s:Nat} {z:Bool} {l:List D} {x:Value} (h:n=0↔l= []):bM [(0,.gro t e z l)] (.tup [.gr s 0 n,.sc x]):=by
 refine nJ ?_ (fun o ob ho=>by rw[(dF ho).2]) (fun o ob ho=>by rw[(dF ho).1];simp[Y1,eI])
 simp only[Cl,HB,and_true]
 exact ⟨t,e,z,l,rfl,h⟩
section
variable {C:C5} {st:l8}
theorem FL {a a' b:V} (h:Z1 C st a a'):Z1 C st (.tup [a,b]) (.tup [a',b]):=by
 intro s μ F u h1 hv
 simp only[b7,d8] at hv ⊢
 obtain ⟨vs,rfl,v1,_,rfl,q1,v2,_,rfl,q2,rfl⟩:=hv
 exact ⟨_,rfl,v1,_,rfl,h s μ F v1 h1 q1,v2,_,rfl,q2,rfl⟩
end
theorem VV0:type_of% (And.intro @aR4 (And.intro @aR5 (And.intro @tF (And.intro @wU (And.intro @gR (And.intro @lO (And.intro @oN (And.intro @XQ (And.intro @aQ6 (And.intro @XO (And.intro @aQ7 (And.intro @NC (And.intro @aQ5 (And.intro @XM (And.intro @IQ (And.intro @wT (And.intro @XP (And.intro @XN (And.intro @aR6 (And.intro @NH (And.intro @aR1 (And.intro @XV (And.intro @NF (And.intro @NE (And.intro @XU (And.intro @aR0 (And.intro @aQ9 (And.intro @XT (And.intro @aA8 (And.intro @RR (And.intro @aA9 (And.intro @CO (And.intro @MD (And.intro @ME (And.intro @MC (And.intro @CT (And.intro @CS (And.intro @CR (And.intro @CQ (@vY)))))))))))))))))))))))))))))))))))))))):=
 And.intro @aR4 (And.intro @aR5 (And.intro @tF (And.intro @wU (And.intro @gR (And.intro @lO (And.intro @oN (And.intro @XQ (And.intro @aQ6 (And.intro @XO (And.intro @aQ7 (And.intro @NC (And.intro @aQ5 (And.intro @XM (And.intro @IQ (And.intro @wT (And.intro @XP (And.intro @XN (And.intro @aR6 (And.intro @NH (And.intro @aR1 (And.intro @XV (And.intro @NF (And.intro @NE (And.intro @XU (And.intro @aR0 (And.intro @aQ9 (And.intro @XT (And.intro @aA8 (And.intro @RR (And.intro @aA9 (And.intro @CO (And.intro @MD (And.intro @ME (And.intro @MC (And.intro @CT (And.intro @CS (And.intro @CR (And.intro @CQ (@vY)))))))))))))))))))))))))))))))))))))))
theorem VV1:type_of% (And.intro @CP (And.intro @NJ (And.intro @NI (And.intro @DJ (And.intro @NG (And.intro @XW (And.intro @tL (And.intro @PJ (And.intro @CA (And.intro @aW5 (And.intro @LW (And.intro @LX (And.intro @GV (And.intro @SC (And.intro @aA7 (And.intro @GH (And.intro @vB (And.intro @XX (And.intro @NK (And.intro @aR3 (And.intro @bO7 (And.intro @bO6 (And.intro @aR2 (And.intro @YH (And.intro @aS0 (And.intro @YF (And.intro @YG (And.intro @YE (And.intro @wS (And.intro @XR (And.intro @XS (And.intro @ND (And.intro @aR9 (And.intro @YD (And.intro @NQ (And.intro @NR (And.intro @NS (And.intro @NP (And.intro @YC (@NL)))))))))))))))))))))))))))))))))))))))):=
 And.intro @CP (And.intro @NJ (And.intro @NI (And.intro @DJ (And.intro @NG (And.intro @XW (And.intro @tL (And.intro @PJ (And.intro @CA (And.intro @aW5 (And.intro @LW (And.intro @LX (And.intro @GV (And.intro @SC (And.intro @aA7 (And.intro @GH (And.intro @vB (And.intro @XX (And.intro @NK (And.intro @aR3 (And.intro @bO7 (And.intro @bO6 (And.intro @aR2 (And.intro @YH (And.intro @aS0 (And.intro @YF (And.intro @YG (And.intro @YE (And.intro @wS (And.intro @XR (And.intro @XS (And.intro @ND (And.intro @aR9 (And.intro @YD (And.intro @NQ (And.intro @NR (And.intro @NS (And.intro @NP (And.intro @YC (@NL)))))))))))))))))))))))))))))))))))))))
theorem VV2:type_of% (And.intro @NM (And.intro @NN (And.intro @YB (And.intro @NO (And.intro @aR8 (And.intro @aR7 (And.intro @YA (And.intro @oY (And.intro @xL (And.intro @EF (And.intro @FD (And.intro @pQ (And.intro @zA (And.intro @AW (And.intro @AX (And.intro @uC (And.intro @SH (And.intro @SI (And.intro @QP (And.intro @bQ5 (And.intro @OX (And.intro @OY (And.intro @ZF (And.intro @ZE (And.intro @ZD (And.intro @LJ (And.intro @LI (And.intro @CF (And.intro @GP (And.intro @GQ (And.intro @GO (And.intro @bP9 (And.intro @QG (And.intro @QH (And.intro @FF (And.intro @QF (And.intro @AT (And.intro @GT (And.intro @xZ (@yB)))))))))))))))))))))))))))))))))))))))):=
 And.intro @NM (And.intro @NN (And.intro @YB (And.intro @NO (And.intro @aR8 (And.intro @aR7 (And.intro @YA (And.intro @oY (And.intro @xL (And.intro @EF (And.intro @FD (And.intro @pQ (And.intro @zA (And.intro @AW (And.intro @AX (And.intro @uC (And.intro @SH (And.intro @SI (And.intro @QP (And.intro @bQ5 (And.intro @OX (And.intro @OY (And.intro @ZF (And.intro @ZE (And.intro @ZD (And.intro @LJ (And.intro @LI (And.intro @CF (And.intro @GP (And.intro @GQ (And.intro @GO (And.intro @bP9 (And.intro @QG (And.intro @QH (And.intro @FF (And.intro @QF (And.intro @AT (And.intro @GT (And.intro @xZ (@yB)))))))))))))))))))))))))))))))))))))))
theorem VV3:type_of% (And.intro @yA (And.intro @vG (And.intro @vH (And.intro @CW (And.intro @bO4 (And.intro @bO5 (And.intro @WS (And.intro @wF (And.intro @bA5 (And.intro @CM (And.intro @pA (And.intro @DF (And.intro @MU (And.intro @wJ (And.intro @wK (And.intro @DP (And.intro @NY (And.intro @NZ (And.intro @DO (And.intro @MS (And.intro @OP (And.intro @OK (And.intro @EA (And.intro @OJ (And.intro @EB (And.intro @DZ (And.intro @EC (And.intro @MN (And.intro @zL (And.intro @aW9 (And.intro @ZQ (And.intro @PI (And.intro @aW4 (And.intro @PK (And.intro @PQ (And.intro @ZN (And.intro @ES (And.intro @aW3 (And.intro @aW6 (@PO)))))))))))))))))))))))))))))))))))))))):=
 And.intro @yA (And.intro @vG (And.intro @vH (And.intro @CW (And.intro @bO4 (And.intro @bO5 (And.intro @WS (And.intro @wF (And.intro @bA5 (And.intro @CM (And.intro @pA (And.intro @DF (And.intro @MU (And.intro @wJ (And.intro @wK (And.intro @DP (And.intro @NY (And.intro @NZ (And.intro @DO (And.intro @MS (And.intro @OP (And.intro @OK (And.intro @EA (And.intro @OJ (And.intro @EB (And.intro @DZ (And.intro @EC (And.intro @MN (And.intro @zL (And.intro @aW9 (And.intro @ZQ (And.intro @PI (And.intro @aW4 (And.intro @PK (And.intro @PQ (And.intro @ZN (And.intro @ES (And.intro @aW3 (And.intro @aW6 (@PO)))))))))))))))))))))))))))))))))))))))
theorem VV4:type_of% (And.intro @bP8 (And.intro @PL (And.intro @PM (And.intro @aW2 (And.intro @yO (And.intro @ZS (And.intro @aX0 (And.intro @ZR (And.intro @ZI (And.intro @ZJ (And.intro @ZL (And.intro @ZK (And.intro @ER (And.intro @ZM (And.intro @aW7 (And.intro @ZO (And.intro @ZP (And.intro @aW8 (And.intro @bP7 (And.intro @aW1 (And.intro @ZH (And.intro @PN (And.intro @tM (And.intro @xV (And.intro @xW (And.intro @PS (And.intro @zH (And.intro @FN (And.intro @PU (And.intro @AE (And.intro @AG (And.intro @yN (And.intro @oL (And.intro @oM (And.intro @PP (And.intro @sX (And.intro @mR (And.intro @fE (And.intro @dC (@qK)))))))))))))))))))))))))))))))))))))))):=
 And.intro @bP8 (And.intro @PL (And.intro @PM (And.intro @aW2 (And.intro @yO (And.intro @ZS (And.intro @aX0 (And.intro @ZR (And.intro @ZI (And.intro @ZJ (And.intro @ZL (And.intro @ZK (And.intro @ER (And.intro @ZM (And.intro @aW7 (And.intro @ZO (And.intro @ZP (And.intro @aW8 (And.intro @bP7 (And.intro @aW1 (And.intro @ZH (And.intro @PN (And.intro @tM (And.intro @xV (And.intro @xW (And.intro @PS (And.intro @zH (And.intro @FN (And.intro @PU (And.intro @AE (And.intro @AG (And.intro @yN (And.intro @oL (And.intro @oM (And.intro @PP (And.intro @sX (And.intro @mR (And.intro @fE (And.intro @dC (@qK)))))))))))))))))))))))))))))))))))))))
theorem VV5:type_of% (And.intro @iJ (And.intro @fD (And.intro @sV (And.intro @aU2 (And.intro @aU1 (And.intro @PT (And.intro @ZG (And.intro @ZT (And.intro @SU (And.intro @bD7 (And.intro @aC0 (And.intro @aC1 (And.intro @zU (And.intro @QY (And.intro @QZ (And.intro @zS (And.intro @zR (And.intro @FY (And.intro @tX (And.intro @RP (And.intro @LA (And.intro @RQ (And.intro @GJ (And.intro @GK (And.intro @vA (And.intro @sO (And.intro @sN (And.intro @oB (And.intro @sB (And.intro @QX (And.intro @zQ (And.intro @FX (And.intro @FV (And.intro @sC (And.intro @FU (And.intro @FT (And.intro @sP (And.intro @QW (And.intro @aA2 (@aZ8)))))))))))))))))))))))))))))))))))))))):=
 And.intro @iJ (And.intro @fD (And.intro @sV (And.intro @aU2 (And.intro @aU1 (And.intro @PT (And.intro @ZG (And.intro @ZT (And.intro @SU (And.intro @bD7 (And.intro @aC0 (And.intro @aC1 (And.intro @zU (And.intro @QY (And.intro @QZ (And.intro @zS (And.intro @zR (And.intro @FY (And.intro @tX (And.intro @RP (And.intro @LA (And.intro @RQ (And.intro @GJ (And.intro @GK (And.intro @vA (And.intro @sO (And.intro @sN (And.intro @oB (And.intro @sB (And.intro @QX (And.intro @zQ (And.intro @FX (And.intro @FV (And.intro @sC (And.intro @FU (And.intro @FT (And.intro @sP (And.intro @QW (And.intro @aA2 (@aZ8)))))))))))))))))))))))))))))))))))))))
theorem VV6:type_of% (And.intro @aZ9 (And.intro @bA0 (And.intro @RJ (And.intro @RH (And.intro @XL (And.intro @aQ2 (And.intro @aQ4 (And.intro @aQ3 (And.intro @k8 (And.intro @uJ (And.intro @uK (And.intro @GU (And.intro @aB4 (And.intro @aB3 (And.intro @YN (And.intro @YO (And.intro @YP (And.intro @YQ (And.intro @EO (And.intro @KW (And.intro @k7 (And.intro @LB (And.intro @vE (And.intro @vD (And.intro @vC (And.intro @kF (And.intro @uX (And.intro @SG (And.intro @LC (And.intro @J1 (And.intro @KU (And.intro @bN (And.intro @BY (And.intro @sM (And.intro @wO (And.intro @iO (And.intro @NA (And.intro @MZ (And.intro @MY (@CY)))))))))))))))))))))))))))))))))))))))):=
 And.intro @aZ9 (And.intro @bA0 (And.intro @RJ (And.intro @RH (And.intro @XL (And.intro @aQ2 (And.intro @aQ4 (And.intro @aQ3 (And.intro @k8 (And.intro @uJ (And.intro @uK (And.intro @GU (And.intro @aB4 (And.intro @aB3 (And.intro @YN (And.intro @YO (And.intro @YP (And.intro @YQ (And.intro @EO (And.intro @KW (And.intro @k7 (And.intro @LB (And.intro @vE (And.intro @vD (And.intro @vC (And.intro @kF (And.intro @uX (And.intro @SG (And.intro @LC (And.intro @J1 (And.intro @KU (And.intro @bN (And.intro @BY (And.intro @sM (And.intro @wO (And.intro @iO (And.intro @NA (And.intro @MZ (And.intro @MY (@CY)))))))))))))))))))))))))))))))))))))))
theorem VV7:type_of% (And.intro @sU (And.intro @aB2 (And.intro @aB0 (And.intro @RS (And.intro @aB1 (And.intro @RX (And.intro @RW (And.intro @RV (And.intro @RU (And.intro @AQ (And.intro @RT (And.intro @RY (And.intro @vS (And.intro @GN (And.intro @DQ (And.intro @GL (And.intro @GM (And.intro @qA (And.intro @sT (And.intro @mC (And.intro @SA (And.intro @GS (And.intro @AS (And.intro @GR (And.intro @RZ (And.intro @bP (And.intro @dK (And.intro @bN7 (And.intro @bN6 (And.intro @bN5 (And.intro @bN4 (And.intro @bN3 (And.intro @bN9 (And.intro @bN2 (And.intro @bO0 (And.intro @bN8 (And.intro @CC (And.intro @CD (And.intro @TD (@aM4)))))))))))))))))))))))))))))))))))))))):=
 And.intro @sU (And.intro @aB2 (And.intro @aB0 (And.intro @RS (And.intro @aB1 (And.intro @RX (And.intro @RW (And.intro @RV (And.intro @RU (And.intro @AQ (And.intro @RT (And.intro @RY (And.intro @vS (And.intro @GN (And.intro @DQ (And.intro @GL (And.intro @GM (And.intro @qA (And.intro @sT (And.intro @mC (And.intro @SA (And.intro @GS (And.intro @AS (And.intro @GR (And.intro @RZ (And.intro @bP (And.intro @dK (And.intro @bN7 (And.intro @bN6 (And.intro @bN5 (And.intro @bN4 (And.intro @bN3 (And.intro @bN9 (And.intro @bN2 (And.intro @bO0 (And.intro @bN8 (And.intro @CC (And.intro @CD (And.intro @TD (@aM4)))))))))))))))))))))))))))))))))))))))
theorem VV8:type_of% (And.intro @bD6 (And.intro @bQ3 (And.intro @bQ2 (And.intro @tP (And.intro @EE (And.intro @ED (And.intro @xO (@xN)))))))):=
 And.intro @bD6 (And.intro @bQ3 (And.intro @bQ2 (And.intro @tP (And.intro @EE (And.intro @ED (And.intro @xO (@xN)))))))
theorem VV9:type_of% (And.intro @Bool.false_eq_true (And.intro @Bool.not_true (And.intro @Bool.not_false (And.intro @Int.toNat_natCast (And.intro @Nat.zero_add (And.intro @Nat.add_zero (And.intro @Nat.mul_one (And.intro @Int.add_sub_cancel (And.intro @Bool.and_true (And.intro @Bool.true_and (And.intro @Bool.and_self (And.intro @true_or (And.intro @not_true_eq_false (And.intro @not_false_eq_true (And.intro @decide_true (And.intro @decide_false (And.intro @Option.map_some.{0,0} (And.intro @Option.bind_some.{0,0} (And.intro @List.cons_append.{0} (And.intro @List.nil_append.{0} (And.intro @List.map_cons.{0,0} (And.intro @List.map_nil.{0,0} (And.intro @List.append_nil.{0} (And.intro @Option.toList_some.{0} (And.intro @Option.toList_none.{0} (And.intro @if_true.{1} (And.intro @if_false.{1} (And.intro @List.length_cons.{0} (And.intro @List.length_nil.{0} (And.intro @List.length_singleton.{0} (And.intro @eq_self.{1} (And.intro @List.drop_zero.{0} (And.intro @List.drop_succ_cons.{0} (And.intro @Option.some.injEq.{0} (And.intro @Prod.mk.injEq.{0,0} (And.intro @List.set_cons_zero.{0} (@List.set_cons_succ.{0}))))))))))))))))))))))))))))))))))))):=
 And.intro @Bool.false_eq_true (And.intro @Bool.not_true (And.intro @Bool.not_false (And.intro @Int.toNat_natCast (And.intro @Nat.zero_add (And.intro @Nat.add_zero (And.intro @Nat.mul_one (And.intro @Int.add_sub_cancel (And.intro @Bool.and_true (And.intro @Bool.true_and (And.intro @Bool.and_self (And.intro @true_or (And.intro @not_true_eq_false (And.intro @not_false_eq_true (And.intro @decide_true (And.intro @decide_false (And.intro @Option.map_some.{0,0} (And.intro @Option.bind_some.{0,0} (And.intro @List.cons_append.{0} (And.intro @List.nil_append.{0} (And.intro @List.map_cons.{0,0} (And.intro @List.map_nil.{0,0} (And.intro @List.append_nil.{0} (And.intro @Option.toList_some.{0} (And.intro @Option.toList_none.{0} (And.intro @if_true.{1} (And.intro @if_false.{1} (And.intro @List.length_cons.{0} (And.intro @List.length_nil.{0} (And.intro @List.length_singleton.{0} (And.intro @eq_self.{1} (And.intro @List.drop_zero.{0} (And.intro @List.drop_succ_cons.{0} (And.intro @Option.some.injEq.{0} (And.intro @Prod.mk.injEq.{0,0} (And.intro @List.set_cons_zero.{0} (@List.set_cons_succ.{0}))))))))))))))))))))))))))))))))))))
theorem d6:type_of% (And.intro (@List.length_map.{0,0}) (And.intro (@List.length_set.{0}) (And.intro (@List.length_replicate.{0}) (And.intro (@List.length_cons.{0}) (And.intro (@List.length_nil.{0}) (@List.length_append.{0})))))):=
 And.intro (@List.length_map.{0,0}) (And.intro (@List.length_set.{0}) (And.intro (@List.length_replicate.{0}) (And.intro (@List.length_cons.{0}) (And.intro (@List.length_nil.{0}) (@List.length_append.{0})))))
def b9 (d:Nat) (p:K3):i7:=⟨some d,none,p⟩
def a7 (d k:Nat):i7:=⟨some d,none,.mov (.tmp k)⟩
def G8 (d k j:Nat):i7:=⟨some d,none,.ext (.tmp k) j⟩
def P5 (d f k:Nat):i7:=⟨some d,none,.callF f [.tmp k]⟩
def I1 (d k:Nat):i7:=⟨some d,none,.load none (.tmp k)⟩
def K2 (d j k:Nat):i7:=⟨some d,none,.fldA j (.tmp k)⟩
def n9 (n:Int):Operand:=.const (.int .i64 n)
def H8 (n:Int):Operand:=.const (.int .u8 n)
def z1 (d g:Nat) (p:K3):i7:=⟨some d,some (g,false),p⟩
def r9 (d g:Nat) (p:K3):i7:=⟨some d,some (g,true),p⟩
def n6 (d k:Nat) (b:BinOp) (x:Operand):i7:=⟨some d,none,.bin b (.tmp k) x⟩
def C4 (d:Nat) (n:Int):i7:=⟨some d,none,.mov (.const (.int .i64 n))⟩
theorem WA:type_of% (And.intro @b9.eq_1 (And.intro @a7.eq_1 (And.intro @G8.eq_1 (And.intro @P5.eq_1 (And.intro @I1.eq_1 (And.intro @K2.eq_1 (And.intro @n9.eq_1 (And.intro @H8.eq_1 (And.intro @z1.eq_1 (And.intro @r9.eq_1 (And.intro @n6.eq_1 (And.intro @C4.eq_1 (And.intro VV0 (And.intro VV1 (And.intro VV2 (And.intro VV3 (And.intro VV4 (And.intro VV5 (And.intro VV6 (And.intro VV7 (And.intro VV8 (And.intro VV9 (And.intro @YU.eq_1 (And.intro @R7.eq_1 (And.intro @R7.eq_2 (And.intro @scL.eq_1 (And.intro @BD.eq_1 (And.intro @U2.eq_1 (@U2.eq_2))))))))))))))))))))))))))))):=And.intro @b9.eq_1 (And.intro @a7.eq_1 (And.intro @G8.eq_1 (And.intro @P5.eq_1 (And.intro @I1.eq_1 (And.intro @K2.eq_1 (And.intro @n9.eq_1 (And.intro @H8.eq_1 (And.intro @z1.eq_1 (And.intro @r9.eq_1 (And.intro @n6.eq_1 (And.intro @C4.eq_1 (And.intro VV0 (And.intro VV1 (And.intro VV2 (And.intro VV3 (And.intro VV4 (And.intro VV5 (And.intro VV6 (And.intro VV7 (And.intro VV8 (And.intro VV9 (And.intro @YU.eq_1 (And.intro @R7.eq_1 (And.intro @R7.eq_2 (And.intro @scL.eq_1 (And.intro @BD.eq_1 (And.intro @U2.eq_1 (@U2.eq_2))))))))))))))))))))))))))))
end Go.Itp
namespace Go.Itp
open Go.RowKit (Below)
set_option linter.unusedVariables false
def XH:Value→Bool
 | .string _=>true
 | .int _ _=>true
 | .bool _=>true
 |_=>false
def fnP (f0:FuncId) (F:List Value→Option Value) (f:FuncId) (xs:List Value) (_:St):Option (Value × List u6):=
 if Nat.beq f f0 then (F xs).map fun v=>(v,[]) else none
theorem aA4 {μ:Mu}:∀ {v:Value},XH v=true→tr μ v=some v
 | .string _,_=>by simp[tr]
 | .int _ _,_=>by simp[tr]
 | .bool _,_=>by simp[tr]
theorem RL {μ:Mu}:∀ {xs:List Value},xs.all XH=true→C3 μ xs=some xs
 | [],_=>by simp[C3]
 |x::xs,h=>by
  simp only[List.all_cons,Bool.and_eq_true] at h
  simp[C3,aA4 h.1,RL h.2]
theorem UG {P:Program} {f0:FuncId} {F:List Value→Option Value} {w0:World} (hen:HD P f0) (hx:∀ xs v,F xs=some v→xs.all XH=true∧XH v=true)
  (hc:∀ xs v,F xs=some v→∀ w,Below w0.heap.size w0 w→Calls P f0 xs.toArray w fun e w'=>e= .returned v∧Below w.heap.size w w'):R9 P (fnP f0 F) w0:=by
 intro f xs s v bs h G μ w cs hG hr hx'
 unfold fnP at h
 split at h
 case isFalse=>cases h
 rename_i hf
 have:=i6.1 hf
 subst this
 simp only[Option.map_eq_some_iff,Prod.mk.injEq] at h
 obtain ⟨v',hv,rfl,rfl⟩:=h
 obtain ⟨h1,h2⟩:=hx xs _ hv
 rw[RL h1] at hx'
 cases hx'
 exact cS hen hr (hc xs _ hv w (by rw[← hG];exact hr.b0)) (aA4 h2)
theorem bT0 {old:Nat→Nat→Option Value} {rounds:Nat} {fns:FuncId→Option p7} {prims:FuncId→List Value→St→Option (Value × List u6)} {n:Nat} {f0:FuncId} {F:List Value→Option Value} {st:l8} {ys:List Value} {v:Value} (hF:F ys=some v) (hv:B8 v=true) (hp:∀ xs s r,fnP f0 F f0 xs s=some r→prims f0 xs s=some r):
  H0 (t8 old rounds fns prims (n+1)) f0 st (ys.map V.sc) (.sc v):=
 aV8 (fun s=>hp _ _ _ (by unfold fnP;rw[if_pos (i6.2 rfl),hF];rfl)) hv
def aO8 (st:l8) (n o k:Nat) (ys:List V):Option Obj→Option (V × l8 × P1)
 |some (.box t e l)=>if Nat.ble st.ro o && Nat.beq ys.length n && bJ7 ys then (D8 l k ys).map fun l=>(.tup [],⟨A3 st.own o (.box t e l),st.next,st.ro⟩,⟨[o],[o],[],false,false⟩) else none
 |_=>none
theorem TX (st:l8) (n o k:Nat) (ys:List V):kI st n (some (.ptr o k)) (some (.agg ys))=aO8 st n o k ys (f8 st.own o):=by
 simp only[kI]
 cases f8 st.own o with
 |none=>rfl
 |some ob=>cases ob<;>rfl
theorem bF7 (st:l8) (o t e:Nat) (w0 w1:V) (a:Value) (s n:Nat) (l:List D) (hro:st.ro≤o):aO8 st 2 o 0 [.sc a,.sl s n l] (some (.box t e [w0,w1]))=some (.tup [],⟨A3 st.own o (.box t e [.sc a,.sl s n l]),st.next,st.ro⟩,⟨[o],[o],[],false,false⟩):=by
 simp only[aO8]
 rw[if_pos (by simp only[Bool.and_eq_true,Nat.ble_eq];exact ⟨⟨hro,rfl⟩,rfl⟩)]
 rfl
theorem aJ4 {old:Nat→Nat→Option Value} {f:D7} {st:l8} (a x:Operand) (h:Option (List Nat)):V4 old f st (.store 2 a x) h=kI st 2 (o9 f a) (o9 f x):=aJ5 2 rfl a x h
def NX:List Value→Option Value
 | [.string s,.string t]=>if s.size<4294967281 then some (.int .i64 (Lib.index s.data.toList t.data.toList)) else none
 |_=>none
def yV:List Value→Option Value
 | [.string s,.string t,.string u,.int .i64 n]=>if s.size<4294967281∧1≤t.size∧s.size+Lib.countB s t*u.size≤140737488355328 then some (.string ⟨(Lib.replace s.data.toList t.data.toList u.data.toList n).toArray⟩) else none
 |_=>none
def LZ:List Value→Option Value
 | [.string s,.string t]=>if s.size<4294967281∧1≤t.size then some (.int .i64 (Lib.countB s t)) else none
 |_=>none
end Go.Itp
namespace Go.Itp
open Go.ChangeShapes Go.WideShapes Go.ChangeAt Go.RowKit
set_option linter.unusedVariables false

end Go.Itp
namespace Go.Itp
set_option linter.unusedVariables false
set_option linter.constructorNameAsVariable false
section
variable {C:C5} {st:l8} {fr:D7}
theorem pV {s n:Nat} {l:List D} (h:s ≠ 1∨n ≠ 0):Z1 C st (.sl s n l) (.sl 3 n l):=by
 intro s' μ F u h1 hv
 simp only[b7,u7] at hv ⊢
 rcases hv with ⟨a,c,rfl,i,k,r,q⟩|⟨h2,rfl,rfl,rfl|⟨h3,_⟩⟩
 ·exact .inl ⟨a,c,rfl,i,k,r,fun h=>by cases h⟩
 ·exact .inr ⟨by omega,rfl,rfl,.inl rfl⟩
 ·rcases h with h|h
  ·exact absurd h3 h
  ·exact absurd rfl h
theorem kZ:Z1 C st (.sc (.slice none 0 0)) (.sl 3 0 []):=by
 intro s μ F u h1 hv
 rw[hv.scv]
 simp only[b7,u7]
 refine .inr ⟨by omega,?_,?_,.inl ?_⟩<;>trivial
theorem R8 {v:V} {x:Value} {s n:Nat} {l:List D} (hs:x7 st.own v=some (.sl s n l)) (hrow:E1 st.ro st.own (cT v)=true) (hk:s ≠ 1∨n ≠ 0) (h0:C.w0.nx=0) (hro:st.ro=0):M3 C [(0,.tup [v,.sc x])] st [(0,.tup [.sl 3 n l,.sc x])] ⟨[],0,0⟩:=by
 have e1:cT (.tup [v,.sc x])=cT v:=by simp[cT,Z5]
 have e2:x7 st.own (.tup [v,.sc x])=some (.tup [.sl s n l,.sc x]):=by simp[x7,J7,hs]
 refine (eK (t:=0) (v:= .tup [v,.sc x]) rfl e2 (by rw[e1];exact hrow)).trans ?_
 refine (M2 (t:=0) (v:= .tup [.sl s n l,.sc x]) (v':= .tup [.sl 3 n l,.sc x]) rfl (FL (pV hk))).trans ?_
 exact s9 [] 0 h0 hro rfl rfl rfl
theorem K6 {x:Value} (h0:C.w0.nx=0) (hro:st.ro=0):M3 C [(0,.tup [.sc (.slice none 0 0),.sc x])] st [(0,.tup [.sl 3 0 [],.sc x])] ⟨[],0,0⟩:=
 (M2 (t:=0) (v:= .tup [.sc (.slice none 0 0),.sc x]) (v':= .tup [.sl 3 0 [],.sc x]) rfl (FL kZ)).trans (s9 [] 0 h0 hro rfl rfl rfl)
theorem F7 {n:Nat} {l:List D} {x:Value}:bM [] (.tup [.sl 3 n l,.sc x]):=eC (by simp only[Cl,HB,and_true];rfl)
end
section
variable {C:C5} {st:l8} {fr:D7}
theorem FM {a a' b b' c:V} (h:Z1 C st a a') (k:Z1 C st b b'):Z1 C st (.tup [a,b,c]) (.tup [a',b',c]):=by
 intro s μ F u h1 hv
 simp only[b7,d8] at hv ⊢
 obtain ⟨vs,rfl,v1,_,rfl,q1,v2,_,rfl,q2,v3,_,rfl,q3,rfl⟩:=hv
 exact ⟨_,rfl,v1,_,rfl,h s μ F v1 h1 q1,v2,_,rfl,k s μ F v2 h1 q2,v3,_,rfl,q3,rfl⟩
end
section
variable {old:Nat→Nat→Option Value} {rounds:Nat} {fns:FuncId→Option p7} {prims:FuncId→List Value→St→Option (Value × List u6)} {n:Nat} {f:FuncId} {C:C5} {st:l8}
theorem TH {v:V} {Q:V→l8→Prop} (hC:C.E=t8 old rounds fns prims (n+1)) (hp:∀ x s,prims f [x] s=some (x,[])) (hq:Q v st):W2 C f [v] st Q:=by
 refine ⟨v,st,hq,fun s μ F xsI hsr hx hpr=>?_⟩
 simp only[d8] at hx
 obtain ⟨vI,_,rfl,h1,rfl⟩:=hx
 refine ⟨vI,s,μ,F,?_,hsr,h1,VW.le.refl _,rfl,Nat.le_refl _,fun b hb=> .inl hb⟩
 simp only[callI,hC,K4,hp]
 rfl
end
theorem mS (g:Bool) (o k:Nat):qX 0 g (.ptr o k) (.sc (.pointer none))=some (.sc (.bool g)):=by cases g<;>rfl
theorem wE (g:Bool):qX 0 g (.sc (.pointer none)) (.sc (.pointer none))=some (.sc (.bool (!g))):=by cases g<;>rfl
theorem qJ {α:Type}:∀ (r:List (Nat × α)) (i j:Nat) (v:α),i ≠ j→H9 i (A3 r j v)=A3 (H9 i r) j v
 | [],i,j,v,h=>rfl
 |(k,u)::r,i,j,v,h=>by
  simp only[J1,bN]
  by_cases h1:j=k
  ·subst h1
   rw[if_pos rfl,bN,if_neg h,if_neg h,J1,if_pos rfl]
  ·rw[if_neg h1,bN]
   by_cases h2:i=k
   ·rw[if_pos h2,if_pos h2];exact qJ r i j v h
   ·rw[if_neg h2,if_neg h2,J1,if_neg h1,qJ r i j v h]
section
variable {C:C5} {st:l8}
theorem aY7 {o:Nat}:Z1 C st (.gr 2 o 0) (.sc (.slice none 0 0)):=by
 intro s' μ F u h1 hv
 simp only[b7] at hv ⊢
 rcases hv.2 with ⟨_,h|⟨h,_⟩⟩|⟨h,_⟩
 ·exact ⟨h,rfl⟩
 ·exact absurd rfl h
 ·exact absurd rfl h
end
section
variable {old:Nat→Nat→Option Value} {rounds:Nat} {fns:FuncId→Option p7} {prims:FuncId→List Value→St→Option (Value × List u6)} {n:Nat} {f:FuncId} {xs:List V} {v:V} {st st1:l8} {af:p7} {C:C5}
theorem aN5 {st':l8} {Q:V→l8→Prop} (hC:C.E=t8 old rounds fns prims (n+1)) (hf:fns f=some af) (hpu:af.pure=false) (hp:∀ xs s,prims f xs s=none) (hlen:xs.length≤af.n) (hq:Q v st1)
  (hW:∀ C':C5,C'.w0.nx=st.next→M3 C' (R7 0 xs) st (R7 0 xs) st') (h:∀ C':C5,C'.E=t8 old rounds fns prims n→C'.w0.nx=st.next→gC C' af.code [] (R7 0 xs) st' (qI C' af.res v st1)):W2 C f xs st Q:=by
 refine ⟨v,st1,hq,fun s μ F xsI hsr hx hpr=>?_⟩
 let C':C5:=⟨t8 old rounds fns prims n,s.next,s.heap,C.U,⟨m9 (t8 old rounds fns prims n) s.heap,F,μ,st.next⟩,C.p0⟩
 have hE:m9 C'.E=m9 C.E:=by rw[hC];exact T8 _ _
 have hs':SR C' st s μ F:=hsr.env2 hE (Nat.le_refl _) (fun b=>⟨fun hb=>⟨by have:=(hsr.un b hb).1;have:=hsr.n0;show b<s.next;omega,rfl⟩,fun hb=>hb⟩)
 have hx':d8 (u5 C' st s μ F) xs xsI:=by
  show d8 ⟨m9 C'.E s.heap,F,μ,st.next⟩ xs xsI
  rw[hE];exact hx
 obtain ⟨vI,sf,hbody,μ',G,g1,g2,g3,g4,g5⟩:=qN (C:=C') (s:=s) hlen (h C' rfl rfl) (hW C' rfl s (dH 0 xsI) ⟨μ,F,hs',cK 0 hx',VW.le.refl _,hpr,fun b hb=> .inl hb⟩) hx.length
 have hn:s.next≤sf.next:=g1.n0
 have hw:u5 C st1 sf μ' G=u5 C' st1 sf μ' G:=by
  show (⟨m9 C.E sf.heap,G,μ',st1.next⟩:VW)=⟨m9 C'.E sf.heap,G,μ',st1.next⟩
  rw[hE]
 have g1':SR C st1 sf μ' G:=g1.env2 hE.symm (by have:=hsr.n0;omega) (fun b=>⟨fun hb=>⟨(hsr.un b hb).1,by rw[(g1.un b hb).2];exact (hsr.un b hb).2⟩,fun hb=>hb⟩)
 refine ⟨vI,sf,μ',G,?_,g1',by rw[hw];exact g2,?_,by rw[g4,hpr],hn,fun b hb=>?_⟩
 ·simp only[callI,hC,K4,sR,hp,hf,Option.bind_some,hpu]
  exact hbody
 ·rw[hw]
  show VW.le ⟨m9 C.E s.heap,F,μ,st.next⟩ _
  rw[← hE];exact g3
 ·rcases g5 b hb with hb|hb
  ·exact .inl hb
  ·exact .inr (by rw[hpr];exact hb)
end
def bD (b:UInt8):D:= .sc (.int .u8 b.toNat)
def eE (s:ByteArray):List D:=s.data.toList.map bD
theorem bK4 (s:ByteArray):s.data.toList.map (fun b=>D.sc (.int .u8 b.toNat))=eE s:=(rfl)
theorem RD (a b:ByteArray):eE (a++b)=eE a++eE b:=by simp[eE]
theorem zW (s:ByteArray):(eE s).length=s.size:=by simp[eE]
theorem bK5 (s:ByteArray):T6 (eE s)=true:=by
 unfold T6 eE
 rw[List.all_eq_true]
 intro d hd
 obtain ⟨b,_,rfl⟩:=List.mem_map.1 hd
 rfl
theorem mP:∀ (l:List UInt8),A0 (l.map bD)=some l
 | []=>rfl
 |b::r=>by
  have:=mP r
  rw[List.map_cons]
  show (A0 (r.map bD)).map (UInt8.ofNat ((b.toNat:Int)).toNat::·)=some (b::r)
  rw[this]
  simp
theorem aK4 (st:l8) (t:TypeId):AZ st t (.sc (.pointer none)) (.sc (.int .i64 0))=some (.sc (.string .empty),st):=(rfl)
theorem aK3 (st:l8) (t e o:Nat) (s:ByteArray) (ho:f8 st.own o=some (.gro t e false (eE s))) (hro:st.ro≤o) (h0:0<s.size) (h1:s.size≤1099511627776):AZ st t (.ptr o 0) (.sc (.int .i64 s.size))=some (.sc (.string s),⟨H9 o st.own,st.next,st.ro⟩):=by
 simp only[AZ,ho]
 rw[if_pos ⟨by omega,by unfold r4;omega,by rw[Nat.ble_eq];exact hro⟩]
 have e1:(Nat.beq t t && !false)=true:=by rw[(i6 (i:=t) (j:=t)).2 rfl];rfl
 rw[if_pos e1]
 have e2:B4 ((eE s).drop 0) ((s.size:Int)).toNat=some (eE s):=by
  rw[List.drop_zero,Int.toNat_natCast,U6 _ _ (by rw[zW];exact Nat.le_refl _),List.take_of_length_le (by rw[zW];exact Nat.le_refl _)]
 rw[e2]
 simp only[Option.bind_some,eE,mP,Option.map_some]
def iD (x:Int):D:= .sc (.int .i64 x)
def RdV (st:l8) (v:V) (l:List Int):Prop:=(∃ s,v= .sl s l.length (l.map iD))∨(∃ s o t z,v= .gr s o l.length∧f8 st.own o=some (.gro t 1 z (l.map iD)))∨(∃ o c t g z,v= .ref o 0 l.length c∧f8 st.own o=some (.row t 1 g z (l.map iD)))∨(v= .sc (.slice none 0 0)∧l= [])
structure Rdv (H:E4) (v:V) (l:List Int) (p:Nat→V):Prop where
 len:oW false v=some (.sc (.int .i64 l.length))
 idx:∀ i:Int,0≤i→i<l.length→iU 1 v (.sc (.int .i64 i))=some (p i.toNat)
 ld:∀ (old:Nat→Nat→Option Value) (k:Nat),k<l.length→cM old H none (some (p k))=some (.sc (.int .i64 l[k]!))
theorem RdV.sl (st:l8) (s:Nat) (l:List Int):RdV st (.sl s l.length (l.map iD)) l:= .inl ⟨s,rfl⟩
theorem RdV.gr {st:l8} {s o t:Nat} {z:Bool} {l:List Int} (h:f8 st.own o=some (.gro t 1 z (l.map iD))):RdV st (.gr s o l.length) l:= .inr (.inl ⟨s,o,t,z,rfl,h⟩)
theorem RdV.ref {st:l8} {o c t:Nat} {g z:Bool} {l:List Int} (h:f8 st.own o=some (.row t 1 g z (l.map iD))):RdV st (.ref o 0 l.length c) l:= .inr (.inr (.inl ⟨o,c,t,g,z,rfl,h⟩))
set_option maxRecDepth 100000
set_option linter.unusedSimpArgs false
section
variable {old:Nat→Nat→Option Value} {rounds:Nat} {fns:FuncId→Option p7} {prims:FuncId→List Value→St→Option (Value × List u6)} {n:Nat} {f:FuncId} {C:C5} {st:l8}
end
theorem bF0 {H:E4} {o t:Nat} {g z:Bool} {L:List UInt8} (h:f8 H o=some (.row t 1 g z (L.map bD))) (c:Nat):aM2 H (.ref o 0 L.length c)=some (.sc (.string ⟨L.toArray⟩)):=by
 have e:((L.map bD).drop 0).take (L.length*1)=L.map bD:=by rw[List.drop_zero,Nat.mul_one,List.take_of_length_le (by simp)]
 simp only[aM2,okV,V9,Option.bind_some,if_true,J8,h,List.length_map,Nat.zero_add,Nat.mul_one,Nat.le_refl]
 rw[Nat.mul_one] at e
 rw[e]
 simp[mP]
theorem cG2 (k:Nat) (h:k<256):bD (UInt8.ofNat k)= .sc (.int .u8 k):=by
 unfold bD
 rw[UInt8.toNat_ofNat_of_lt' h]
theorem CG (l m:List UInt8):(⟨l.toArray⟩:ByteArray)++⟨m.toArray⟩=⟨(l++m).toArray⟩:=by
 apply ByteArray.ext
 simp
theorem p8 (l:List UInt8):(⟨l.toArray⟩:ByteArray).size=l.length:=by simp[ByteArray.size]
theorem K5 (l m:List UInt8) (h:l.length+m.length<9223372036854775807):K8 .add (.string ⟨l.toArray⟩) (.string ⟨m.toArray⟩)=some (.string ⟨(l++m).toArray⟩):=by
 rw[aM3 _ _ (by rw[p8,p8];exact h),CG]
theorem HA (k:Nat) (h:k<256):IntKind.wrap .u8 (k:Int)=k:=by
 simp[IntKind.wrap,IntKind.signed,IntKind.bits]
 omega
theorem WR {H:E4} {o t:Nat} {g z:Bool} (k:Nat) (hk:k<256) (h:f8 H o=some (.row t 1 g z [.sc (.int .u8 (k:Int))])) (c:Nat):aM2 H (.ref o 0 1 c)=some (.sc (.string ⟨[UInt8.ofNat k].toArray⟩)):=
 bF0 (L:= [UInt8.ofNat k]) (g:=g) (z:=z) (t:=t) (by rw[List.map_cons,List.map_nil,cG2 k hk];exact h) c
def n4 (c:UInt8):List UInt8→List (List UInt8)
 | []=> [[]]
 |b::r=>if b=c then []::n4 c r else match n4 c r with
   | []=> [[b]]
   |w::ws=>(b::w)::ws
def join (c:UInt8):List (List UInt8)→List UInt8
 | []=> []
 | [w]=>w
 |w::v::ws=>w++c::join c (v::ws)
theorem eL (c:UInt8):∀ s,n4 c s ≠ []
 | []=>by simp[n4]
 |b::r=>by
  simp only[n4]
  split
  ·simp
  ·split<;>simp
theorem L1 {c:UInt8}:∀ {s:List UInt8},c ∉ s→n4 c s= [s]
 | [],_=>rfl
 |b::r,h=>by
  rw[List.mem_cons,not_or] at h
  have ih:=L1 h.2
  simp only[n4]
  rw[if_neg (fun e=>h.1 e.symm),ih]
theorem E7 {c:UInt8}:∀ {a:List UInt8} (r:List UInt8),c ∉ a→n4 c (a++c::r)=a::n4 c r
 | [],r,_=>by simp[n4]
 |b::a,r,h=>by
  rw[List.mem_cons,not_or] at h
  have ih:=E7 r h.2
  rw[List.cons_append,n4,if_neg (fun e=>h.1 e.symm),ih]
theorem N3 (c:UInt8):∀ s:List UInt8,c ∉ s∨∃ a r,s=a++c::r∧c ∉ a
 | []=> .inl (by simp)
 |b::s=>by
  by_cases h:b=c
  ·subst h;exact .inr ⟨[],s,rfl,by simp⟩
  ·rcases N3 c s with h2|⟨a,r,rfl,h2⟩
   ·exact .inl (by rw[List.mem_cons,not_or];exact ⟨fun e=>h e.symm,h2⟩)
   ·exact .inr ⟨b::a,r,rfl,by rw[List.mem_cons,not_or];exact ⟨fun e=>h e.symm,h2⟩⟩
theorem nQ {c:UInt8}:∀ {ws:List (List UInt8)},ws ≠ []→(∀ w ∈ ws,c ∉ w)→n4 c (join c ws)=ws
 | [],h,_=>absurd rfl h
 | [w],_,h=>L1 (h w (by simp))
 |w::v::ws,_,h=>by
  rw[join,E7 _ (h w (by simp)),nQ (by simp) fun x hx=>h x (List.mem_cons_of_mem _ hx)]
theorem rN {c:UInt8}:∀ (ws:List (List UInt8)) (w:List UInt8),ws ≠ []→join c (ws++ [w])=join c ws++c::w
 | [],w,h=>absurd rfl h
 | [v],w,_=>rfl
 |v::u::ws,w,_=>by
  have:=rN (c:=c) (u::ws) w (by simp)
  simp only[List.cons_append,join,List.append_assoc] at this ⊢
  rw[this]
theorem words_len {c:UInt8}:∀ (n:Nat) {s:List UInt8},s.length≤n→(n4 c s).length≤s.length+1∧∀ w ∈ n4 c s,w.length≤s.length
 |n,s,hn=>by
  rcases N3 c s with h|⟨a,r,rfl,h⟩
  ·rw[L1 h];simp
  ·rw[E7 r h]
   cases n with
   |zero=>simp at hn
   |succ n=>
    have ih:=words_len (c:=c) n (s:=r) (by simp at hn;omega)
    refine ⟨by simp only[List.length_cons,List.length_append];omega,fun w hw=>?_⟩
    rcases List.mem_cons.1 hw with rfl|hw
    ·simp only[List.length_cons,List.length_append];omega
    ·have:=ih.2 w hw
     simp only[List.length_cons,List.length_append];omega
theorem qZ (l:List UInt8) (i j:Nat):(⟨l.toArray⟩:ByteArray).extract i j=⟨((l.drop i).take (j - i)).toArray⟩:=by
 apply ByteArray.ext
 apply Array.ext'
 rw[ByteArray.data_extract]
 simp
theorem aF4 (k:IntKind) (z:Int) (n:Nat) (h0:0≤z) (h1:z<n):x5 (.int k z) n=some z.toNat:=by
 simp only[x5];rw[if_pos ⟨h0,h1⟩]
theorem kG (k:IntKind) (z:Int) (d n:Nat) (h0:0≤z) (h1:z≤n):r6 (some (.int k z)) d n=some z.toNat:=by
 simp only[r6];rw[if_pos ⟨h0,h1⟩]
theorem Q6 (l:List UInt8) (k:IntKind) (z:Int) (h0:0≤z) (h1:z<l.length):fK (.sc (.string ⟨l.toArray⟩)) (.sc (.int k z))=some (.sc (.int .u8 (l[z.toNat]!).toNat)):=by
 simp only[fK]
 rw[aF4 _ _ _ h0 (by rw[p8];exact h1)]
 have hz:z.toNat<l.length:=by omega
 simp only[Option.bind_some,x6,List.getElem?_eq_getElem hz]
 rw[getElem!_pos l z.toNat hz]
theorem aI0 (l:List UInt8) (k j:IntKind) (a b:Int) (h0:0≤a) (h1:a≤b) (h2:b≤l.length):gX (some (.int k a)) (some (.int j b)) (.sc (.string ⟨l.toArray⟩))=some (.sc (.string ⟨((l.drop a.toNat).take (b.toNat - a.toNat)).toArray⟩)):=by
 simp only[gX]
 rw[kG _ _ _ _ (by omega) (by rw[p8];exact h2),Option.bind_some,kG _ _ _ _ h0 (by omega),Option.bind_some,qZ]
theorem pX (l:List UInt8) (j:IntKind) (b:Int) (h0:0≤b) (h2:b≤l.length):gX none (some (.int j b)) (.sc (.string ⟨l.toArray⟩))=some (.sc (.string ⟨(l.take b.toNat).toArray⟩)):=by
 simp only[gX]
 rw[kG _ _ _ _ (by omega) (by rw[p8];exact h2),Option.bind_some,show r6 none 0 b.toNat=some 0 from rfl,Option.bind_some,qZ]
 simp
theorem aX (l:List UInt8) (k:IntKind) (a:Int) (h0:0≤a) (h1:a≤l.length):gX (some (.int k a)) none (.sc (.string ⟨l.toArray⟩))=some (.sc (.string ⟨(l.drop a.toNat).toArray⟩)):=by
 simp only[gX]
 rw[show r6 none (ByteArray.mk l.toArray).size (ByteArray.mk l.toArray).size=some l.length by rw[p8];rfl,Option.bind_some,kG _ _ _ _ h0 (by omega),Option.bind_some,qZ]
 rw[List.take_of_length_le (by simp)]
theorem aH (l m:List UInt8):((⟨l.toArray⟩:ByteArray)=⟨m.toArray⟩)=(l=m):=by
 refine propext ⟨fun h=>?_,fun h=>by rw[h]⟩
 have:=congrArg (fun b:ByteArray=>b.data.toList) h
 simpa using this
theorem H0.env {E E':E2} {f:FuncId} {st:l8} {xs:List V} {v:V} (h:H0 E f st xs v) (hp:E'.pcall=E.pcall) (ho:E'.old=E.old):H0 E' f st xs v:=by
 have ha:m9 E'=m9 E:=TC ho
 intro s μ F xsI w0 hsr hx
 have hw:u5 (C1 E' s w0) ⟨st.own,st.next,st.next⟩ ⟨s.heap,s.next,s.next⟩ μ F=u5 (C1 E s w0) ⟨st.own,st.next,st.next⟩ ⟨s.heap,s.next,s.next⟩ μ F:=by
  show (⟨m9 E' s.heap,F,μ,st.next⟩:VW)=⟨m9 E s.heap,F,μ,st.next⟩
  rw[ha]
 have hsr':SR (C1 E s w0) ⟨st.own,st.next,st.next⟩ ⟨s.heap,s.next,s.next⟩ μ F:=hsr.env (C':=C1 E s w0) ha.symm rfl rfl rfl
 obtain ⟨vI,e,hv⟩:=h s μ F xsI w0 hsr' (by rw[← hw];exact hx)
 exact ⟨vI,by rw[hp];exact e,hv⟩
theorem aK6 {C:C5} {fr:D7} {own own':E4} {nx ro:Nat} (h:∀ o ob,f8 own' o=some ob→f8 own o=some ob):M3 C fr ⟨own,nx,ro⟩ fr ⟨own',nx,ro⟩:=by
 rintro s frI ⟨μ,F,h1,hf,h3,h4,h5⟩
 let μ':Nat→Option Nat:=fun o=>if (f8 own' o).isSome then μ o else none
 have hμ:∀ o b,μ' o=some b→μ o=some b∧∃ ob,f8 own' o=some ob:=fun o b e=>by
  simp only[μ'] at e
  split at e
  ·rename_i hs;exact ⟨e,Option.isSome_iff_exists.1 hs⟩
  ·cases e
 have hμ2:∀ o b ob,f8 own' o=some ob→μ o=some b→μ' o=some b:=fun o b ob e1 e2=>by
  simp only[μ',e1,Option.isSome_some,if_true];exact e2
 have hle:VW.le (u5 C ⟨own,nx,ro⟩ s μ F) (u5 C ⟨own',nx,ro⟩ s μ' F):=⟨fun _ _=>rfl,fun _ hb=>hb,Nat.le_refl _,fun o b _ e=>(hμ o b e).1⟩
 refine ⟨μ',F,⟨?_,?_,?_,?_,?_,h1.lt,h1.cl,h1.un,h1.n0,?_,h1.hb,h1.pr,?_⟩,hf.mono hle,h3.trans hle,h4,h5⟩
 ·intro o ob e hn
  obtain ⟨b,blk,m1,m2,m3⟩:=h1.obj o ob (h o ob e) hn
  exact ⟨b,blk,hμ2 o b ob e m1,m2,m3.mono hle⟩
 ·intro o ob b e e2 hz
  exact h1.wr o ob b (h o ob e) (hμ o b e2).1 hz
 ·intro o ob b e e2 hz
  exact h1.fz o ob b (h o ob e) (hμ o b e2).1 hz
 ·intro o o' b e e'
  exact h1.inj o o' b (hμ o b e).1 (hμ o' b e').1
 ·intro o b e
  obtain ⟨e1,ob,e2⟩:=hμ o b e
  obtain ⟨d1,d2,ob',d3,d4⟩:=h1.dom o b e1
  have:=h o ob e2
  rw[d3] at this
  cases this
  exact ⟨d1,d2,_,e2,d4⟩
 ·intro o ob e
  exact h1.own o ob (h o ob e)
 ·intro o b e hr
  exact h1.pb o b (hμ o b e).1 hr
section
variable {C:C5} {st:l8} {fr:D7}
theorem TI {f:FuncId} {xs:List V} {st':l8} {Q:V→l8→Prop} (hW:∀ C':C5,C'.w0.nx=st.next→M3 C' [] st [] st') (h:W2 C f xs st' Q):W2 C f xs st Q:=by
 obtain ⟨v,st2,hq,k⟩:=h
 refine ⟨v,st2,hq,fun s μ F xsI hsr hx hpr=>?_⟩
 let C':C5:=⟨C.E,s.next,s.heap,C.U,u5 C st s μ F,C.p0⟩
 have hs':SR C' st s μ F:=hsr.env2 rfl (Nat.le_refl _) (fun b=>⟨fun hb=>⟨by have:=(hsr.un b hb).1;have:=hsr.n0;show b<s.next;omega,rfl⟩,fun hb=>hb⟩)
 obtain ⟨μ1,F1,g1,_,g3,g4,g5⟩:=hW C' rfl s [] ⟨μ,F,hs',(fun i u e=>by cases e),VW.le.refl _,hpr,fun b hb=> .inl hb⟩
 have g1':SR C st' s μ1 F1:=g1.env2 rfl (by have:=hsr.n0;exact this) (fun b=>⟨fun hb=>hsr.un b hb,fun hb=>hb⟩)
 have hle:VW.le (u5 C st s μ F) (u5 C st' s μ1 F1):=g3
 obtain ⟨vI,s',μ',F',q0,q1,q2,q3,q4,q5,q6⟩:=k s μ1 F1 xsI g1' (hx.mono hle) hpr
 refine ⟨vI,s',μ',F',q0,q1,q2,hle.trans q3,q4,q5,fun b hb=>?_⟩
 rcases q6 b hb with hb|hb
 ·rcases g5 b hb with hb|hb
  ·exact .inl hb
  ·exact .inr (by rw[hpr];exact hb)
 ·exact .inr hb
end
end Go.Itp
namespace Go.Itp
open Go.Lib
set_option linter.unusedVariables false
def B0 (b:UInt8):Bool:=decide (48≤b.toNat) && decide (b.toNat≤57)
theorem dL {d:Nat} (h:d<10):B0 (UInt8.ofNat (48+d))=true∧(UInt8.ofNat (48+d)).toNat=48+d:=by
 have:(UInt8.ofNat (48+d)).toNat=48+d:=UInt8.toNat_ofNat_of_lt' (by unfold UInt8.size;omega)
 refine ⟨?_,this⟩
 simp only[B0,this,Bool.and_eq_true,decide_eq_true_eq]
 omega
theorem mQ:∀ (n u:Nat),u≤n→∀ c ∈ decDigits u,B0 c=true
 |n,u,hn,c,hc=>by
  rw[decDigits] at hc
  split at hc
  ·rw[List.mem_singleton.1 hc];exact (dL (by omega)).1
  ·rcases List.mem_append.1 hc with hc|hc
   ·cases n with
    |zero=>omega
    |succ n=>exact mQ n (u / 10) (by omega) c hc
   ·rw[List.mem_singleton.1 hc];exact (dL (by omega)).1
theorem OD {z:Int} (h:0≤z):∀ c ∈ itoa z,B0 c=true:=by
 obtain ⟨u,rfl⟩:=Int.eq_ofNat_of_zero_le h
 rw[itoa_nonneg]
 exact mQ u u (Nat.le_refl _)
theorem oI (u:Nat):decDigits u ≠ []:=by rw[decDigits];split<;>simp
theorem oT {z:Int}:itoa z ≠ []:=by unfold itoa;split;simp;exact oI _
theorem iF:∀ (l m:List UInt8) (acc:Nat),decFrom acc (l++m)=(decFrom acc l).bind fun a=>decFrom a m
 | [],m,acc=>rfl
 |b::r,m,acc=>by
  simp only[List.cons_append,decFrom]
  cases digitVal b with
  |none=>rfl
  |some d=>exact iF r m _
theorem iH {d:Nat} (h:d<10):digitVal (UInt8.ofNat (48+d))=some d:=by
 unfold digitVal
 rw[(dL h).2,if_pos (by omega)]
 congr 1
 omega
theorem U0:∀ (n u:Nat),u≤n→decFrom 0 (decDigits u)=some u
 |n,u,hn=>by
  rw[decDigits]
  split
  ·rename_i h
   simp only[decFrom,iH h]
   congr 1
   omega
  ·cases n with
   |zero=>omega
   |succ n=>
    rw[iF,U0 n (u / 10) (by omega)]
    simp only[Option.bind_some,decFrom,iH (show u % 10<10 by omega)]
    congr 1
    omega
theorem BJ {u v:Nat} (h:decDigits u=decDigits v):u=v:=by
 have h1:=U0 u u (Nat.le_refl _)
 rw[h,U0 v v (Nat.le_refl _)] at h1
 exact (Option.some.inj h1).symm
theorem OE {x y:Int} (hx:0≤x) (hy:0≤y) (h:itoa x=itoa y):x=y:=by
 obtain ⟨u,rfl⟩:=Int.eq_ofNat_of_zero_le hx
 obtain ⟨v,rfl⟩:=Int.eq_ofNat_of_zero_le hy
 rw[itoa_nonneg,itoa_nonneg] at h
 rw[BJ h]
theorem LE (u:Nat) (h:(decDigits u).length≤18):atoiAll (decDigits u)= .ok (u:Int):=by
 rw[atoiAll_short _ h]
 have hd:=mQ u u (Nat.le_refl _)
 have hf:=U0 u u (Nat.le_refl _)
 cases hw:decDigits u with
 |nil=>exact absurd hw (oI u)
 |cons b r=>
  rw[hw] at hd hf
  have hb:=hd b (by simp)
  simp only[B0,Bool.and_eq_true,decide_eq_true_eq] at hb
  have n1:¬ b=45:=by rintro rfl;simp at hb
  have n2:¬ b=43:=by rintro rfl;simp at hb
  have e1:(b==45)=false:=by simpa using n1
  have e2:(b==43)=false:=by simpa using n2
  simp only[atoi,e1,e2,decNat,List.isEmpty_cons,hf]
  rfl
theorem Y3:∀ (k u:Nat),u<10 ^ (k+1)→(decDigits u).length≤k+1
 |0,u,h=>by rw[decDigits,dif_pos (by simpa using h)];simp
 |k+1,u,h=>by
  rw[decDigits]
  split
  ·simp
  ·have:=Y3 k (u / 10) (by rw[Nat.pow_succ] at h;omega)
   simp;omega
theorem aC9 {z:Int} (h:0≤z) (h1:z<1000000000000):atoiAll (itoa z)= .ok z:=by
 obtain ⟨u,rfl⟩:=Int.eq_ofNat_of_zero_le h
 rw[itoa_nonneg]
 exact LE u (by have:=Y3 11 u (by simpa using (by omega:u<1000000000000));omega)
end Go.Itp
namespace Go.Itp
open Go.ChangeShapes Go.WideShapes Go.ChangeAt Go.RowKit
set_option linter.unusedVariables false
theorem IM {α β:Type} {g:α→List β} {q:Nat} (hq:0<q):∀ (l:List α),(∀ a ∈ l,(g a).length=q)→∀ i j,j<q→(l.flatMap g)[i*q+j]? =(l[i]?).bind fun a=>(g a)[j]?
 | [],_,i,j,_=>by simp
 |a::r,h,i,j,hj=>by
  have ha:=h a (by simp)
  rw[List.flatMap_cons]
  cases i with
  |zero=>
   rw[Nat.zero_mul,Nat.zero_add,List.getElem?_append_left (by omega)]
   simp
  |succ i=>
   have ih:=IM hq r (fun b hb=>h b (List.mem_cons_of_mem _ hb)) i j hj
   rw[Nat.succ_mul,List.getElem?_append_right (by rw[ha];omega),ha,show i*q+q+j - q=i*q+j by omega,ih]
   simp
theorem WQ {v:Value} (h:B8 v=true):HH v=v:=by
 unfold HH
 split
 ·simp[B8] at h
 ·rfl
section
variable {H:Type} {enc:TypeId × Value→H} {P:Program} {W:World} {base:Nat} {held:Bool}
theorem vO {w:World} {b:Nat} {a:Addr} {n:Nat} {cs:List Value} (h:w.cells? b a n=some cs):cs.length=n∧∀ j,j<n→w.cell? (a.add j)=cs[j]? :=by
 unfold World.cells? at h
 split at h
 case isFalse=>cases h
 refine ⟨by rw[Lib.mapM_length h,List.length_range],fun j hj=>?_⟩
 obtain ⟨c,h1,h2⟩:=Lib.mapM_at h j j (by rw[List.getElem?_eq_getElem (by simpa using hj)];simp)
 rw[h2,h1]
theorem yP {α:Type} [Inhabited α] {g:α→List Value} {q:Nat} (hq:0<q) (hg:∀ a,(g a).length=q∧∀ c ∈ g a,B8 c=true) {t e:TypeId} {fuel:Nat} {v:Value} {x:DataW H × List MemPlace} (ht:P.underlying t=some (.slice e)) (hc:P.cellsOf e=q) (hby:0<P.bytesOf e)
  (hspot:∀ a n c,v= .slice (some a) n c→a.spot=none)
  (h:DataW.trod enc P W base (fun _=>true) held fuel t [v]=some x) (hsz:∀ n ∈ x.1.weights P t,n≤reachBytes)
  (hdec:∀ (cs:List Value) (n:Nat) (y:DataW H × List MemPlace),cs.length=q→DataW.trod enc P W base (fun _=>true) held n e cs=some y→∃ a,cs=g a):
  ∃ l:List α,b7 (sI (I7 W)) (.sl 3 l.length (l.flatMap fun a=>(g a).map D.sc)) v∧r5 0 v= []∧l.length*P.bytesOf e≤reachBytes:=by
 rcases DataW.trod_slice ht h with ⟨h1,_⟩|⟨a,len,cap,elems,rest,n,rfl,h1,rfl,hb,hl,hm,hlen,hel,hsp,_⟩
 ·simp only[List.cons.injEq,and_true] at h1
  subst h1
  refine ⟨[],?_,rfl,by simp⟩
  simp only[b7,u7]
  exact .inr ⟨by omega,by trivial,by trivial,.inl (by trivial)⟩
 ·simp only[List.cons.injEq,and_true] at h1
  subst h1
  have hs:=hspot a len cap rfl
  obtain ⟨b,o,sp⟩:=a
  simp only at hs
  subst hs
  obtain ⟨hr1,hr2⟩:=hsp rfl
  have hmax:cap*P.bytesOf e≤reachBytes:=by
   have:=hsz ((elems.length+rest.length)*P.bytesOf e) (by simp[DataW.weights,ht])
   rwa [show elems.length+rest.length=cap by omega] at this
  have hcap:cap≤cap*P.bytesOf e:=Nat.le_mul_of_pos_right _ hby
  have hbig:reachBytes<v6:=by decide
  have hone:∀ i,∃ a:α,i<len→∀ j,j<q→W.cell? ⟨b,o+(i*q+j),none⟩=(g a)[j]? :=fun i=>by
   by_cases hi:i<len
   ·have:=hel i hi
    rw[hc,List.getElem?_eq_getElem (by omega)] at this
    simp only[Option.bind_eq_some_iff] at this
    obtain ⟨cs,h2,h3⟩:=this
    obtain ⟨k1,k2⟩:=vO h2
    obtain ⟨a,rfl⟩:=hdec cs n _ k1 h3
    refine ⟨a,fun _ j hj=>?_⟩
    have:=k2 j hj
    rw[← this]
    rw[add_plain,add_plain,Nat.add_assoc]
   ·exact ⟨default,fun h=>absurd h hi⟩
  let f:Nat→α:=fun i=>Classical.choose (hone i)
  have hf:∀ i,i<len→∀ j,j<q→W.cell? ⟨b,o+(i*q+j),none⟩=(g (f i))[j]? :=fun i=>Classical.choose_spec (hone i)
  let l:List α:=(List.range len).map f
  have hll:l.length=len:=by simp[l]
  let vals:List Value:=l.flatMap g
  have hvl:vals.length=len*q:=by
   have:∀ l:List α,(l.flatMap g).length=l.length*q:=fun l=>by
    induction l with
    |nil=>simp
    |cons a l ih=>rw[List.flatMap_cons,List.length_append,ih,(hg a).1,List.length_cons,Nat.succ_mul];omega
   rw[show vals.length=l.length*q from this l,hll]
  have hcell:∀ k (hk:k<vals.length),W.cell? ⟨b,o+k,none⟩=some vals[k]:=fun k hk=>by
   rw[hvl] at hk
   have hi:k / q<len:=Nat.div_lt_of_lt_mul (by rw[Nat.mul_comm];exact hk)
   have hj:k % q<q:=Nat.mod_lt _ hq
   have hkk:k / q*q+k % q=k:=by rw[Nat.mul_comm];exact Nat.div_add_mod k q
   have e1:=hf (k / q) hi (k % q) hj
   have e2:=IM (g:=g) hq l (fun a _=>(hg a).1) (k / q) (k % q) hj
   rw[hkk] at e1 e2
   have e3:l[k / q]? =some (f (k / q)):=by simp[l,hi]
   rw[e3,Option.bind_some] at e2
   rw[e1,← e2]
   exact List.getElem?_eq_getElem (by rw[hvl];exact hk)
  have hvs:∀ c ∈ vals,B8 c=true:=fun c hcm=>by
   simp only[vals,List.mem_flatMap] at hcm
   obtain ⟨a,_,ha⟩:=hcm
   exact (hg a).2 c ha
  have hmap:(l.flatMap fun a=>(g a).map D.sc)=vals.map D.sc:=by simp only[vals,List.map_flatMap]
  refine ⟨l,?_,rfl,by rw[hll];exact Nat.le_trans (Nat.mul_le_mul_right _ hl) hmax⟩
  rw[hmap,hll]
  simp only[b7,u7]
  refine .inl ⟨⟨b,o,none⟩,cap,rfl,trivial,?_,?_,by omega⟩
  ·unfold F4 w5
   rw[if_pos (by rw[Nat.blt_eq];omega)]
   exact hl
  ·have:=CX (W:=sI (I7 W)) (α:=Value) D.sc (fun v=>v) vals ⟨b,o,none⟩ (fun k hk=>?_) (fun c hcm=>by simp only[u7];exact ⟨trivial,hvs c hcm⟩)
   ·exact this
   ·have hc1:=hcell k hk
    have hsc:=hvs vals[k] (List.getElem_mem hk)
    have:=aC5 hc1 (V0 0 _ hsc) (WQ hsc)
    rw[WQ hsc] at this
    exact this
end
end Go.Itp
namespace Go.Itp
open Go.Lib
set_option linter.unusedVariables false

end Go.Itp
namespace Go.Itp
open Go.RowKit (Below)
set_option linter.unusedVariables false
set_option linter.constructorNameAsVariable false
def zX:List Value→Option (List ByteArray)
 | []=>some []
 | .string b::r=>(zX r).map (b::·)
 |_=>none
theorem zY:∀ {cs:List Value} {bs:List ByteArray},zX cs=some bs→cs=bs.map Value.string
 | [],bs,h=>by simp[zX] at h;subst h;rfl
 |c::r,bs,h=>by
  unfold zX at h
  split at h
  ·rename_i heq;cases heq
  ·rename_i heq
   simp only[List.cons.injEq] at heq
   obtain ⟨rfl,rfl⟩:=heq
   simp only[Option.map_eq_some_iff] at h
   obtain ⟨bs',h1,rfl⟩:=h
   rw[zY h1];rfl
  ·cases h
theorem GC:∀ (bs:List ByteArray),zX (bs.map Value.string)=some bs
 | []=>rfl
 |b::r=>by simp only[List.map_cons,zX,GC r,Option.map_some]
def bS3 (old:Nat→Nat→Option Value):E2:=t8 old 0 (fun _=>none) (fun _ _ _=>none) 0
def YM (bs:List ByteArray) (sep:ByteArray):List UInt8:=Lib.join (bs.map (·.data.toList)) sep.data.toList
def DU (old:Nat→Nat→Option Value) (f0:FuncId) (f:FuncId) (xs:List Value) (s:St):Option (Value × List u6):=
 if Nat.beq f f0 then (match xs with
  | [.slice a n c,.string sep]=>if Nat.beq n 0 then some (.string ⟨#[]⟩,[]) else if Nat.ble n (w5 c) && Nat.ble n r4 then
    (n7 (bS3 old) s.heap 1 n (.slice a n c)).bind fun cs=>(zX cs).bind fun bs=>if Nat.ble (YM bs sep).length 140737488355328 then some (.string ⟨(YM bs sep).toArray⟩,[]) else none
   else none
  |_=>none) else none
section
variable {P:Program} {G:v8} {μ:Mu} {s:St} {w:World}
theorem RN:∀ {bs:List ByteArray} {cs:List Value},C3 μ (bs.map Value.string)=some cs→cs=bs.map Value.string
 | [],cs,h=>by simp[C3] at h;subst h;rfl
 |b::r,cs,h=>by
  simp only[List.map_cons,C3,tr,Option.bind_some,Option.map_eq_some_iff] at h
  obtain ⟨cs',h1,rfl⟩:=h
  rw[RN h1];rfl
theorem aT1 {old:Nat→Nat→Option Value} {f0:FuncId} {w0:World} (hen:HD P f0) (hold:aM (bS3 old) w0)
  (h0:∀ (a:Option Addr) (c:Nat) (sep:ByteArray) (w:World),Calls P f0 #[.slice a 0 c,.string sep] w fun e w'=>e= .returned (.string ⟨#[]⟩)∧w'=w)
  (h1:∀ (bk o c:Nat) (xs:List ByteArray) (sep:ByteArray) (w:World) (_:∀ (j:Nat) x,xs[j]? =some x→w.cell? ⟨bk,o+j,none⟩=some (.string x))
   (_:bk<w.heap.size) (_:xs.length≤140737488355328) (_:xs.length≤c) (_:(Lib.join (xs.map (·.data.toList)) sep.data.toList).length≤140737488355328),
   Calls P f0 #[.slice (some ⟨bk,o,none⟩) xs.length c,.string sep] w fun e w'=>e= .returned (.string ⟨(Lib.join (xs.map (·.data.toList)) sep.data.toList).toArray⟩)∧Below w.heap.size w w'):R9 P (DU old f0) w0:=by
 intro f xs s v bs h G μ w cs hG hr hx
 unfold DU at h
 split at h
 case isFalse=>cases h
 rename_i hf
 have:=i6.1 hf
 subst this
 split at h
 case h_2=>cases h
 rename_i a n c sep
 simp only[C3,Option.bind_eq_some_iff,Option.map_eq_some_iff] at hx
 obtain ⟨x1,hx1,cs1,⟨x2,hx2,cs2,hcs2,rfl⟩,rfl⟩:=hx
 simp at hcs2
 subst hcs2
 have:x2= .string sep:=by simp[tr] at hx2;exact hx2.symm
 subst this
 obtain ⟨qa,k',rfl,e2,e3⟩:=D5 hx1
 split at h
 ·rename_i hn
  have:=i6.1 hn
  subst this
  simp only[Option.some.injEq,Prod.mk.injEq] at h
  obtain ⟨rfl,rfl⟩:=h
  exact cS hen hr ((h0 qa k' sep w).mono fun e w' ⟨he,hw⟩=>⟨he,hw▸Below.refl _ _⟩) rfl
 rename_i hn
 have hn:n ≠ 0:=fun e=>hn (i6.2 e)
 split at h
 case isFalse=>cases h
 rename_i hc
 rw[Bool.and_eq_true,Nat.ble_eq,Nat.ble_eq] at hc
 obtain ⟨hc,hroom⟩:=hc
 simp only[Option.bind_eq_some_iff] at h
 obtain ⟨vs,hvs,ls,hls,h⟩:=h
 split at h
 case isFalse=>cases h
 rename_i hlen
 rw[Nat.ble_eq] at hlen
 simp only[Option.some.injEq,Prod.mk.injEq] at h
 obtain ⟨rfl,rfl⟩:=h
 cases a with
 |none=>
  simp only[n7] at hvs
  rw[if_neg (fun e=>hn (i6.1 e))] at hvs
  cases hvs
 |some a=>
 simp only[n7,Nat.mul_one] at hvs
 obtain ⟨bk,o,rfl⟩:=D4 e2
 obtain ⟨cs,c1,c2,c3⟩:=hr.loadN (by rw[hG];exact hold) hvs e2
 have hvs':=zY hls
 subst hvs'
 have hcs:=RN c1
 subst hcs
 rw[List.length_map] at c2
 subst c2
 have hcell:∀ (j:Nat) x,ls[j]? =some x→w.cell? ⟨bk,o+j,none⟩=some (.string x):=fun j x hj=>by
  have:=c3 j (.string x) (by rw[List.getElem?_map,hj];rfl)
  have e:(⟨bk,o,none⟩:Addr).add j=⟨bk,o+j,none⟩:=by cases j<;>rfl
  rw[e] at this
  exact this
 have hcap:ls.length≤k':=by
  rw[D9] at hc
  obtain ⟨b,oo,sp⟩:=a
  cases sp with
  |none=>
   simp only[aP,Option.some.injEq] at e3
   subst e3
   split at hc<;>omega
  |some sp=>
   simp only[aP] at e3
   split at e3
   ·rename_i h;simp only[Option.some.injEq] at e3;subst e3;rw[if_pos h] at hc;exact hc
   ·rename_i h
    rw[if_neg h] at hc
    simp only[Option.map_eq_some_iff] at e3
    obtain ⟨l,_,rfl⟩:=e3
    omega
 have hbk:bk<w.heap.size:=by
  have:=hcell 0 ls[0]! (by rw[getElem!_pos ls 0 (by omega)];exact List.getElem?_eq_getElem (by omega))
  exact World.block_lt_of_cell? _ _ this
 exact cS hen hr (h1 bk o k' ls sep w hcell hbk (by unfold r4 at hroom;omega) hcap hlen) rfl
end
theorem KA {E E':E2} (h:E.old=E'.old) (hp:j9) (e n:Nat) (x:Value):n7 E hp e n x=n7 E' hp e n x:=by
 have hN:∀ b m o,rR E b o m=rR E' b o m:=fun b m=>by
  induction m with
  |zero=>intro o;rfl
  |succ m ih=>intro o;simp only[rR,h,ih]
 unfold n7
 split
 ·rename_i a _ _
  unfold F9
  split
  ·exact hN _ _ _
  ·rfl
  ·rfl
 all_goals rfl
def sD (x:List UInt8):D:= .sc (.string ⟨x.toArray⟩)
theorem aY4 (x:List UInt8):dv (sD x)= .sc (.string ⟨x.toArray⟩):=(rfl)
theorem RE {w:VW}:∀ {ls:List (List UInt8)} {vs:List Value},j6 w (ls.map sD) vs→vs=(ls.map fun x=>ByteArray.mk x.toArray).map Value.string
 | [],vs,h=>by simpa only[List.map_nil,j6] using h
 |x::r,vs,h=>by
  simp only[List.map_cons,j6,sD,u7] at h
  obtain ⟨v,vs',rfl,⟨rfl,_⟩,h2⟩:=h
  rw[RE h2];rfl
section
variable {old:Nat→Nat→Option Value} {rounds:Nat} {fns:FuncId→Option p7} {prims:FuncId→List Value→St→Option (Value × List u6)} {n:Nat} {f:FuncId}
theorem bG8 (ls:List (List UInt8)) (sep:List UInt8):YM (ls.map fun x=>ByteArray.mk x.toArray) ⟨sep.toArray⟩=Lib.join ls sep:=by
 unfold YM
 congr 1
 rw[List.map_map]
 exact (List.map_congr_left (fun x _=>by simp)).trans (List.map_id _)
theorem bT5 {st:l8} (s:Nat) (hs:s ≠ 1) (ls:List (List UInt8)) (sep:List UInt8) (hl:ls.length≤1099511627776) (hlen:(Lib.join ls sep).length≤140737488355328) (hp:∀ xs s r,DU old f f xs s=some r→prims f xs s=some r):
  H0 (t8 old rounds fns prims (n+1)) f st [.sl s ls.length (ls.map sD),.sc (.string ⟨sep.toArray⟩)] (.sc (.string ⟨(Lib.join ls sep).toArray⟩)):=by
 intro s1 μ F xsI w0 hsr hx
 simp only[d8] at hx
 obtain ⟨x1,_,rfl,hx1,x2,_,rfl,hx2,rfl⟩:=hx
 have hx1':=hx1
 have:=hx2.scv
 subst this
 refine ⟨.string ⟨(Lib.join ls sep).toArray⟩,?_,fun w=> .mksc rfl⟩
 have hcall:DU old f f [x1,.string ⟨sep.toArray⟩] s1=some (.string ⟨(Lib.join ls sep).toArray⟩,[]):=by
  unfold DU
  rw[if_pos (i6.2 rfl)]
  simp only[b7,u7] at hx1'
  rcases hx1' with ⟨a,c,rfl,_,hcap,_,_⟩|⟨_,h0,h1,rfl|⟨h,_⟩⟩
  ·simp only
   by_cases hn:ls.length=0
   ·rw[if_pos (i6.2 hn)]
    have:ls= []:=List.eq_nil_of_length_eq_zero hn
    subst this
    rfl
   rw[if_neg (fun e=>hn (i6.1 e))]
   rw[if_pos (by rw[Bool.and_eq_true,Nat.ble_eq,Nat.ble_eq];exact ⟨hcap,by unfold r4;exact hl⟩)]
   obtain ⟨cs,k1,k2⟩:=(V1 (e:=1) (m:=ls.length) (r:=(ls.map sD,[])) hsr.hr hx1 (by
    simp only[J8]
    rw[if_pos ⟨by simp,Nat.le_refl _⟩,Nat.mul_one,List.take_of_length_le (by simp)]) (fun m hm=>by simp only[Q7] at hm;cases hm;exact Nat.le_refl _)).plain hsr.hr rfl
   rw[KA (E':=bS3 old) (by rfl)] at k1
   rw[k1]
   have:=RE k2
   subst this
   simp only[Option.bind_some,GC,bG8]
   rw[if_pos (by rw[Nat.ble_eq];exact hlen)]
  ·simp only
   rw[if_pos (i6.2 rfl)]
   have:ls= []:=by simpa using h1
   subst this
   rfl
  ·exact absurd h hs
 rw[K4,hp _ _ _ hcall]
end
theorem m6.ofO {E:E2} {f:FuncId} {xs:List V} {v:V} (h:H0 E f ⟨[],0,0⟩ xs v):m6 E f xs v ⟨[],0,0⟩:=by
 intro s F xsI h1 h2 hx
 have hsr:SR (C1 E s (YV E s.heap F)) ⟨[],0,0⟩ ⟨s.heap,s.next,s.next⟩ (fun _=>none) F:=SR.start h1 h2
 obtain ⟨vI,e,hv⟩:=h s (fun _=>none) F xsI (YV E s.heap F) hsr hx
 exact ⟨vI,[],fun _=>none,F,e,hsr,hv _,fun b hb=> .inl hb,fun b hb=>hb,fun _=>rfl⟩
end Go.Itp
namespace Go.Itp
set_option maxRecDepth 100000
set_option linter.unusedVariables false
section
variable {old : Nat → Nat → Option Value} {fr : D7} {H : E4} {nx : Nat} {st : l8}
end
section
variable {C:C5} {st:l8} {fr:D7}
theorem aZ2 {H:E4} {o t n:Nat} {z:Bool} {l:List D} (h:f8 H o=some (.gro t 1 z l)) (hl:l.length=n):x7 H (.gr 2 o n)=some (.sl 2 n l):=by
 simp only[x7,cY,h,Nat.mul_one]
 rw[if_pos ⟨hl,by decide,by decide,by decide⟩]
 rfl
theorem FS {H:E4} {o c t n:Nat} {g z:Bool} {l:List D} (h:f8 H o=some (.row t 1 g z l)) (hl:l.length=n):x7 H (.ref o 0 n c)=some (.sl 0 n l):=by
 simp only[x7,cY,h,Nat.mul_one,Nat.zero_add,hl,Nat.le_refl,if_true,List.drop_zero,Option.map_some,dv]
 rw[List.take_of_length_le (by omega)]
end
section
variable {C:C5} {st:l8} {fr:D7}
end
section
variable {old:Nat→Nat→Option Value}
end
theorem KZ {E:E2} {h:j9} {n:Nat} {bs:List u6} {a:Addr} (ha:a.spot=none∨a.block<n):m9 E (x4 h n bs) a=m9 E h a:=by
 obtain ⟨b,o,sp⟩:=a
 rcases sp with _|_|k
 ·rfl
 ·have hb:b<n:=by simpa using ha
  simp only[m9]
  rw[w8,if_neg (by omega)]
 ·rfl
theorem m6.weak {E:E2} {f:FuncId} {xs:List V} {v v':V} {st1 st2:l8} (h:m6 E f xs v st1) (hw:∀ C:C5,C.w0.nx=0→M3 C [(0,v)] st1 [(0,v')] st2) (hfl:w7 v'=true→w7 v=true):m6 E f xs v' st2:=by
 intro s F xsI hF hb hx
 obtain ⟨vI,bs,μ,G,e,g1,g2,g3,g4,g5⟩:=h s F xsI hF hb hx
 have hle:VW.le (YV E s.heap F) (u5 (C1 E s (YV E s.heap F)) st1 ⟨x4 s.heap s.next bs,s.next+bs.length,s.next⟩ μ G):=by
  refine ⟨fun a ha=>?_,g4,Nat.zero_le _,fun o b ho e=>absurd ho (Nat.not_lt_zero _)⟩
  refine KZ ?_
  rcases aS8 ha with h1|h1
  ·exact .inl h1
  ·exact .inr (hF _ h1).1
 obtain ⟨μ',G',k1,k2,k3,k4,k5⟩:=hw (C1 E s (YV E s.heap F)) rfl ⟨x4 s.heap s.next bs,s.next+bs.length,s.next⟩ [(0,vI)] ⟨μ,G,g1,fun t u hu=>by
  by_cases ht:t=0
  ·subst ht
   have:v=u:=by simpa [f8] using hu
   subst this
   exact ⟨vI,rfl,g2⟩
  ·exfalso
   cases t with
   |zero=>exact ht rfl
   |succ t=>simp[f8] at hu,hle,rfl,g3⟩
 obtain ⟨uI,a,b⟩:=k2 0 v' rfl
 have:vI=uI:=by simpa [E8] using a
 subst this
 exact ⟨vI,bs,μ',G',e,k1,b,k5,fun b hb=>k3.F b hb,fun hf=>g5 (hfl hf)⟩
theorem m6.fin {E:E2} {f:FuncId} {xs:List V} {v v':V} {st1:l8} (h:m6 E f xs v st1) (hs:x7 st1.own v=some v') (hrow:E1 st1.ro st1.own (cT v)=true) (hro:st1.ro=0) (hren:aD [] v'=v') (hfl:w7 v'=true→w7 v=true):m6 E f xs v' ⟨[],0,0⟩:=
 h.weak (fun C h0=>(eK (t:=0) rfl hs hrow).trans (s9 [] 0 h0 hro rfl (by show yT [] [(0,v')]=_;rw[aH1,aX8,hren]) rfl)) hfl
theorem l5 {C:C5} {st:l8} {f:FuncId} {xs:List V} {v:V} {Q:V→l8→Prop} (h:m6 C.E f xs v ⟨[],0,0⟩) (hs:J7 st.own xs=some xs) (hz:Z5 xs= []) (hv:∀ k,BF k v=v) (hq:Q v st):W2 C f xs st Q:=by
 refine vN h hs (by rw[hz];rfl) rfl ?_
 rw[hz,hv,S3]
 exact hq
section
variable {C:C5} {st:l8}
theorem Z1.refl (v:V):Z1 C st v v:=fun _ _ _ _ _ h=>h
def mG (C:C5) (st:l8) (l l':List V):Prop:=∀ s μ F vs,SR C st s μ F→d8 (u5 C st s μ F) l vs→d8 (u5 C st s μ F) l' vs
theorem mG.nil:mG C st [] []:=fun _ _ _ _ _ h=>h
theorem mG.cons {a a':V} {l l':List V} (h:Z1 C st a a') (k:mG C st l l'):mG C st (a::l) (a'::l'):=fun s μ F vs hs hv=>by
 simp only[d8] at hv ⊢
 obtain ⟨u,us,rfl,h1,h2⟩:=hv
 exact ⟨u,us,rfl,h s μ F u hs h1,k s μ F us hs h2⟩
theorem zE {l l':List V} (h:mG C st l l'):Z1 C st (.agg l) (.agg l'):=fun s μ F v hs hv=>by
 rw[b7] at hv ⊢
 obtain ⟨vs,h1,h2⟩:=hv
 exact ⟨vs,h1,h s μ F vs hs h2⟩
theorem zF {l l':List V} (h:mG C st l l'):Z1 C st (.tup l) (.tup l'):=fun s μ F v hs hv=>by
 rw[b7] at hv ⊢
 obtain ⟨vs,h1,h2⟩:=hv
 exact ⟨vs,h1,h s μ F vs hs h2⟩
end
theorem m6.same {E:E2} {f:FuncId} {xs:List V} {v v':V} {st1:l8} (h:m6 E f xs v st1) (hv:∀ C:C5,Z1 C st1 v v') (hfl:w7 v'=true→w7 v=true):m6 E f xs v' st1:=
 h.weak (fun C _=>M2 (t:=0) (v:=v) (v':=v') rfl (hv C)) hfl
section
variable {C:C5} {st:l8} {fr:D7}
theorem aK7 {v:V} {x y:Value} {s n:Nat} {l:List D} (hs:x7 st.own v=some (.sl s n l)) (hrow:E1 st.ro st.own (cT v)=true) (hk:s ≠ 1∨n ≠ 0) (h0:C.w0.nx=0) (hro:st.ro=0):M3 C [(0,.tup [v,.sc x,.sc y])] st [(0,.tup [.sl 3 n l,.sc x,.sc y])] ⟨[],0,0⟩:=by
 have e1:cT (.tup [v,.sc x,.sc y])=cT v:=by simp[cT,Z5]
 have e2:x7 st.own (.tup [v,.sc x,.sc y])=some (.tup [.sl s n l,.sc x,.sc y]):=by simp[x7,J7,hs]
 refine (eK (t:=0) (v:= .tup [v,.sc x,.sc y]) rfl e2 (by rw[e1];exact hrow)).trans ?_
 refine (M2 (t:=0) (v:= .tup [.sl s n l,.sc x,.sc y]) (v':= .tup [.sl 3 n l,.sc x,.sc y]) rfl (FM (pV hk) (fun _ _ _ _ _ h=>h))).trans ?_
 exact s9 [] 0 h0 hro rfl rfl rfl
theorem gE {x y:Value} (h0:C.w0.nx=0) (hro:st.ro=0):M3 C [(0,.tup [.sc (.slice none 0 0),.sc x,.sc y])] st [(0,.tup [.sl 3 0 [],.sc x,.sc y])] ⟨[],0,0⟩:=
 (M2 (t:=0) (v:= .tup [.sc (.slice none 0 0),.sc x,.sc y]) (v':= .tup [.sl 3 0 [],.sc x,.sc y]) rfl (FM kZ (fun _ _ _ _ _ h=>h))).trans (s9 [] 0 h0 hro rfl rfl rfl)
theorem VT {n:Nat} {l:List D} {x y:Value}:bM [] (.tup [.sl 3 n l,.sc x,.sc y]):=eC (by simp only[Cl,HB,and_true];rfl)
end
end Go.Itp
namespace Go.Itp
open Go Go.ChangeShapes
set_option linter.unusedVariables false
section
variable {H:Type} {enc:TypeId × Value→H} {P:Program} {W:World} {base:Nat} {held:Bool}
theorem wf8 {z:Int} (h:(Lit.int .u8 z).wf=true):0≤z∧z<256:=by
 simp[Lit.wf,IntKind.min,IntKind.max,IntKind.signed,IntKind.bits] at h
 omega
end
section
variable {H:Type} {enc:TypeId × Value→H} {P:Program} {W:World} {base:Nat} {held:Bool}
theorem aO9 {e:TypeId} {f0 f1 f2 f3:Field} (he:P.underlying e=some (.struct #[f0,f1,f2,f3])) (o0:f0.offset=0) (o1:f1.offset=1) (o2:f2.offset=2) (o3:f3.offset=3)
  (c0:P.cellsOf f0.type=1) (c1:P.cellsOf f1.type=1) (c2:P.cellsOf f2.type=1) (c3:P.cellsOf f3.type=1)
  (cs:List Value) (n:Nat) (y:DataW H × List MemPlace) (hl:cs.length=4) (h:DataW.trod enc P W base (fun _=>true) held n e cs=some y):
  ∃ (m:Nat) (a0 a1 a2 a3:Value),cs= [a0,a1,a2,a3]∧(∃ y,DataW.trod enc P W base (fun _=>true) held m f0.type [a0]=some y)∧(∃ y,DataW.trod enc P W base (fun _=>true) held m f1.type [a1]=some y)∧(∃ y,DataW.trod enc P W base (fun _=>true) held m f2.type [a2]=some y)∧
   ∃ y,DataW.trod enc P W base (fun _=>true) held m f3.type [a3]=some y:=by
 obtain ⟨a0,a1,a2,a3,rfl⟩:∃ a0 a1 a2 a3,cs= [a0,a1,a2,a3]:=by
  rcases cs with _|⟨a0,_|⟨a1,_|⟨a2,_|⟨a3,_|⟨a4,r⟩⟩⟩⟩⟩<;>simp at hl
  exact ⟨a0,a1,a2,a3,rfl⟩
 cases n with
 |zero=>simp[DataW.trod] at h
 |succ n=>
  unfold DataW.trod at h
  simp only[he] at h
  split at h
  case isFalse=>cases h
  simp only[Option.map_eq_some_iff,List.mapM_cons,List.mapM_nil] at h
  obtain ⟨xs,hx,hd⟩:=h
  simp only[o0,o1,o2,o3,c0,c1,c2,c3,List.drop_zero,List.drop_succ_cons,List.take_succ_cons,List.take_zero] at hx
  refine ⟨n,a0,a1,a2,a3,rfl,?_⟩
  cases h0:DataW.trod enc P W base (fun _=>true) held n f0.type [a0] with
  |none=>simp[h0] at hx
  |some y0=>
  cases h1:DataW.trod enc P W base (fun _=>true) held n f1.type [a1] with
  |none=>simp[h0,h1] at hx
  |some y1=>
  cases h2:DataW.trod enc P W base (fun _=>true) held n f2.type [a2] with
  |none=>simp[h0,h1,h2] at hx
  |some y2=>
  cases h3:DataW.trod enc P W base (fun _=>true) held n f3.type [a3] with
  |none=>simp[h0,h1,h2,h3] at hx
  |some y3=>exact ⟨⟨_,rfl⟩,⟨_,rfl⟩,⟨_,rfl⟩,⟨_,rfl⟩⟩
end
theorem aE8 {H:Type} {enc:TypeId × Value→H} {a:Assume} {C:Checked} {os:Os} {f:FuncId} {fn:Func} {s:ChangeSpec} {conds:List PathCond} {apart fresh handsOn again:Bool} {X:World→Array Value→Prop}
  (hX:∀ (w w':World) (args:Array Value),w.heap=w'.heap→X w args→X w' args)
  (own:ownKnob C.prog.godebug=none) (started:os.Started) (noInit:C.prog.inits.idxOf? f=none) (hfn:C.prog.funcs[f]? =some fn)
  (witness:∃ (w:World) (tape:Tape) (i:Input),w.os=os∧(w.forCall tape i).Shaped C.prog∧i.vars= []∧Input.okWide C.prog (w.forCall tape i) .any w.heap.size f i∧
   ((s.pre enc C.prog fn conds apart (w.forCall tape i).memory i.args∧X (w.forCall tape i).memory i.args)∧sizedMet enc C.prog fn (OpenSpec.ofChange s) apart (w.forCall tape i).memory i.args)∧a.holds C.prog (lone (Frame.enter C.prog f i.args .normal) [] (w.forCall tape i)))
  (contract:∀ (W:World) (base:Nat) (args:Array Value) (ds gs:List (DataW H)) (before:List MemPlace),
   (∀ (j:Nat) t v,fn.params[j]? =some t→args[j]? =some v→Value.okWide C.prog W .any base t v)→
   DataW.Whole enc C.prog fn.params.toList s.vars apart W args.toList ds gs before→
   (DataW.weightsEach C.prog (fn.params.toList++s.plain.varTypes C.prog) (ds++gs)).all (· ≤reachBytes)=true→X W args→W.ShapedOpen C.prog→
   Calls C.prog f args W fun e W'=>∃ v,e= .returned v∧s.post enc C.prog fn apart fresh handsOn again W args v W'):
  ReturnsInHanded a C os f .any (fun w args=>(s.pre enc C.prog fn conds apart w args∧X w args)∧sizedMet enc C.prog fn (OpenSpec.ofChange s) apart w args) (s.post enc C.prog fn apart fresh handsOn again):=by
 refine returnsInHanded_of_calls own started noInit witness ?_
 intro w tape i _ hsh _ hok hpre hholds
 obtain ⟨_,_,_,fn',hfn',_,_,_,_,hval⟩:=hok
 have e:fn'=fn:=Option.some.inj (hfn'.symm.trans hfn)
 subst e
 obtain ⟨⟨⟨ds,gs,before,hw,_⟩,hx⟩,hz⟩:=hpre
 have hw':=DataW.Whole.of_heap (w':=w.forCall tape i) (by rfl) hw
 refine (contract (w.forCall tape i) w.heap.size i.args ds gs before hval hw' (hz.weights hw) (hX _ _ _ (by rfl) hx) hsh).mono fun e W' ⟨v,he,hp⟩=>?_
 subst he
 exact ChangeSpec.post_blind hp
end Go.Itp
namespace Go.Itp
theorem EI {P:Program} {W:World} {t:TypeId} {fs:Array Field} {b:Nat} {l:List Value} {i:Nat} {c:Value} (ht:P.underlying t=some (.struct fs)) (hv:Value.okWide P W .any b t (.agg l.toArray)) (hc:l[i]? =some c):∃ u,Cell.okWide P W .any b u c:=by
 unfold Value.okWide at hv
 rw[ht] at hv
 obtain ⟨cs,e,hcs,ts,_,_,hrow⟩:=hv
 cases e
 obtain ⟨u,_,hu⟩:=hrow i c (by simpa using hc)
 exact ⟨u,hu⟩
end Go.Itp
namespace Go.Itp
open Go.ChangeShapes Go.WideShapes Go.ChangeAt Go.RowKit
set_option linter.unusedVariables false
theorem ML {w:VW}:∀ (L:List D) (a:Addr),(∀ k d,L[k]? =some d→∃ v,w.ld (y4 a k)=some v∧u7 w d v)→v7 w L a
 | [],a,_=>by simp only[v7]
 |d::r,a,h=>by
  simp only[v7]
  refine ⟨?_,ML r _ fun k d' hk=>?_⟩
  ·have:=h 0 d rfl
   simpa [y4] using this
  ·have:=h (k+1) d' hk
   rw[show y4 (y4 a 1) k=y4 a (k+1) from by simp only[y4,Nat.add_assoc,Nat.add_comm 1 k]]
   exact this
theorem aP2 {w:VW} {n:Nat} {l:List D} {v:Value} (h:u7 w (.sl 3 n l) v):u7 w (.sl 1 n l) v:=by
 simp only[u7] at h ⊢
 rcases h with ⟨a,c,e,i,k,r,_⟩|⟨_,h2,h3,h4|⟨h4,_⟩⟩
 ·exact .inl ⟨a,c,e,i,k,r,fun h=>by omega⟩
 ·exact .inr ⟨by omega,h2,h3,.inl h4⟩
 ·omega
section
variable {H:Type} {enc:TypeId × Value→H} {P:Program} {W:World} {base:Nat} {held:Bool}
theorem aX4 {α:Type} [Inhabited α] {g:α→List Value} {q:Nat} (hq:0<q) (hg:∀ a,(g a).length=q∧∀ c ∈ g a,B8 c=true) {t e:TypeId} {fuel:Nat} {v:Value} {x:DataW H × List MemPlace} (ht:P.underlying t=some (.slice e)) (hc:P.cellsOf e=q) (hby:0<P.bytesOf e)
  (h:DataW.trod enc P W base (fun _=>true) held fuel t [v]=some x) (hsz:∀ n ∈ x.1.weights P t,n≤reachBytes)
  (hdec:∀ (cs:List Value) (n:Nat) (y:DataW H × List MemPlace),cs.length=q→DataW.trod enc P W base (fun _=>true) held n e cs=some y→∃ a,cs=g a) {b o:Nat} (hcell:W.cell? ⟨b,o,none⟩=some v):
  ∃ (l:List α) (u:Value),I7 W b o=some u∧u7 (sI (I7 W)) (.sl 1 l.length (l.flatMap fun a=>(g a).map D.sc)) u∧l.length*P.bytesOf e≤reachBytes:=by
 by_cases hspot:∀ a n c,v= .slice (some a) n c→a.spot=none
 ·obtain ⟨l,h1,h2,h3⟩:=yP hq hg ht hc hby hspot h hsz hdec
  exact ⟨l,v,nB hcell h2,aP2 (by simpa only[b7] using h1),h3⟩
 ·rcases DataW.trod_slice ht h with ⟨h1,_⟩|⟨a,len,cap,elems,rest,n,rfl,h1,rfl,hb,hl,hm,hlen,hel,hsp,_⟩
  ·simp only[List.cons.injEq,and_true] at h1
   subst h1
   exact absurd (fun a n c e=>by cases e) hspot
  ·simp only[List.cons.injEq,and_true] at h1
   subst h1
   obtain ⟨hr1,hr2⟩:=hsp rfl
   obtain ⟨b',o',sp⟩:=a
   cases sp with
   |none=>exact absurd (fun a n c e=>by cases e;rfl) hspot
   |some s=>
    by_cases hz:cap=0
    ·have hl0:len=0:=by omega
     subst hz hl0
     refine ⟨[],_,aG3 hcell,?_,by simp⟩
     simp only[u7]
     exact .inr ⟨by decide,by trivial,by trivial,.inr ⟨by trivial,_,_,_,rfl⟩⟩
    ·exfalso
     have hcell0:∃ c,W.cell? (⟨b',o',some s⟩:Addr)=some c:=by
      have go:∀ cs,W.cells? base ((⟨b',o',some s⟩:Addr).add (0*q)) q=some cs→∃ c,W.cell? (⟨b',o',some s⟩:Addr)=some c:=fun cs h6=>by
       obtain ⟨k1,k2⟩:=vO h6
       have:=k2 0 hq
       rw[List.getElem?_eq_getElem (by omega)] at this
       rw[Nat.zero_mul] at this
       exact ⟨_,this⟩
      by_cases h0:0<len
      ·have:=hel 0 h0
       rw[hc,List.getElem?_eq_getElem (by omega)] at this
       simp only[Option.bind_eq_some_iff] at this
       obtain ⟨cs,h6,_⟩:=this
       exact go cs h6
      ·have:=hr2 0 (by omega)
       rw[hc,List.getElem?_eq_getElem (by omega),show len+0=0 by omega] at this
       simp only[Option.bind_eq_some_iff] at this
       obtain ⟨cs,h6,_⟩:=this
       exact go cs h6
     obtain ⟨c,hcell0⟩:=hcell0
     simp only[World.cell?] at hcell0
     split at hcell0
     ·simp at hcell0
     ·cases hcell0
theorem PV {α:Type} [Inhabited α] {g:α→List D} {q:Nat} {Pr:α→Prop} (hq:0<q) (hg:∀ a,(g a).length=q) {t e:TypeId} {fuel:Nat} {v:Value} {x:DataW H × List MemPlace} (ht:P.underlying t=some (.slice e)) (hc:P.cellsOf e=q) (hby:0<P.bytesOf e)
  (hspot:∀ a n c,v= .slice (some a) n c→a.spot=none)
  (h:DataW.trod enc P W base (fun _=>true) held fuel t [v]=some x) (hsz:∀ n ∈ x.1.weights P t,n≤reachBytes)
  (hdec:∀ (cs:List Value) (n:Nat) (y:DataW H × List MemPlace),cs.length=q→DataW.trod enc P W base (fun _=>true) held n e cs=some y→(∀ m ∈ y.1.weights P e,m≤reachBytes)→∀ b o,(∀ j,j<q→W.cell? ⟨b,o+j,none⟩=cs[j]?)→
   ∃ a,Pr a∧∀ j,j<q→∃ d u,(g a)[j]? =some d∧I7 W b (o+j)=some u∧u7 (sI (I7 W)) d u):
  ∃ l:List α,b7 (sI (I7 W)) (.sl 3 l.length (l.flatMap g)) v∧r5 0 v= []∧l.length*P.bytesOf e≤reachBytes∧∀ a ∈ l,Pr a:=by
 rcases DataW.trod_slice ht h with ⟨h1,_⟩|⟨a,len,cap,elems,rest,n,rfl,h1,rfl,hb,hl,hm,hlen,hel,hsp,_⟩
 ·simp only[List.cons.injEq,and_true] at h1
  subst h1
  refine ⟨[],?_,rfl,by simp,fun a ha=>by cases ha⟩
  simp only[b7,u7]
  exact .inr ⟨by omega,by trivial,by trivial,.inl (by trivial)⟩
 ·simp only[List.cons.injEq,and_true] at h1
  subst h1
  have hs:=hspot a len cap rfl
  obtain ⟨b,o,sp⟩:=a
  simp only at hs
  subst hs
  obtain ⟨hr1,hr2⟩:=hsp rfl
  have hmax:cap*P.bytesOf e≤reachBytes:=by
   have:=hsz ((elems.length+rest.length)*P.bytesOf e) (by simp[DataW.weights,ht])
   rwa [show elems.length+rest.length=cap by omega] at this
  have hcap:cap≤cap*P.bytesOf e:=Nat.le_mul_of_pos_right _ hby
  have hbig:reachBytes<v6:=by decide
  have hwt:∀ y ∈ elems,∀ m ∈ y.1.weights P e,m≤reachBytes:=fun y hmem m hm'=>hsz m (by
   simp only[DataW.weights,ht,List.mem_cons,List.mem_append]
   right;left
   clear hsz
   have:∀ l:List (DataW H × List MemPlace),y ∈ l→m ∈ DataW.weightsAll P e (l.map (·.1)):=by
    intro l
    induction l with
    |nil=>intro h;cases h
    |cons z l ih=>
     intro hz'
     simp only[List.map_cons,DataW.weightsAll,List.mem_append]
     rcases List.mem_cons.1 hz' with rfl|hz'
     ·exact Or.inl hm'
     ·exact Or.inr (ih hz')
   exact this elems hmem)
  have hone:∀ i,∃ a:α,i<len→Pr a∧∀ j,j<q→∃ d u,(g a)[j]? =some d∧I7 W b (o+(i*q+j))=some u∧u7 (sI (I7 W)) d u:=fun i=>by
   by_cases hi:i<len
   ·have:=hel i hi
    rw[hc,List.getElem?_eq_getElem (by omega)] at this
    simp only[Option.bind_eq_some_iff] at this
    obtain ⟨cs,h2,h3⟩:=this
    obtain ⟨k1,k2⟩:=vO h2
    obtain ⟨a,ha,hj⟩:=hdec cs n _ k1 h3 (hwt _ (List.getElem_mem _)) b (o+i*q) fun j hj=>by
     have:=k2 j hj
     rw[← this,add_plain,add_plain]
    refine ⟨a,fun _=>⟨ha,fun j hjq=>?_⟩⟩
    have:=hj j hjq
    rwa [Nat.add_assoc] at this
   ·exact ⟨default,fun h=>absurd h hi⟩
  let f:Nat→α:=fun i=>Classical.choose (hone i)
  have hf:∀ i,i<len→Pr (f i)∧∀ j,j<q→∃ d u,(g (f i))[j]? =some d∧I7 W b (o+(i*q+j))=some u∧u7 (sI (I7 W)) d u:=fun i=>Classical.choose_spec (hone i)
  let l:List α:=(List.range len).map f
  have hll:l.length=len:=by simp[l]
  refine ⟨l,?_,rfl,by rw[hll];exact Nat.le_trans (Nat.mul_le_mul_right _ hl) hmax,fun a ha=>?_⟩
  ·rw[hll]
   simp only[b7,u7]
   refine .inl ⟨⟨b,o,none⟩,cap,rfl,trivial,?_,?_,by omega⟩
   ·unfold F4 w5
    rw[if_pos (by rw[Nat.blt_eq];omega)]
    exact hl
   ·refine ML _ _ fun k d hk=>?_
    have hvl:(l.flatMap g).length=len*q:=by
     have:∀ l:List α,(l.flatMap g).length=l.length*q:=fun l=>by
      induction l with
      |nil=>simp
      |cons a l ih=>rw[List.flatMap_cons,List.length_append,ih,hg a,List.length_cons,Nat.succ_mul];omega
     rw[this l,hll]
    have hkl:k<len*q:=by
     rw[← hvl]
     exact (List.getElem?_eq_some_iff.1 hk).1
    have hi:k / q<len:=Nat.div_lt_of_lt_mul (by rw[Nat.mul_comm];exact hkl)
    have hj:k % q<q:=Nat.mod_lt _ hq
    have hkk:k / q*q+k % q=k:=by rw[Nat.mul_comm];exact Nat.div_add_mod k q
    obtain ⟨d',u,e1,e2,e3⟩:=(hf (k / q) hi).2 (k % q) hj
    have e4:=IM (g:=g) hq l (fun a _=>hg a) (k / q) (k % q) hj
    rw[hkk] at e2 e4
    have e5:l[k / q]? =some (f (k / q)):=by simp[l,hi]
    rw[e5,Option.bind_some,e1,hk] at e4
    cases e4
    exact ⟨u,e2,e3⟩
  ·simp only[l,List.mem_map,List.mem_range] at ha
   obtain ⟨i,hi,rfl⟩:=ha
   exact (hf i hi).1
end
end Go.Itp
