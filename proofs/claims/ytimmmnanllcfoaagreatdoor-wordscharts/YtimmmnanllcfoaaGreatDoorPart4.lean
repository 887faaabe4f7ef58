/- What is proved: the law WordsCharts returns true for every input. Conditions: none beyond the card's own.
   Texts: V20, V21, Shell, Shell2, Shell3, V22, V23, V30, SP, V31, V24, V25, V26, VV, V52, V27, V28, V32, V33, V29, V40, V34, V35, V36, V41, V37, V38, V39, V42, V43, V44, V45, V46, V47, V51, V50, V53, V54, V56.
-/
import Derived.Test.YtimmmnanllcfoaaGreatDoorPart3
import Derived.ChangeSame
import Derived.ChangeReads
import Derived.ChangeSlices
import Derived.SliceStrings
import Derived.ChangeShapes
import Derived.WideShapes
import Derived.ProofKit
import Derived.OpenShut
import Derived.SizedLaws
import Derived.WalkSmall
import Derived.Lib.LaidTab
import Derived.Sort.Grow
import Derived.Shelf.Strconv.Itoa3
import Derived.Lib.AtoiAll
import Derived.Lib.AtoiErrMem
import Derived.Lib.Replace
import Derived.Lib.ItoaNum
import Derived.Lib.Atoi
import Derived.Lib.AtoiTie
import Derived.Lib.Join
import Derived.HandedShaped
import Derived.Shelf.Vars
namespace Go.Itp
theorem bd {a b:Bool} (h:a=b):a=b:=h
theorem f6 {a b:Bool} (h:a=b:=by with_unfolding_all rfl):a=b:=h
set_option linter.unusedVariables false
set_option linter.constructorNameAsVariable false
section
variable {C:D0} {st:l9} {fr:E0}
theorem L3 (t ty e:Nat) (h:f7 fr t=some (.sc (.slice none 0 0))):M9 C fr st (qO fr t (.gr 2 st.next 0)) ⟨(st.next,.gro ty e false [])::st.own,st.next+1,st.ro⟩:=
 (SJ fr ty e).trans (M3 h (QK (t:=ty) (e:=e) (z:=false) (Nat.lt_succ_self _)))
theorem gQ (o t' e' k ty e:Nat) {l:List V} (h:f7 st.own o=some (.box t' e' l)) (hk:l[k]? =some (.sc (.slice none 0 0))) (ho:o ≠ st.next):
  M9 C fr st fr ⟨A9 ((st.next,.gro ty e false [])::st.own) o (.box t' e' (l.set k (.gr 2 st.next 0))),st.next+1,st.ro⟩:=by
 refine (SJ fr ty e).trans (GV (C:=C) (fr:=fr) (st:=⟨(st.next,.gro ty e false [])::st.own,st.next+1,st.ro⟩) (v:= .sc (.slice none 0 0)) (v':= .gr 2 st.next 0) ?_ hk (QK (t:=ty) (e:=e) (z:=false) (Nat.lt_succ_self _)))
 simp only
 rw[j9,if_neg ho]
 exact h
theorem p9 (ρ:List (Nat × Nat)) (k:Nat) {fr':E0} {st':l9} (h0:C.w0.nx=0) (hr:st.ro=0) (hk:OR 0 0 k ρ=true) (hf:yX ρ fr=fr') (hs:(⟨BV ρ st.own ρ,k,0⟩:l9)=st'):M9 C fr st fr' st':=by
 have:=SK (C:=C) (st:=st) ρ k (fr:=fr) (by omega) (by rw[h0,hr];exact hk)
 rw[hr,hs,hf] at this
 exact this
theorem aW6 (ρ:List (Nat × Nat)):yX ρ []= []:=(rfl)
theorem aG8 (ρ:List (Nat × Nat)) (t:Nat) (v:V) (r:E0):yX ρ ((t,v)::r)=(t,aD ρ v)::yX ρ r:=(rfl)
end
theorem k8.at {E:E6} {f:FuncId} {xs:List V} {v:V} {st1:l9} (h:k8 E f xs v st1) (hf:w7 v=true) (st:l9) (hs:J7 st.own xs=some xs):H1 E f st xs v:=h.flat hf hs
theorem k8.of {C:D0} {E:E6} (hC:C.E=E) {f:FuncId} {xs:List V} {v:V} {st1:l9} (h:k8 E f xs v st1) (hf:w7 v=true) (st:l9) (hs:J7 st.own xs=some xs):H1 C.E f st xs v:=by
 rw[hC];exact h.flat hf hs
theorem VH {H:E7} {v:V} (hcl:Cl H v) (hb:∀ o ob,f7 H o=some ob→(match ob with| .box _ _ _=>false|_=>true)=true) (hv:∀ o ob,f7 H o=some ob→o ∈ aL v):bM H v:=
 ⟨hcl,(fun o t e l h=>by have:=hb o _ h;cases this),(fun o ob h _=>VR.root o (hv o ob h))⟩
theorem eD {v:V} (hcl:Cl [] v):bM [] v:=⟨hcl,(fun o t e l h=>by cases h),(fun o ob h=>by cases h)⟩
theorem OL {α β:Type} {f:α→β} {l:List α} {n:Nat} (h:n=l.length):n=0↔l.map f= []:=by
 subst h
 cases l<;>simp
theorem KY {α:Type} {i o:Nat} {v u:α} (h:f7 [(i,v)] o=some u):o=i∧u=v:=by
 rw[j9] at h
 split at h
 ·rename_i e;cases h;exact ⟨e,rfl⟩
 ·cases h
theorem aX0 {t e n s:Nat} {z:Bool} {l:List D} (h:n=0↔l= []):bM [(0,.gro t e z l)] (.gr s 0 n):=by
 refine VH ?_ (fun o ob ho=>by rw[(KY ho).2]) (fun o ob ho=>by rw[(KY ho).1];simp[aL])
 simp only[Cl]
 exact ⟨t,e,z,l,rfl,h⟩
end Go.Itp
namespace Go.Itp
set_option linter.unusedVariables false
set_option linter.constructorNameAsVariable false
def xK (s:Nat):Nat:=if Nat.beq s 0 then 0 else 3
theorem YI:xK 0=0:=(rfl)
theorem YL:xK 3=3:=(rfl)
theorem YK:xK 2=3:=(rfl)
theorem YJ:xK 1=3:=(rfl)
theorem HN (k:IntKind) (z:Int) (d n:Nat) (h0:0≤z) (h1:z≤n):r7 (some (.int k z)) d n=some z.toNat:=by
 simp only[r7]
 rw[if_pos ⟨h0,h1⟩]
theorem GT (e s n:Nat) (l:List D) (k j:IntKind) (a b:Int) (h0:0≤a) (h1:a≤b) (h2:b≤n) (h4:s ≠ 1∨n ≠ 0):aE e (some (.int k a)) (some (.int j b)) none (.sl s n l)=some (.sl (xK s) (b.toNat - a.toNat) (partD l (a.toNat*e) (b.toNat*e))):=by
 simp only[aE]
 rw[if_pos (aH.2 h4)]
 simp only[sB,HN j b n n (by omega) h2,Option.bind_some,HN k a 0 b.toNat h0 (by omega)]
 rfl
theorem aA9 (e s n:Nat) (l:List D) (k:IntKind) (a:Int) (h0:0≤a) (h1:a≤n) (h4:s ≠ 1∨n ≠ 0):aE e (some (.int k a)) none none (.sl s n l)=some (.sl (xK s) (n - a.toNat) (partD l (a.toNat*e) (n*e))):=by
 simp only[aE]
 rw[if_pos (aH.2 h4)]
 have h5:sB n (some (.int k a)) none=some (a.toNat,n):=by
  have h6:r7 none n n=some n:=rfl
  simp only[sB,h6,HN k a 0 n h0 h1,Option.bind_some]
 rw[h5]
 rfl
theorem aA8 (e s n:Nat) (l:List D) (j:IntKind) (b:Int) (h1:0≤b) (h2:b≤n) (h4:s ≠ 1∨n ≠ 0):aE e none (some (.int j b)) none (.sl s n l)=some (.sl (xK s) b.toNat (partD l 0 (b.toNat*e))):=by
 simp only[aE]
 rw[if_pos (aH.2 h4)]
 have h5:sB n none (some (.int j b))=some (0,b.toNat):=by
  simp only[sB,HN j b n n h1 h2,Option.bind_some]
  rfl
 rw[h5]
 simp only[Option.map_some,Nat.zero_mul,Nat.sub_zero]
 rfl
theorem EJ {α:Type} (f:α→D) (l:List α) (a b:Nat):partD (l.map f) a b=((l.drop a).take (b - a)).map f:=by
 simp[partD,List.map_drop,List.map_take]
theorem fP (k j:IntKind) (a b:Int):mmV true (.sc (.int k a)) (.sc (.int j b))=some (.sc (.int k (max a b))):=by
 have h:(if b>a then b else a)=max a b:=by omega
 simp only[mmV,if_true,h]
theorem uQ (k j:IntKind) (a b:Int):mmV false (.sc (.int k a)) (.sc (.int j b))=some (.sc (.int k (min a b))):=by
 have h:(if b<a then b else a)=min a b:=by omega
 simp only[mmV,Bool.false_eq_true,if_false,h]
end Go.Itp
namespace Go.Itp
open Go.RowKit (Below)
open Go.ChangeShapes Go.WideShapes
def tF (P:Program):Nat→TypeId→Bool
 |0,_=>false
 |k+1,t=>match P.underlying t with
  |some .bool=>true
  |some (.int _)=>true
  |some .string=>true
  |some (.slice e)=> !(P.cellsOf e==0) && tF P k e
  |some (.struct fs)=>fs.toList.all fun f=>tF P k f.type
  |some (.array _ e)=>tF P k e
  |_=>false
section
variable {H:Type} {enc:TypeId × Value→H} {P:Program} {w:World} {base:Nat} {held:Bool} {sp:Nat→Bool}
theorem aA0:∀ (k n:Nat) (t:TypeId) (cs:List Value) (x:DataW H × List MemPlace),tF P k t=true→DataW.trod enc P w base (fun _=>true) held n t cs=some x→(∀ p ∈ x.2,sp p.block=true)→
  DataW.trod enc P w base sp held n t cs=some x
 |0,_,_,_,_,h,_,_=>by simp[tF] at h
 |k+1,0,_,_,_,_,h,_=>by simp[DataW.trod] at h
 |k+1,n+1,t,cs,x,hf,h,hs=>by
  have ih:=fun t cs x=>aA0 k n t cs x
  rw[DataW.trod_step] at h ⊢
  unfold DataW.trodStep at h ⊢
  unfold tF at hf
  split at h
  case h_8 e a len cap hu=>
   rw[hu] at hf
   simp only[Bool.and_eq_true,Bool.not_eq_true',beq_eq_false_iff_ne] at hf
   simp only at h ⊢
   split at h
   ·rename_i hc
    rw[if_pos hc]
    simp only[Option.map_eq_some_iff,Option.bind_eq_some_iff,if_true] at h ⊢
    obtain ⟨elems,he,rest,hrest,rfl⟩:=h
    have hl1:elems.length=len:=by simpa using mapM_some_length he
    have hl2:rest.length=cap - len:=by simpa using mapM_some_length hrest
    have one:∀ (a:Addr) (y:DataW H × List MemPlace),y ∈ elems++rest→(w.cells? base a (P.cellsOf e)).bind (DataW.trod enc P w base (fun _=>true) held n e)=some y→
      (w.cells? base a (P.cellsOf e)).bind (DataW.trod enc P w base sp held n e)=some y:=by
     intro a y hy hv
     simp only[Option.bind_eq_some_iff] at hv ⊢
     obtain ⟨c,hc1,hc2⟩:=hv
     exact ⟨c,hc1,ih _ _ _ hf.2 hc2 fun p hp=>hs p (by simp only[List.mem_append,List.mem_flatMap];exact Or.inr ⟨y,by simpa using hy,hp⟩)⟩
    refine ⟨elems,mapM_carry he fun i y _ hy hv=>one _ y (by simp[hy]) hv,rest,?_,rfl⟩
    by_cases hz:elems.length+rest.length=0
    ·have:rest= []:=List.length_eq_zero_iff.1 (by omega)
     subst this
     have:cap - len=0:=by simpa using hl2.symm
     rw[this]
     split<;>simp
    ·have hb:sp a.block=true:=by
      have:=hs (.cell a.block (a.off+0)) (by
       simp only[List.mem_append]
       left
       refine MemPlace.mem_row.2 ⟨0,?_,rfl⟩
       exact Nat.mul_pos (by omega) (Nat.pos_of_ne_zero hf.1))
      simpa [MemPlace.block] using this
     rw[if_pos hb]
     exact mapM_carry hrest fun j y _ hy hv=>one _ y (by simp[hy]) hv
   ·cases h
  case h_9 fs hu=>
   rw[hu] at hf
   simp only[List.all_eq_true] at hf
   split at h
   ·rename_i hc
    rw[if_pos hc]
    simp only[Option.map_eq_some_iff] at h ⊢
    obtain ⟨xs,hx,rfl⟩:=h
    exact ⟨xs,mapM_carry hx (fun f y hfm hy hv=>ih _ _ _ (hf f hfm) hv (fun p hp=>hs p (List.mem_flatMap.2 ⟨y,hy,hp⟩))),rfl⟩
   ·cases h
  case h_10 m e hu=>
   rw[hu] at hf
   split at h
   ·rename_i hc
    rw[if_pos hc]
    simp only[Option.map_eq_some_iff] at h ⊢
    obtain ⟨xs,hx,rfl⟩:=h
    exact ⟨xs,mapM_carry hx (fun f y _ hy hv=>ih _ _ _ hf hv (fun p hp=>hs p (List.mem_flatMap.2 ⟨y,hy,hp⟩))),rfl⟩
   ·cases h
  all_goals first|exact h|(exfalso;simp_all;done)|(simp_all;done)
theorem AP (k:Nat) {W W':World} (hb:Below W.heap.size W W'):∀ (ts:List TypeId) (vs:List Value) (ds:List (DataW H)) (ps:List MemPlace),ts.all (tF P k)=true→
  DataW.TrodAll enc P W base (fun _=>true) held ts vs ds ps→(∀ p ∈ ps,p.block<W.heap.size)→(∀ p ∈ ps,sp p.block=true)→DataW.TrodAll enc P W' base sp held ts vs ds ps
 | [],[],[],_,_,h,_,_=>h
 |t::ts,v::vs,d::ds,ps,hf,⟨p,q,⟨n,h1⟩,h2,e⟩,hl,hs=>by
  subst e
  simp only[List.all_cons,Bool.and_eq_true] at hf
  refine ⟨p,q,⟨n,?_⟩,AP k hb ts vs ds q hf.2 h2 (fun x hx=>hl x (by simp[hx])) (fun x hx=>hs x (by simp[hx])),rfl⟩
  refine aA0 k n _ _ _ hf.1 (DataW.trod_carry n _ _ _ h1 fun x hx=>hb.same (hl x ?_)) fun x hx=>hs x ?_
  ·simp only at hx;simp[hx]
  ·simp only at hx;simp[hx]
 | [],_::_,_,_,_,h,_,_=>by simp[DataW.TrodAll] at h
 | [],[],_::_,_,_,h,_,_=>by simp[DataW.TrodAll] at h
 |_::_,[],_,_,_,h,_,_=>by simp[DataW.TrodAll] at h
 |_::_,_::_,[],_,_,h,_,_=>by simp[DataW.TrodAll] at h
theorem aS0 {f:Func} {s:ChangeSpec} {apart fresh handsOn again:Bool} {W W':World} {args:Array Value} {ds gs:List (DataW H)} {before:List MemPlace} {rt:TypeId}
  (hW:DataW.Whole enc P f.params.toList s.vars apart W args.toList ds gs before) (hv:s.vars= []) (hfn:s.fn H ds={results:= [.lit (.bool true)],args:=ds})
  (hf:f.params.toList.all (tF P 20)=true) (hr:f.resultTypes=#[rt]) (hrt:P.underlying rt=some .bool) (hb:Below W.heap.size W W'):
  s.post enc P f apart fresh handsOn again W args (.bool true) W':=by
 have hlt:∀ p ∈ before,p.block<W.heap.size:=fun p hp=>hW.lt p hp
 have hW':=hW
 obtain ⟨pa,pv,hA,hV,hps,hz,hn⟩:=hW
 rw[hv] at hV
 obtain ⟨rfl,rfl⟩:=trodVars_none hV
 rw[List.append_nil] at hps
 subst hps
 have hd:s.fn H (ds++ [])={results:= [.lit (.bool true)],args:=ds}:=by rw[List.append_nil];exact hfn
 have hres:∀ (b:Nat) (sp:Nat→Bool) (hd:Bool),DataW.TrodAll enc P W' b sp hd f.resultTypes.toList ((Value.bool true).resultList f.resultTypes.size) (s.fn H (ds++ [])).results []:=by
  intro b sp hd'
  rw[hr,hd]
  exact ⟨[],[],⟨1,by simp[DataW.trod,hrt,Value.cells]⟩,rfl,rfl⟩
 have hargs:∀ sp:Nat→Bool,(∀ p ∈ before,sp p.block=true)→DataW.TrodAll enc P W' 0 sp true f.params.toList args.toList (s.fn H (ds++ [])).args before:=fun sp hsp=>by rw[hd];exact AP 20 hb _ _ _ _ hf hA hlt hsp
 have hold:∀ p ∈ before,(fun b=>decide (b<W.heap.size)) p.block=true:=fun p hp=>by simpa using hlt p hp
 have hvars:∀ sp,DataW.TrodVars enc P W' sp s.vars (s.fn H (ds++ [])).vars []:=fun sp=>by rw[hv,hd];rfl
 refine ⟨ds,[],before,[],before,[],hW',hres _ _ _,hargs _ hold,hvars _,World.keptBut_mono (fun p hp=>⟨hp,?_⟩) (hb.frame (· ∈ before)),fun _=>?_⟩
 ·exact Or.inr (Or.inl hp)
 ·refine ⟨?_,_,_,([]++before)++ [],⟨[]++before,[],trodAll_append (hargs _ (fun _ _=>rfl)) (hres _ _ _),hvars _,rfl,?_,?_⟩,?_⟩
  ·intro j t r h1 h2
   rw[hr] at h1 h2
   have hj:j=0:=by
    rcases Nat.lt_or_ge j 1 with h|h
    ·omega
    ·rw[Array.getElem?_eq_none (by simpa using h)] at h1;cases h1
   subst hj
   simp at h1 h2
   subst h1
   have h2':r= .bool true:=by
    have:(Value.bool true).resultList 1= [.bool true]:=rfl
    rw[this] at h2;simpa using h2.symm
   subst h2'
   exact Go.RowKit.okWide_bool_mk hrt true
  ·intro b off hp
   have hin:MemPlace.cell b off ∈ before:=by simpa using hp
   rw[hb.frozen (hlt _ hin)]
   exact hz b off hin
  ·intro ha;simpa using hn ha
  ·intro p hp _;simpa using hp
end
end Go.Itp
namespace Go.Itp
open Go.ChangeShapes Go.WideShapes
def HF:Value→Value
 | .slice (some ⟨b,o,some k⟩) 0 0=> .complex .f32 b (BN o k)
 |v=>v
section
variable {H:Type} {enc:TypeId × Value→H} {P:Program} {W:World} {base:Nat} {held:Bool}
theorem aC3 {b o:Nat} {c:Value} (h:W.cell? ⟨b,o,none⟩=some c) (hid:r9 0 c= []) (ha:HF c=c):K4 W b o=some (HF c):=by
 rw[ha];exact nH h hid
end
section
variable {H:Type} {enc:TypeId × Value→H} {P:Program} {W:World} {base:Nat} {held:Bool}
theorem tV {r:Reach} {b:Nat} {u:TypeId} {a:Addr} {n c:Nat} (h:Cell.okWide P W r b u (.slice (some a) n c)):a.spot=none:=by
 unfold Cell.okWide at h
 split at h
 all_goals first|(rename_i heq;cases heq;done)|skip
 unfold Cell.ok at h
 split at h
 all_goals first|(rename_i heq;cases heq;done)|skip
 ·rename_i e a' len cap _ heq
  cases heq
  exact h.2.2.2.1
 ·exact h.elim
theorem bQ7 {r:Reach} {b:Nat} {u:TypeId} {v:Value} (h:Cell.okWide P W r b u v):HF v=v:=by
 unfold HF
 split
 ·rename_i b' o k
  have:=tV h
  cases this
 ·rfl
end
section
variable {H:Type} {enc:TypeId × Value→H} {P:Program} {W:World} {base:Nat} {held:Bool}
theorem UQ {t:TypeId} {b:Nat} {v:Value} (ht:∀ fs,P.underlying t ≠ some (.struct fs)) (ht':∀ n e,P.underlying t ≠ some (.array n e)) (hv:Value.okWide P W .any b t v):Cell.okWide P W .any b t v:=by
 unfold Value.okWide at hv
 split at hv
 ·rename_i fs h;exact (ht fs h).elim
 ·rename_i n e h;exact (ht' n e h).elim
 ·exact hv
theorem aT2 {t:TypeId} {b:Nat} {v:Value} {d:DataW H} {ps:List MemPlace} (ht:P.underlying t=some .string) (hv:Value.okWide P W .any b t v) (h:DataW.Trod enc P W base (fun _=>true) held t v d ps) (hsz:∀ n ∈ d.weights P t,n≤reachBytes):
  ∃ s:ByteArray,v= .string s∧s.size≤reachBytes:=by
 have hc:=UQ (by simp[ht]) (by simp[ht]) hv
 obtain ⟨n,hn⟩:=h
 obtain ⟨s,h1,h2,_⟩:=DataW.trod_string ht hn
 have hv':v= .string s:=by
  unfold Cell.okWide at hc
  simp only[ht,Cell.ok] at hc
  cases v<;>first|(exfalso;simp at hc;done)|(simpa [Value.cells] using h1)
 simp only[Prod.mk.injEq] at h2
 exact ⟨s,hv',by have:=hsz s.data.toList.length (by rw[h2.1];simp[DataW.weights]);simpa using this⟩
theorem BF {ts:List TypeId} {ds:List (DataW H)} (h:(DataW.weightsEach P ts ds).all (· ≤reachBytes)=true) {j:Nat} {t:TypeId} {d:DataW H} (ht:ts[j]? =some t) (hd:ds[j]? =some d):∀ n ∈ d.weights P t,n≤reachBytes:=fun n hn=>by
 have:=List.all_eq_true.1 h n (DataW.weights_mem_each ht hd n hn)
 simpa using this
end
set_option linter.unusedVariables false
set_option linter.unusedSimpArgs false
section
variable {H:Type} {enc:TypeId × Value→H} {P:Program} {W:World} {base:Nat} {held:Bool}
theorem MH {e:TypeId} (he:P.underlying e=some .bool) (c:Value) (n:Nat) (y:DataW H × List MemPlace) (h:DataW.trod enc P W base (fun _=>true) held n e [c]=some y):∃ b:Bool,c= .bool b:=by
 obtain ⟨z,h1,_⟩:=DataW.trod_bool he h
 exact ⟨z,by simpa using h1⟩
theorem aT3 {t:TypeId} {f0 f1:Field} {b:Nat} {v:Value} {d:DataW H} {ps:List MemPlace} (ht:P.underlying t=some (.struct #[f0,f1])) (o0:f0.offset=0) (o1:f1.offset=1)
  (c0:P.cellsOf f0.type=1) (c1:P.cellsOf f1.type=1) (ct:P.cellsOf t=2) (hv:Value.okWide P W .any b t v) (h:DataW.Trod enc P W base (fun _=>true) held t v d ps) (hsz:∀ n ∈ d.weights P t,n≤reachBytes):
  ∃ (n:Nat) (a0 a1:Value) (y0 y1:DataW H × List MemPlace),v= .agg [a0,a1].toArray∧HF a0=a0∧HF a1=a1∧
   DataW.trod enc P W base (fun _=>true) held n f0.type [a0]=some y0∧DataW.trod enc P W base (fun _=>true) held n f1.type [a1]=some y1∧
   (∀ m ∈ y0.1.weights P f0.type,m≤reachBytes)∧(∀ m ∈ y1.1.weights P f1.type,m≤reachBytes):=by
 unfold Value.okWide at hv
 rw[ht] at hv
 obtain ⟨cs,rfl,hcs,ts,_,_,hrow⟩:=hv
 rw[ct] at hcs
 obtain ⟨l⟩:=cs
 simp only[List.size_toArray] at hcs
 obtain ⟨a0,a1,rfl⟩:∃ a0 a1,l= [a0,a1]:=by
  rcases l with _|⟨a0,_|⟨a1,_|⟨a2,l⟩⟩⟩<;>simp at hcs
  exact ⟨a0,a1,rfl⟩
 obtain ⟨n,hn⟩:=h
 cases n with
 |zero=>simp[DataW.trod] at hn
 |succ n=>
  have habs:∀ i c,([a0,a1]:List Value)[i]? =some c→HF c=c:=fun i c hc=>by
   obtain ⟨u,_,hu⟩:=hrow i c (by simpa using hc)
   exact bQ7 hu
  unfold DataW.trod at hn
  simp only[ht,Value.cells] at hn
  rw[if_pos (by simp[ct])] at hn
  simp only[Option.map_eq_some_iff,List.mapM_cons,List.mapM_nil] at hn
  obtain ⟨xs,hx,hd⟩:=hn
  simp only[o0,o1,c0,c1,List.drop_zero,List.drop_succ_cons,List.take_succ_cons,List.take_zero] at hx
  cases h0:DataW.trod enc P W base (fun _=>true) held n f0.type [a0] with
  |none=>simp[h0] at hx
  |some y0=>
   cases h1:DataW.trod enc P W base (fun _=>true) held n f1.type [a1] with
   |none=>simp[h0,h1] at hx
   |some y1=>
    have hxs:xs= [y0,y1]:=by simpa [h0,h1] using hx.symm
    subst hxs
    simp only[Prod.mk.injEq] at hd
    obtain ⟨rfl,rfl⟩:=hd
    have hw:∀ m,(m ∈ y0.1.weights P f0.type∨m ∈ y1.1.weights P f1.type)→m≤reachBytes:=fun m hm=>hsz m (by
     simp only[DataW.weights,ht,List.map_cons,List.map_nil,DataW.weightsEach,List.mem_append]
     rcases hm with hm|hm
     ·exact Or.inl hm
     ·exact Or.inr (Or.inl hm))
    exact ⟨n,a0,a1,y0,y1,rfl,habs 0 _ rfl,habs 1 _ rfl,h0,h1,fun m hm=>hw m (Or.inl hm),fun m hm=>hw m (Or.inr hm)⟩
end
end Go.Itp
namespace Go.Itp
set_option linter.unusedVariables false
section
variable {old:Nat→Nat→Option Value} {rounds:Nat} {fns:FuncId→Option n7} {prims:FuncId→List Value→St→Option (Value × List u5)} {n:Nat} {xs:List V} {af:n7}
abbrev BC (old:Nat→Nat→Option Value):VW:=⟨fun a=>match a.spot with|none=>old a.block a.off|some _=>none,fun _=>False,fun _=>none,0⟩
theorem LA (E:E6) (h:E.old=old):m8 E ([]:j8)=(BC old).ld:=by
 funext a
 obtain ⟨b,o,sp⟩:=a
 subst h
 rcases sp with _|_|k<;>rfl
theorem cB4 {xsI:List Value} {x:Value} (hlen:xs.length≤af.n) (hx:d8 (BC old) xs xsI)
  (h:∀ C:D0,C.E=x6 old rounds fns prims n→C.w0.nx=0→gC C af.code [] (R8 0 xs) ⟨[],0,0⟩ (qL C af.res (.sc x) ⟨[],0,0⟩)):∃ s',body (x6 old rounds fns prims n) af xsI St.empty=some (x,s'):=by
 let C:D0:=C1 (x6 old rounds fns prims n) St.empty (YQ (x6 old rounds fns prims n) [] fun _=>False)
 have hs:SR C ⟨[],0,0⟩ ⟨St.empty.heap,St.empty.next,St.empty.next⟩ (fun _=>none) fun _=>False:=SR.start (fun b hb=>hb.elim) (fun b blk e=>by simp[St.empty,d9] at e)
 have hx':d8 (t8 C ⟨[],0,0⟩ ⟨St.empty.heap,St.empty.next,St.empty.next⟩ (fun _=>none) fun _=>False) xs xsI:=by
  show d8 ⟨m8 (x6 old rounds fns prims n) ([]:j8),fun _=>False,fun _=>none,0⟩ xs xsI
  rw[LA _ (fA n)];exact hx
 obtain ⟨vI,sf,hbody,μ,G,g1,g2,g3,g4,g5⟩:=vP (C:=C) (s:=⟨St.empty.heap,St.empty.next,St.empty.next⟩) hlen (h C rfl rfl) ⟨_,_,hs,eK 0 hx',VW.le.refl _,rfl,fun b hb=> .inl hb⟩ hx.length
 simp only[b9] at g2
 rw[g2.1] at hbody
 exact ⟨sf,hbody⟩
theorem CY {α:Type} {W:VW} (g:α→D) (f:α→Value):∀ (l:List α) (a:Addr),(∀ k (hk:k<l.length),W.ld (y5 a k)=some (f l[k]))→(∀ x ∈ l,u7 W (g x) (f x))→u9 W (l.map g) a
 | [],a,_,_=>by simp only[List.map_nil,u9]
 |x::r,a,h,hg=>by
  simp only[List.map_cons,u9]
  refine ⟨⟨f x,?_,hg x (List.mem_cons_self ..)⟩,CY g f r _ (fun k hk=>?_) fun y hy=>hg y (List.mem_cons_of_mem _ hy)⟩
  ·have:=h 0 (by simp)
   simpa [y5] using this
  ·have:=h (k+1) (by simpa using hk)
   rw[show y5 (y5 a 1) k=y5 a (k+1) from by simp only[y5,Nat.add_assoc,Nat.add_comm 1 k]]
   simpa using this
end
set_option linter.constructorNameAsVariable false
section
variable {old:Nat→Nat→Option Value} {rounds:Nat} {fns:FuncId→Option n7} {prims:FuncId→List Value→St→Option (Value × List u5)} {n:Nat} {f:FuncId} {xs:List V} {v:V} {st st1:l9} {af:n7} {C:D0}
theorem SR.env2 {s:St} {μ:Nat→Option Nat} {F:Nat→Prop} (h:SR C st s μ F) {C':D0} (hE:m8 C'.E=m8 C.E) (hn:C'.n0≤s.next) (hU:∀ b,(C'.U b→b<C'.n0∧d9 s.heap b=d9 C'.h0 b)∧(C'.U b→C.U b)):SR C' st s μ F:=by
 have hw:t8 C' st s μ F=t8 C st s μ F:=by
  show (⟨m8 C'.E s.heap,F,μ,st.next⟩:VW)=⟨m8 C.E s.heap,F,μ,st.next⟩
  rw[hE]
 refine ⟨fun o ob e hnn=>?_,fun o ob b e1 e2 e3=>?_,h.fz,h.inj,h.dom,h.lt,h.cl,fun b hb=>(hU b).1 hb,hn,h.own,h.hb,h.pr,h.pb⟩
 ·rw[hw];exact h.obj o ob e hnn
 ·obtain ⟨q1,q2⟩:=h.wr o ob b e1 e2 e3
  exact ⟨q1,fun hr=>⟨(q2 hr).1,fun hu=>(q2 hr).2 ((hU b).2 hu)⟩⟩
theorem HQ {Q:V→l9→Prop} (hC:C.E=x6 old rounds fns prims (n+1)) (hf:fns f=some af) (hpu:af.pure=false) (hp:∀ xs s,prims f xs s=none) (hlen:xs.length≤af.n) (hq:Q v st1)
  (h:∀ C':D0,C'.E=x6 old rounds fns prims n→C'.w0.nx=st.next→gC C' af.code [] (R8 0 xs) st (qL C' af.res v st1)):W3 C f xs st Q:=by
 refine ⟨v,st1,hq,fun s μ F xsI hsr hx hpr=>?_⟩
 let C':D0:=⟨x6 old rounds fns prims n,s.next,s.heap,C.U,⟨m8 (x6 old rounds fns prims n) s.heap,F,μ,st.next⟩,C.p0⟩
 have hE:m8 C'.E=m8 C.E:=by rw[hC];exact bO _ _
 have hs':SR C' st s μ F:=hsr.env2 hE (Nat.le_refl _) (fun b=>⟨fun hb=>⟨by have:=(hsr.un b hb).1;have:=hsr.n0;show b<s.next;omega,rfl⟩,fun hb=>hb⟩)
 have hx':d8 (t8 C' st s μ F) xs xsI:=by
  show d8 ⟨m8 C'.E s.heap,F,μ,st.next⟩ xs xsI
  rw[hE];exact hx
 obtain ⟨vI,sf,hbody,μ',G,g1,g2,g3,g4,g5⟩:=vP (C:=C') (s:=s) hlen (h C' rfl rfl) ⟨μ,F,hs',eK 0 hx',VW.le.refl _,hpr,fun b hb=> .inl hb⟩ hx.length
 have hn:s.next≤sf.next:=g1.n0
 have hw:t8 C st1 sf μ' G=t8 C' st1 sf μ' G:=by
  show (⟨m8 C.E sf.heap,G,μ',st1.next⟩:VW)=⟨m8 C'.E sf.heap,G,μ',st1.next⟩
  rw[hE]
 have g1':SR C st1 sf μ' G:=g1.env2 hE.symm (by have:=hsr.n0;omega) (fun b=>⟨fun hb=>⟨(hsr.un b hb).1,by rw[(g1.un b hb).2];exact (hsr.un b hb).2⟩,fun hb=>hb⟩)
 refine ⟨vI,sf,μ',G,?_,g1',by rw[hw];exact g2,?_,by rw[g4,hpr],hn,fun b hb=>?_⟩
 ·simp only[callI,hC,N4,sU,hp,hf,Option.bind_some,hpu]
  exact hbody
 ·rw[hw]
  show VW.le ⟨m8 C.E s.heap,F,μ,st.next⟩ _
  rw[← hE];exact g3
 ·rcases g5 b hb with hb|hb
  ·exact .inl hb
  ·exact .inr (by rw[hpr];exact hb)
end
def aW4 (c:Nat):Obj:= .row c 0 true false []
section
variable {C:D0} {st:l9} {s:St} {μ:Nat→Option Nat} {F:Nat→Prop}
theorem fJ:∀ H:E7,C4 [] H=H
 | []=>rfl
 |(j,o)::r=>by rw[iS,fJ r];rfl
theorem SR.recd (h:SR C st s μ F) {o c:Nat} (ho:f7 st.own o=some (aW4 c)):∃ b blk,μ o=some b∧d9 s.heap b=some blk∧blk.esz=0∧blk.grow=true∧blk.ty=c:=by
 obtain ⟨b,blk,h1,h2,h3⟩:=h.obj o _ ho rfl
 exact ⟨b,blk,h1,h2,h3.1,h3.2.1,h3.2.2.1⟩
theorem SR.setRec (h:SR C st s μ F) {o b c:Nat} (ho:f7 st.own o=some (aW4 c)) (hro:st.ro≤o) (hμ:μ o=some b) (c':Nat):
  SR C ⟨A9 st.own o (aW4 c'),st.next,st.ro⟩ {s with heap:=M5 s.heap b (O0 c')} μ F∧VW.le (t8 C st s μ F) (t8 C ⟨A9 st.own o (aW4 c'),st.next,st.ro⟩ {s with heap:=M5 s.heap b (O0 c')} μ F)∧s.prot≤b:=by
 obtain ⟨b',blk,h1,h2,_⟩:=h.recd ho
 rw[hμ] at h1;cases h1
 have:=h.upd (fz:= []) ho rfl hro hμ h2 rfl (by simp) (ob':=aW4 c') (blk':=O0 c') rfl rfl rfl (fun w' _ _ _=>⟨rfl,rfl,rfl,by simp only[j6,O0]⟩)
 rw[fJ,U6] at this
 exact this
theorem SZ {E E':E6} (h:E'.old=E.old):m8 E'=m8 E:=by
 funext hp a
 rw[HH,HH,h]
end
section
variable {C:D0} {st:l9} {old:Nat→Nat→Option Value} {rounds:Nat} {fns:FuncId→Option n7} {prims:FuncId→List Value→St→Option (Value × List u5)} {n:Nat} {f:FuncId} {xs:List V} {af:n7} {fr:E0} {P:B5} {K:List KF}
end
end Go.Itp
namespace Go.Itp
open Go.RowKit (Below)
open Go.Sort (grow)
section
variable {P:Program} {G:v6} {μ:Mu} {s:St} {w:World}
def HB (P:Program) (f:FuncId):Prop:=∃ fn c,P.funcs[f]? =some fn∧fn.body=some c∧(fn.name== "runtime.NumGoroutine")=false
theorem cT {f:FuncId} {args:Array Value} {v c:Value} (hen:HB P f) (hr:D2 G μ s w) (hc:Calls P f args w fun e w'=>e= .returned c∧Below w.heap.size w w') (hv:tr μ v=some c):N0 P f args w (s6 G μ s w v []):=by
 obtain ⟨fn,cd,h1,h2,h3⟩:=hen
 exact P9 h1 h2 h3 (hc.mono fun e w' ⟨he,hb⟩=>⟨c,he,μ,W0.refl s μ,hv,by rw[yQ];exact hr.below hb,hb⟩)
theorem TA (w:World) (k:Nat) (os:Array Go.Obj):Below w.heap.size w (grow (w.drewN k) os):=
 ⟨rfl,rfl,rfl,by simp[grow,World.drewN],fun i hi=>by simp only[grow,World.drewN];rw[Array.getElem?_append_left hi]⟩
theorem aI4 {name:String} {k:IntKind} {zs:List Int} {w0 w:World} (h:Lib.TabIs P w0 name k zs) (hb:Below w0.heap.size w0 w):Lib.TabIs P w name k zs:=by
 unfold Lib.TabIs World.var? at h ⊢
 cases hg:P.globalNamed name with
 |none=>rw[hg] at h;cases h
 |some g=>
  rw[hg] at h
  simp only[Option.bind_some] at h ⊢
  rcases Nat.lt_or_ge g w0.heap.size with h'|h'
  ·rw[hb.block g h'];exact h
  ·rw[Array.getElem?_eq_none h'] at h;cases h
end
def OC (f0:FuncId) (f:FuncId) (xs:List Value) (_:St):Option (Value × List u5):=
 if Nat.beq f f0 then (match xs with
  | [.int .i64 n]=>if -9223372036854775808≤n∧n≤9223372036854775807 then some (.string ⟨(Lib.itoa n).toArray⟩,[]) else none
  |_=>none) else none
theorem aR7 {P:Program} {f0:FuncId} {w0:World} (hen:HB P f0) (ht:Lib.TabIs P w0 "internal/strconv.uint64pow10" .u64 Lib.pow10Tab)
  (hc:∀ (n:Int) (_: -9223372036854775808≤n) (_:n≤9223372036854775807) (w:World) (_:Lib.TabIs P w "internal/strconv.uint64pow10" .u64 Lib.pow10Tab),
   Calls P f0 #[.int .i64 n] w fun e w'=>e= .returned (.string ⟨(Lib.itoa n).toArray⟩)∧∃ k os,w'=grow (w.drewN k) os):R9 P (OC f0) w0:=by
 intro f xs s v bs h G μ w cs hG hr hx
 unfold OC at h
 split at h
 case isFalse=>cases h
 rename_i hf
 have:=f8.1 hf
 subst this
 split at h
 case h_2=>cases h
 rename_i n
 split at h
 case isFalse=>cases h
 rename_i hn
 simp only[Option.some.injEq,Prod.mk.injEq] at h
 obtain ⟨rfl,rfl⟩:=h
 simp[C7,tr] at hx
 subst hx
 refine cT hen hr ((hc n hn.1 hn.2 w (aI4 ht (by rw[← hG];exact hr.b0))).mono fun e w' ⟨he,k,os,hw⟩=>⟨he,?_⟩) rfl
 rw[hw]
 exact TA w k os
end Go.Itp
namespace Go.Itp
open Go.RowKit (Below)
set_option linter.unusedVariables false
set_option linter.constructorNameAsVariable false
section
variable {C:D0} {st:l9} {fr:E0}
end
section
variable {P:Program} {G:v6} {μ:Mu} {s:St} {w:World}
end
section
variable {old:Nat→Nat→Option Value} {rounds:Nat} {fns:FuncId→Option n7} {prims:FuncId→List Value→St→Option (Value × List u5)} {n:Nat} {f:FuncId}
theorem RZ {w:VW}:∀ {ys:List Value} {xsI:List Value},d8 w (ys.map V.sc) xsI→xsI=ys
 | [],xsI,h=>by simpa [d8] using h
 |y::r,xsI,h=>by
  simp only[List.map_cons,d8] at h
  obtain ⟨v,vs',rfl,h1,h2⟩:=h
  rw[h1.scv,RZ h2]
theorem aU5 {st:l9} {ys:List Value} {v:Value} (h:∀ s,prims f ys s=some (v,[])) (hv:C2 v=true):H1 (x6 old rounds fns prims (n+1)) f st (ys.map V.sc) (.sc v):=by
 intro s μ F xsI w0 hsr hx
 rw[RZ hx]
 refine ⟨v,?_,fun w=> .mksc hv⟩
 simp only[N4,h]
theorem bS3 {f0:FuncId} {st:l9} {k:Int} (h0: -9223372036854775808≤k) (h1:k≤9223372036854775807) (hp:∀ xs s r,OC f0 f0 xs s=some r→prims f0 xs s=some r):
  H1 (x6 old rounds fns prims (n+1)) f0 st [.sc (.int .i64 k)] (.sc (.string ⟨(Lib.itoa k).toArray⟩)):=by
 refine aU5 (ys:= [.int .i64 k]) (fun s=>hp _ _ _ ?_) rfl
 unfold OC
 rw[if_pos (f8.2 rfl)]
 simp only
 rw[if_pos ⟨h0,h1⟩]
theorem T4 {a b:FuncId→List Value→St→Option (Value × List u5)} {xs:List Value} {s:St} {r:Value × List u5} (h:a f xs s=some r):V1 a b f xs s=some r:=by
 unfold V1
 rw[h]
theorem D7 {a b:FuncId→List Value→St→Option (Value × List u5)} {xs:List Value} {s:St} {r:Value × List u5} (h0:a f xs s=none) (h:b f xs s=some r):V1 a b f xs s=some r:=by
 unfold V1
 rw[h0]
 exact h
section
open Go.RowKit
theorem aR9 {P:Program} {w:World} {l:List (String × DataW Unit)} (h:laidMet P l w) {n:String} {d:DataW Unit} (i:Nat) (hi:l[i]? =some (n,d)) {g:Nat} {t e:TypeId} {k:IntKind} {m:Nat} {zs:List Int} (hg:P.globalNamed n=some g) (ht:(P.globals[g]?).map (·.type)=some t)
  (hta:P.underlying t=some (.array m e)) (he:P.underlying e=some (.int k)) (hc:P.cellsOf e=1) (hc2:P.cellsOf t=m) (hz:aN5 d=zs.map (Value.int k)):Lib.TabIs P w n k zs:=by
 obtain ⟨ps,h1,_,_⟩:=h
 obtain ⟨g',t',cs,fuel,p,k1,k2,k3,k4,_⟩:=OG l ps h1 i hi
 rw[hg] at k1;cases k1
 rw[ht] at k2;cases k2
 have hcs:=aF3 hta he hc hc2 k4
 unfold Lib.TabIs
 rw[k3,← hz,← hcs]
end
end
end Go.Itp
namespace Go.Itp
set_option linter.unusedVariables false
set_option linter.constructorNameAsVariable false
section
variable {C:D0} {st:l9} {fr:E0}
end
theorem kJ {α:Type}:∀ (r:List (Nat × α)) (i:Nat) (u v:α),A9 (A9 r i u) i v=A9 r i v
 | [],i,u,v=>rfl
 |(k,x)::r,i,u,v=>by
  rw[J3,J3]
  split
  ·rename_i h;subst h;rw[J3,if_pos rfl]
  ·rename_i h;rw[J3,if_neg h,kJ r i u v]
theorem CF {α:Type}:∀ (r:List (Nat × α)) (i:Nat) (u:α),f7 r i=some u→A9 r i u=r
 | [],i,u,h=>rfl
 |(k,x)::r,i,u,h=>by
  rw[J3]
  rw[j9] at h
  split
  ·rename_i hk;rw[if_pos hk] at h;cases h;rfl
  ·rename_i hk;rw[if_neg hk] at h;rw[CF r i u h]
theorem eQ {α:Type} {r:List (Nat × α)} {i:Nat} {u v:α} (h:f7 r i=some u):f7 (A9 r i v) i=some v:=by rw[O7 _ _ _ _ _ h,if_pos rfl]
theorem tO (u t:TypeId) (f:FuncId) (r:List (TypeId × FuncId)):Q3 ((u,f)::r) t=if t=u then some f else Q3 r t:=by
 simp only[Q3]
 by_cases h:t=u
 ·rw[if_pos (f8.2 h),if_pos h]
 ·rw[if_neg (by rw[f8];exact h),if_neg h]
section
variable {old:Nat→Nat→Option Value} {fr:E0} {H:E7} {nx:Nat}
def bE4:V→Option V
 | .ref _ _ _ c=>if Nat.blt c v7 then some (.sc (.int .i64 c)) else none
 | .slk _ _ c _=>some (.sc (.int .i64 c))
 | .sc (.slice none _ _)=>some (.sc (.int .i64 0))
 |_=>none
theorem aV2 (x:Operand):f5 old fr H nx (.cap x)=vp (kY bE4 (o8 fr x)):=by
 simp only[f5,kY]
 cases o8 fr x with
 |none=>rfl
 |some v=>
  simp only[Option.bind_some]
  cases v with
  |sc x=>cases x with
   |slice a b c=>cases a<;>rfl
   |_=>rfl
  |ref o k n c=>simp only[bE4];split<;>rfl
  |_=>rfl
theorem LU (n c:Nat):bE4 (.sc (.slice none n c))=some (.sc (.int .i64 0)):=(rfl)
theorem LV (s n c:Nat) (l:List D):bE4 (.slk s n c l)=some (.sc (.int .i64 c)):=(rfl)
theorem GU (e n c:Nat) (j:IntKind):aE e none (some (.int j 0)) none (.sc (.slice none n c))=some (.sc (.slice none 0 0)):=by
 simp only[aE]
 rfl
theorem SA (e s o n:Nat) (j:IntKind) (hn:n ≠ 0):aE e none (some (.int j 0)) none (.gr s o n)=some (.ref o 0 0 (v7+n)):=by
 simp only[aE]
 rw[if_neg (by rw[f8];exact hn)]
 have h1:Nat.blt (v7+n) v7=false:=by rw[← Bool.not_eq_true,Nat.blt_eq];omega
 have h2:Nat.blt 0 (v7+n - v7)=true:=by rw[Nat.blt_eq];omega
 have h0:0<n:=by omega
 simp only[nR,r7,Option.bind_some]
 simp[h1,h0]
theorem PG (t:TypeId) (e b:Nat) (z:List Value) (x y:Operand):f5 old fr H nx (.appMk t e b z x y)=kZ (AR nx t e b z) (o8 fr x) (o8 fr y):=(rfl)
theorem CE (t e b:Nat) (z:Value) (n:Nat) (hn:0<n) (h1:n≤1099511627776) (hz:C2 z=true) (h2:n*b≤1099511627776):AR nx t e b [z] (.sc (.slice none 0 0)) (.sc (.int .i64 n))=some (.gr 2 nx n,some (.gro t e false (List.replicate n (.sc z))),[]):=by
 have hr:rep [z] n=List.replicate n z:=by
  induction n with
  |zero=>rfl
  |succ n ih=>
   rcases Nat.eq_zero_or_pos n with h0|h0
   ·subst h0;rfl
   ·simp only[rep,List.replicate_succ]
    rw[ih h0 (by omega) (Nat.le_trans (Nat.mul_le_mul_right _ (Nat.le_succ n)) h2)]
    rfl
 simp only[AR]
 rw[if_neg (by omega),if_pos ⟨by omega,by unfold r6;omega,by simp[hz],by simp⟩]
 simp only[Int.toNat_natCast]
 rw[if_pos (by rw[Nat.ble_eq];exact h2),hr]
 simp[BI]
def eW (st:l9) (t e b o k n c:Nat) (ob:Option Obj) (src:Src):Option (V × l9):=
 match ob,src with
 |some (.row t' e' g z l),some (m,new,fz)=>
  if W5 new && !Nat.beq e 0 && E4 st.ro st.own fz then (if !Nat.ble st.ro o||z||Nat.beq m 0|| !Nat.ble (n+m) r6|| !Nat.ble ((n+m)*b) r6 then none
      else if Nat.blt c v7 then (if Nat.ble (n+m) c && !l7 o fz then (E1 l (k+n*e) new).map fun l=>(.ref o k (n+m) c,⟨A9 (C4 fz st.own) o (.row t' e' g false l),st.next,st.ro⟩) else none)
      else if g && Nat.beq t' t && Nat.beq e' e && Nat.beq (k+n*e) l.length && Nat.beq c (v7+n) && !l7 o fz then
       some (.gr 2 st.next (n+m),⟨(st.next,.gro t e false (l.drop k++new))::C4 fz (I2 o st.own),st.next+1,st.ro⟩)
      else if Nat.ble (n+m) (c - v7) && !l7 o fz && !(g && Nat.beq t' t && Nat.beq e' e && Nat.beq (k+n*e) l.length && Nat.beq c (v7+n)) then (E1 l (k+n*e) new).map fun l=>(.ref o k (n+m) c,⟨A9 (C4 fz st.own) o (.row t' e' g false l),st.next,st.ro⟩)
      else none) else none
 |_,_=>none
theorem GD (st:l9) (t e b o k n c:Nat) (y:V):uG st t e b (.ref o k n c) y=eW st t e b o k n c (f7 st.own o) (U1 st.own e y):=by
 simp only[uG,U1]
 cases Q9 y with
 |none=>simp only[Option.bind_none,eW];cases f7 st.own o with|none=>rfl|some ob=>cases ob<;>rfl
 |some m=>
  simp only[Option.bind_some]
  cases J8 st.own e m y with
  |none=>simp only[Option.bind_none,Option.map_none,eW];cases f7 st.own o with|none=>rfl|some ob=>cases ob<;>rfl
  |some r=>
   simp only[Option.bind_some,Option.map_some]
   cases f7 st.own o with
   |none=>simp only[eW];split<;>rfl
   |some ob=>cases ob<;>simp only[eW]<;>split<;>rfl
theorem yR {α:Type}:∀ (l:List α) (k:Nat) (m:List α),k+m.length≤l.length→E1 l k m=some (l.take k++m++l.drop (k+m.length))
 |l,k,[],h=>by simp[E1]
 | [],k,x::m,h=>by simp at h
 |a::l,0,x::m,h=>by
  simp only[List.length_cons] at h
  simp only[E1]
  rw[yR l 0 m (by omega)]
  simp
 |a::l,k+1,x::m,h=>by
  simp only[List.length_cons] at h
  simp only[E1]
  rw[yR l k (x::m) (by simp only[List.length_cons];omega)]
  simp only[Option.map_some,List.take_succ_cons,List.cons_append,List.length_cons]
  rw[show k+1+(m.length+1)=k+(m.length+1)+1 by omega,List.drop_succ_cons]
theorem vG (H:E7) (nx ro t e b o k n N t' e' m:Nat) (g:Bool) (l new:List D) (hro:ro≤o) (he:e ≠ 0) (hm:m ≠ 0) (hok:W5 new=true) (hle:n+m≤N) (h1:n+m≤1099511627776) (h2:(n+m)*b≤1099511627776) (hl:k+n*e+new.length≤l.length) (hn:n ≠ N):
  eW ⟨H,nx,ro⟩ t e b o k n (v7+N) (some (.row t' e' g false l)) (some (m,new,[]))=some (.ref o k (n+m) (v7+N),⟨A9 H o (.row t' e' g false (l.take (k+n*e)++new++l.drop (k+n*e+new.length))),nx,ro⟩):=by
 simp only[eW,hok]
 have hb:Nat.ble ro o=true:=by rw[Nat.ble_eq];exact hro
 have h3:Nat.ble (n+m) r6=true:=by rw[Nat.ble_eq];exact h1
 have h4:Nat.ble ((n+m)*b) r6=true:=by rw[Nat.ble_eq];exact h2
 have h5:Nat.beq (v7+N) (v7+n)=false:=SS.2 (by omega)
 have h6:Nat.ble (n+m) (v7+N - v7)=true:=by rw[Nat.ble_eq];omega
 rw[if_pos (by simp[SS.2 he,E4]),if_neg (by simp[hb,h3,h4,SS.2 hm]),if_neg (by rw[Nat.blt_eq];omega),if_neg (by simp[h5]),if_pos (by rw[h6,h5];simp[l7])]
 rw[yR _ _ _ hl,A1]
 rfl
end
structure P4 where
 v:List Nat
 w:List Nat
 n:List Nat
  /-- it sees all but v -/
 a:Bool
  /-- its new objects are a stretch's -/
 r:Bool
def P4.out (l:List Nat) (q:P4):Bool:=if q.a then JY l q.v else MK l q.v
def P4.ok (p q:P4):Bool:=q.out p.w && p.out q.w && q.out p.n
def jH (rs:List P4) (q:P4):List Nat→Bool
 | []=>true
 |k::r=>(match B1 rs k with|some p=>p.ok q|none=>false) && jH rs q r
def UM:K8→Bool
 | .mov _=>true
 | .pick _ _ _=>true
 | .alloc _ _=>true
 | .box _ _=>true
 | .build _ _=>true
 | .mkRow _ _ _ _ _=>true
 | .nilChk _=>true
 | .bin _ _ _=>true
 | .eqB _ _ _=>true
 | .eqNil _ _ _ _=>true
 | .un _ _=>true
 | .convI _ _=>true
 | .convS _=>true
 | .mkSlice _ _ _ _ _ _=>true
 | .slcS _ _ _=>true
 | .slc _ _ _ _ _=>true
 | .slcA _ _ _ _ _=>true
 | .fldA _ _=>true
 | .fldV _ _ _=>true
 | .idxS _ _ _=>true
 | .idxA _ _ _ _=>true
 | .idxStr _ _=>true
 | .idxV _ _ _ _ _=>true
 | .ext _ _=>true
 | .mkFn _ _ _=>true
 | .mkIf _ _=>true
 | .len _ _=>true
 | .mm _ _ _=>true
 | .eqIf _ _ _ _ _=>true
 | .eqAgg _ _ _ _=>true
 |_=>false
def cE0:V→List Nat
 | .ptr o _=> [o]
 |_=> []
def CP (old:Nat→Nat→Option Value) (st:l9) (k:Option Nat) (u:Option V):Option (V × l9 × P4):=u.bind fun u=>(cN old st.own k u).map fun v=>(v,st,⟨cE0 u,[],[],false,false⟩)
def oM (st:l9) (o k:Nat) (y:Value):Option Obj→Option (V × l9 × P4)
 |some (.row t e g false l)=>if Nat.ble st.ro o && Nat.blt k l.length then some (.tup [],⟨A9 st.own o (.row t e g false (l.set k (.sc y))),st.next,st.ro⟩,⟨[o],[o],[],false,false⟩) else none
 |some (.box t e l)=>if Nat.ble st.ro o && Nat.blt k l.length then some (.tup [],⟨A9 st.own o (.box t e (l.set k (.sc y))),st.next,st.ro⟩,⟨[o],[o],[],false,false⟩) else none
 |some (.gro t e false l)=>if Nat.ble st.ro o && Nat.blt k l.length then some (.tup [],⟨A9 st.own o (.gro t e false (l.set k (.sc y))),st.next,st.ro⟩,⟨[o],[o],[],false,false⟩) else none
 |_=>none
def HY (st:l9):Option V→Option V→Option (V × l9 × P4)
 |some (.ptr o k),some (.sc y)=>oM st o k y (f7 st.own o)
 |_,_=>none
def bJ3:List V→Bool
 | []=>true
 | .sc _::r=>bJ3 r
 | .sl _ _ _::r=>bJ3 r
 |_::_=>false
def fD (st:l9) (n:Nat):Option V→Option V→Option (V × l9 × P4)
 |some (.ptr o k),some (.agg ys)=>match f7 st.own o with
  |some (.box t e l)=>if Nat.ble st.ro o && Nat.beq ys.length n && bJ3 ys then (E1 l k ys).map fun l=>(.tup [],⟨A9 st.own o (.box t e l),st.next,st.ro⟩,⟨[o],[o],[],false,false⟩) else none
  |_=>none
 |_,_=>none
def aN4 (st:l9) (e:Nat):Option V→Option V→Option (V × l9 × P4)
 |some (.ref o k n c),some (.ref o2 k2 m c2)=>match f7 st.own o with
   |some (.row t e' g false l)=>(J8 st.own e (Nat.min m n) (.ref o2 k2 m c2)).bind fun cs=>
     if Nat.ble st.ro o && W5 cs.1 && cs.2.isEmpty && (f7 st.own o2).any (fun ob=> !ob.fz) then (E1 l k cs.1).map fun l=>(.sc (.int .i64 (Nat.min m n)),⟨A9 st.own o (.row t e' g false l),st.next,st.ro⟩,⟨[o,o2],[o,o2],[],false,true⟩) else none
   |_=>none
 |_,_=>none
def MD (st:l9):VO→Option (V × l9 × P4)
 |some (v,none,[])=>some (v,st,⟨[],[],[],false,false⟩)
 |some (v,some ob,[])=>some (v,⟨(st.next,ob)::st.own,st.next+1,st.ro⟩,⟨[],[],[st.next],false,false⟩)
 |_=>none
def VY (old:Nat→Nat→Option Value) (f:E0) (st:l9) (o:K8) (hint:Option (List Nat)):Option (V × l9 × P4):=
 match o with
 | .load k a=>CP old st k (o8 f a)
 | .store n a x=>if Nat.beq n 1 then HY st (o8 f a) (o8 f x) else fD st n (o8 f a) (o8 f x)
 | .copy e d x=>aN4 st e (o8 f d) (o8 f x)
 |o=>if hint.isNone && UM o then MD st (f5 old f st.own st.next o) else none
def bR4 (st:l9) (t e b:Nat):Option V→Option V→Option (V × l9 × P4)
 |some (.gr s o n),some (.ref o2 k2 m c2)=>match f7 st.own o,f7 st.own o2 with
   |some (.gro t' e' false l),some (.row t2 e2 g2 false l2)=>
     if Nat.ble st.ro o && !Nat.beq n 0 && !Nat.beq m 0 && !Nat.beq e 0 && Nat.beq t' t && Nat.beq e' e && Nat.beq l.length (n*e) && Nat.ble (n+m) r6 && Nat.ble ((n+m)*b) r6 && Nat.ble (k2+m*e) l2.length && W5 ((l2.drop k2).take (m*e)) then
      some (.gr 2 st.next (n+m),⟨(st.next,.gro t e false (l++(l2.drop k2).take (m*e)))::I2 o st.own,st.next+1,st.ro⟩,⟨[o,o2],[o,o2],[st.next],false,true⟩) else none
   |_,_=>none
 |_,_=>none
def WY (st:l9) (t e b:Nat):Option V→Option (V × l9 × P4)
 |some (.ref o2 k2 m c2)=>match f7 st.own o2 with
   |some (.row t2 e2 g2 false l2)=>
     if !Nat.beq m 0 && !Nat.beq e 0 && Nat.ble m r6 && Nat.ble (m*b) r6 && Nat.ble (k2+m*e) l2.length && W5 ((l2.drop k2).take (m*e)) then
      some (.gr 2 st.next m,⟨(st.next,.gro t e false ((l2.drop k2).take (m*e)))::st.own,st.next+1,st.ro⟩,⟨[o2],[],[st.next],false,false⟩) else none
   |_=>none
 |_=>none
def aN2 (st:l9) (t e b:Nat):Option V→Option V→Option (V × l9 × P4)
 |some (.sc (.slice none 0 0)),y=>WY st t e b y
 |some (.gr 2 _ 0),y=>WY st t e b y
 |x,y=>bR4 st t e b x y
def S2 (old:Nat→Nat→Option Value) (f:E0) (st:l9) (o:K8) (hint:Option (List Nat)):Option (V × l9 × P4):=
 match o with
 | .app t e b x y=>aN2 st t e b (o8 f x) (o8 f y)
 |o=>VY old f st o hint
def II (rs:List P4):List Nat→Bool
 | []=>true
 |k::r=>(match B1 rs k with|some p=>p.n.isEmpty && !p.r|none=>false) && II rs r
def wpS (C:D0) (o:K8) (hint:Option (List Nat)) (conc:List Nat) (rs:List P4) (f:E0) (st:l9) (Q:V→l9→P4→Prop):Prop:=
 match o with
 | .callF g xs=>hint=some []∧II rs conc=true∧∃ args v,W2 f xs=some args∧H1 C.E g st args v∧Q v st ⟨[],[],[],true,false⟩
 |o=>match S2 C.E.old f st o hint with|some (v,st',r)=>Q v st' r|none=>False
def wpD (C:D0):List sN→List P4→E0→l9→(E0→l9→Prop)→Prop
 | [],_,fr,st,Q=>Q fr st
 |x::l,rs,fr,st,Q=>match x.o.guard with
   |none=>wpS C x.o.op x.hint x.conc rs (D3 (q9 x.o) fr) st fun v st' r=>jH rs r x.conc=true∧wpD C l (rs++ [r]) (u6 fr x.o.dst v) st' Q
   |some (t,want)=>match f7 fr t with
     |some (.sc (.bool b))=>if b==want then (wpS C x.o.op x.hint x.conc rs (D3 (q9 x.o) fr) st fun v st' r=>jH rs r x.conc=true∧wpD C l (rs++ [r]) (u6 fr x.o.dst v) st' Q) else wpD C l (rs++ [⟨[],[],[],false,false⟩]) (u6 fr x.o.dst (.tup [])) st Q
     |some (.tup _)=>wpD C l (rs++ [⟨[],[],[],false,false⟩]) (u6 fr x.o.dst (.tup [])) st Q
     |_=>False
theorem aF6 {E:E6} {f:Fr} {h:j8} {n p:Nat} {o:K8} (ho:UM o=true):a8 E f ⟨[],n,n⟩ o=a8 E f ⟨h,n,p⟩ o:=by
 cases o<;>first|rfl|cases ho
def cG2 (μ:Nat→Option Nat) (F:Nat→Prop) (w:NW) (l:List Nat) (r:Bool):Prop:=
 (r=false∧∃ ln,w= .fix ln∧∀ b ∈ ln,¬ F b∧∃ o ∈ l,μ o=some b)∨(r=true∧((∃ m,w= .rng m m)∨∃ m,w= .rng m (m+1)∧¬ F m∧∃ o ∈ l,μ o=some m))
def bQ5 (μ:Nat→Option Nat) (F:Nat→Prop) (v:VS) (q:P4):Prop:=
 (q.a=false∧∃ lv,v= .only lv∧∀ b ∈ lv,F b∨∃ o ∈ q.v,μ o=some b)∨(q.a=true∧∃ lv,v= .but lv∧∀ o ∈ q.v,∃ b ∈ lv,μ o=some b)
def hZ (μ:Nat→Option Nat) (F:Nat→Prop) (r:H2) (q:P4):Prop:=
 ∃ vv lw nw,r=⟨vv,.only lw,nw⟩∧bQ5 μ F vv q∧(∀ b ∈ lw,¬ F b∧∃ o ∈ q.w,μ o=some b)∧cG2 μ F nw q.n q.r
theorem OZ (m:Nat):∀ l:List Nat,yL m m l=true
 | []=>rfl
 |x::r=>by
  simp only[yL,OZ m r,Bool.and_true,Bool.or_eq_true,Nat.blt_eq,Nat.ble_eq]
  omega
theorem OY (m:Nat):∀ l:List Nat,yL m (m+1) l=true↔m ∉ l
 | []=>by simp[yL]
 |x::r=>by
  simp only[yL,Bool.and_eq_true,OY m r,Bool.or_eq_true,Nat.blt_eq,Nat.ble_eq,List.mem_cons,not_or]
  constructor
  ·rintro ⟨h1,h2⟩;exact ⟨by omega,h2⟩
  ·rintro ⟨h1,h2⟩;exact ⟨by omega,h2⟩
theorem bQ5.out {μ:Nat→Option Nat} {F:Nat→Prop} (hinj:∀ o o' b,μ o=some b→μ o'=some b→o=o') {v:VS} {q:P4} (h:bQ5 μ F v q) {l w:List Nat} (hl:∀ b ∈ l,¬ F b∧∃ o ∈ w,μ o=some b) (k:q.out w=true):(VS.only l).dis v=true:=by
 rcases h with ⟨ha,lv,rfl,hv⟩|⟨ha,lv,rfl,hv⟩
 ·simp only[P4.out,ha,Bool.false_eq_true,if_false,Z5] at k
  rw[aN7,Z5]
  intro x hx hx'
  obtain ⟨n1,o,ho,e⟩:=hl x hx
  rcases hv x hx' with hF|⟨o',ho',e'⟩
  ·exact n1 hF
  ·have:=hinj o o' x e e'
   subst this
   exact k o ho ho'
 ·simp only[P4.out,ha,if_true,cJ] at k
  show JY l lv=true
  rw[cJ]
  intro x hx
  obtain ⟨n1,o,ho,e⟩:=hl x hx
  obtain ⟨b,hb,e'⟩:=hv o (k o ho)
  rw[e] at e'
  cases e'
  exact hb
theorem hZ.ok {μ:Nat→Option Nat} {F:Nat→Prop} (hinj:∀ o o' b,μ o=some b→μ o'=some b→o=o') {r r':H2} {q q':P4} (h:hZ μ F r q) (h':hZ μ F r' q') (k:q.ok q'=true):r.ok r'=true:=by
 obtain ⟨lv,lw,ln,rfl,a1,a2,a3⟩:=h
 obtain ⟨lv',lw',ln',rfl,b1,b2,b3⟩:=h'
 simp only[P4.ok,Bool.and_eq_true] at k
 obtain ⟨⟨k1,k2⟩,k3⟩:=k
 rw[cB9]
 simp only[Bool.and_eq_true]
 refine ⟨⟨b1.out hinj a2 k1,a1.out hinj b2 k2⟩,?_⟩
 rcases a3 with ⟨_,l,rfl,a3⟩|⟨_,⟨m,rfl⟩|⟨m,rfl,a3,a4⟩⟩
 ·have:=b1.out hinj a3 k3
  rcases b1 with ⟨_,lv,rfl,_⟩|⟨_,lv,rfl,_⟩<;>exact this
 ·rcases b1 with ⟨_,lv,rfl,_⟩|⟨_,lv,rfl,_⟩
  ·rw[aT4];exact OZ m _
  ·show (Nat.beq m m||_)=true
   rw[f8.2 rfl];rfl
 ·have:=b1.out hinj (l:= [m]) (w:=q.n) (by intro b hb;simp only[List.mem_singleton] at hb;subst hb;exact ⟨a3,a4⟩) k3
  rcases b1 with ⟨_,lv,rfl,_⟩|⟨_,lv,rfl,_⟩
  ·rw[aT4,OY]
   rw[aN7,Z5] at this
   exact this m (by simp)
  ·show (Nat.beq (m+1) m||(Nat.beq (m+1) (m+1) && l7 m lv))=true
   have h2:l7 m lv=true:=by
    have:=(cJ [m] lv).1 this m (by simp)
    exact (j4 _ _).2 this
   rw[h2,f8.2 rfl];simp
theorem hZ.mk3 {μ:Nat→Option Nat} {F:Nat→Prop} {lv lw ln v w n:List Nat} (h1:∀ b ∈ lv,F b∨∃ o ∈ v,μ o=some b) (h2:∀ b ∈ lw,¬ F b∧∃ o ∈ w,μ o=some b) (h3:∀ b ∈ ln,¬ F b∧∃ o ∈ n,μ o=some b):
  hZ μ F ⟨.only lv,.only lw,.fix ln⟩ ⟨v,w,n,false,false⟩:=⟨_,_,_,rfl,.inl ⟨rfl,_,rfl,h1⟩,h2,.inl ⟨rfl,_,rfl,h3⟩⟩
theorem hZ.mkr {μ:Nat→Option Nat} {F:Nat→Prop} {lv lw v w n:List Nat} {m:Nat} (h1:∀ b ∈ lv,F b∨∃ o ∈ v,μ o=some b) (h2:∀ b ∈ lw,¬ F b∧∃ o ∈ w,μ o=some b):
  hZ μ F ⟨.only lv,.only lw,.rng m m⟩ ⟨v,w,n,false,true⟩:=⟨_,_,_,rfl,.inl ⟨rfl,_,rfl,h1⟩,h2,.inr ⟨rfl,.inl ⟨_,rfl⟩⟩⟩
theorem hZ.mono {μ μ':Nat→Option Nat} {F:Nat→Prop} (h:∀ o b,μ o=some b→μ' o=some b) {r:H2} {q:P4}:hZ μ F r q→hZ μ' F r q:=by
 rintro ⟨lv,lw,ln,e,a1,a2,a3⟩
 refine ⟨lv,lw,ln,e,?_,fun b hb=>⟨(a2 b hb).1,let ⟨o,x,y⟩:=(a2 b hb).2;⟨o,x,h _ _ y⟩⟩,?_⟩
 ·rcases a1 with ⟨ha,l,e1,e2⟩|⟨ha,l,e1,e2⟩
  ·exact .inl ⟨ha,l,e1,fun b hb=>(e2 b hb).imp id fun ⟨o,x,y⟩=>⟨o,x,h _ _ y⟩⟩
  ·exact .inr ⟨ha,l,e1,fun o ho=>let ⟨b,x,y⟩:=e2 o ho;⟨b,x,h _ _ y⟩⟩
 ·rcases a3 with ⟨hr,l,e1,e2⟩|⟨hr,⟨m,e1⟩|⟨m,e1,e2,o,e3,e4⟩⟩
  ·exact .inl ⟨hr,l,e1,fun b hb=>⟨(e2 b hb).1,let ⟨o,x,y⟩:=(e2 b hb).2;⟨o,x,h _ _ y⟩⟩⟩
  ·exact .inr ⟨hr,.inl ⟨m,e1⟩⟩
  ·exact .inr ⟨hr,.inr ⟨m,e1,e2,o,e3,h _ _ e4⟩⟩
inductive M7 (μ:Nat→Option Nat) (F:Nat→Prop):List H2→List P4→Prop
 |nil:M7 μ F [] []
 |cons {r q rs qs}:hZ μ F r q→M7 μ F rs qs→M7 μ F (r::rs) (q::qs)
theorem M7.snoc {μ:Nat→Option Nat} {F:Nat→Prop} {r:H2} {q:P4} (h:hZ μ F r q):∀ {rs:List H2} {qs:List P4},M7 μ F rs qs→M7 μ F (rs++ [r]) (qs++ [q])
 |_,_,.nil=> .cons h .nil
 |_,_,.cons a b=> .cons a (M7.snoc h b)
theorem M7.get {μ:Nat→Option Nat} {F:Nat→Prop}:∀ {rs:List H2} {qs:List P4},M7 μ F rs qs→∀ {k:Nat} {q:P4},B1 qs k=some q→∃ r,B1 rs k=some r∧hZ μ F r q
 |_,_,.nil,k,q,e=>by cases k<;>cases e
 |_,_,.cons a b,0,q,e=>by cases e;exact ⟨_,rfl,a⟩
 |_,_,.cons a b,k+1,q,e=>M7.get b e
theorem M7.mono {μ μ':Nat→Option Nat} {F:Nat→Prop} (h:∀ o b,μ o=some b→μ' o=some b):∀ {rs:List H2} {qs:List P4},M7 μ F rs qs→M7 μ' F rs qs
 |_,_,.nil=> .nil
 |_,_,.cons a b=> .cons (a.mono h) (M7.mono h b)
theorem M7.all {μ:Nat→Option Nat} {F:Nat→Prop} (hinj:∀ o o' b,μ o=some b→μ o'=some b→o=o') {rs:List H2} {qs:List P4} (h:M7 μ F rs qs) {r:H2} {q:P4} (hr:hZ μ F r q):∀ {l:List Nat},jH qs q l=true→tT rs r l=true
 | [],_=>rfl
 |k::l,e=>by
  simp only[jH,Bool.and_eq_true] at e
  obtain ⟨e1,e2⟩:=e
  split at e1
  case h_2=>cases e1
  rename_i p hp
  obtain ⟨r',a,b⟩:=h.get hp
  simp only[tT,Bool.and_eq_true,a]
  exact ⟨hZ.ok hinj b hr e1,M7.all hinj h hr e2⟩
theorem SR.congr {C:D0} {st:l9} {h h':j8} {n p:Nat} {μ:Nat→Option Nat} {F:Nat→Prop} (hs:SR C st ⟨h,n,p⟩ μ F) (he:∀ i,d9 h' i=d9 h i):SR C st ⟨h',n,p⟩ μ F∧t8 C st ⟨h',n,p⟩ μ F=t8 C st ⟨h,n,p⟩ μ F:=by
 have hl:m8 C.E h'=m8 C.E h:=by
  funext a
  unfold m8
  split
  ·rfl
  ·rw[he]
  ·rfl
 have hw:t8 C st ⟨h',n,p⟩ μ F=t8 C st ⟨h,n,p⟩ μ F:=by
  show (⟨m8 C.E h',F,μ,st.next⟩:VW)=⟨m8 C.E h,F,μ,st.next⟩
  rw[hl]
 refine ⟨⟨fun o ob e hn=>?_,hs.wr,hs.fz,hs.inj,hs.dom,fun b hb=>?_,fun b hb=>?_,fun b hb=>?_,hs.n0,hs.own,fun b blk hb=>?_,hs.pr,hs.pb⟩,hw⟩
 ·rw[hw];simp only[he];exact hs.obj o ob e hn
 ·simp only[he];exact hs.lt b hb
 ·simp only[he];exact hs.cl b hb
 ·simp only[he];exact hs.un b hb
 ·exact hs.hb b blk (by rw[← he];exact hb)
theorem aE4 (l:List Nat) (h:j8) (i:Nat):rJ (B3 l h) i=true→i ∈ l:=by
 intro hk
 induction h with
 |nil=>simp[B3,rJ] at hk
 |cons p r ih=>
  obtain ⟨j,b⟩:=p
  simp only[B3] at hk
  split at hk
  ·rename_i hj
   simp only[rJ] at hk
   split at hk
   ·rename_i e;rw[f8.1 e];exact (j4 _ _).1 hj
   ·exact ih hk
  ·exact ih hk
theorem oS (h:j8) (i:Nat) {b:u5} (e:d9 h i=some b):rJ h i=true:=by
 induction h with
 |nil=>cases e
 |cons p r ih=>
  obtain ⟨j,u⟩:=p
  simp only[d9] at e
  simp only[rJ]
  split
  ·rfl
  ·rename_i hj;rw[if_neg hj] at e;exact ih e
theorem aE9 (L:List Nat) (h:j8) (b:Nat) (blk blk':u5) (n:Nat) (hb:b ∈ L) (he:d9 h b=some blk) (i:Nat):
  d9 (iP n n (B3 L h) (M5 (B3 L h) b blk')++cQ L h) i=d9 (M5 h b blk') i:=by
 have hkb:d9 (B3 L h) b=some blk:=by rw[w9,if_pos ((j4 _ _).2 hb)];exact he
 rw[Z6,dQ]
 by_cases hi:i=b
 ·subst hi
  rw[if_pos (.inr (oS _ _ hkb)),Y6,hkb,Y6,he]
  rfl
 ·rw[aT blk' i b hi,aT blk' i b hi,w9]
  by_cases hL:i ∈ L
  ·rw[if_pos ((j4 _ _).2 hL),L1]
   have:l7 i L=true:=(j4 _ _).2 hL
   simp only[this]
   cases hg:d9 h i with
   |none=>simp
   |some u=>
    rw[if_pos (.inr (oS _ _ (by rw[w9,if_pos this];exact hg)))]
  ·have hf:l7 i L=false:=cR.2 hL
   rw[if_neg (by rintro (h1|h1);omega;exact hL (aE4 _ _ _ h1)),L1,hf]
   simp
def bD0 (μ μ':Nat→Option Nat) (k n k' n':Nat):Prop:=(∀ o b,μ o=some b→μ' o=some b)∧(∀ o b,μ' o=some b→μ o=some b∨(k≤o∧n≤b))∧k≤k'∧n≤n'
theorem bD0.rfl (μ:Nat→Option Nat) (k n:Nat):bD0 μ μ k n k n:=⟨fun _ _ e=>e,fun _ _ e=> .inl e,Nat.le_refl _,Nat.le_refl _⟩
section
variable {C:D0}
theorem aI8 {st st':l9} {s:St} {μ:Nat→Option Nat} {F:Nat→Prop} {f:E0} {fI fr0:Fr} {o:K8} {hint:Option (List Nat)} {v:V} {q:P4} {conc:List Nat} {rs:List H2}
  (hsr:SR C st s μ F) (hf:FR (t8 C st s μ F) f fI) (h:VY C.E.old f st o hint=some (v,st',q)):
  ∃ vI h' n' r μ',V6 C.E fr0 s.prot ⟨⟨none,none,o⟩,conc,hint⟩ rs fI s.heap s.next=some (vI,h',n',r)∧SR C st' ⟨h',n',s.prot⟩ μ' F∧b9 (t8 C st' ⟨h',n',s.prot⟩ μ' F) v vI∧VW.le (t8 C st s μ F) (t8 C st' ⟨h',n',s.prot⟩ μ' F)∧
   hZ μ' F r q∧bD0 μ μ' st.next s.next st'.next n':=by
 unfold VY at h
 split at h
 ·rename_i k a
  simp only[CP,Option.bind_eq_some_iff,Option.map_eq_some_iff,Prod.mk.injEq] at h
  obtain ⟨u,hu,v',hv,rfl,rfl,rfl⟩:=h
  obtain ⟨uI,a1,a2⟩:=k7 hf hu
  obtain ⟨vI,b1,b2⟩:=AW hsr.hr a2 hv
  split at b1
  case h_2=>cases b1
  rename_i ad
  have hkeep:Z7 C.E (B3 (bZ (.pointer (some ad))) s.heap) ad k=Z7 C.E s.heap ad k:=by
   obtain ⟨i,j,sp⟩:=ad
   cases sp with
   |none=>cases k<;>rfl
   |some sp=>
    have e:d9 (B3 [i] s.heap) i=d9 s.heap i:=by rw[w9];simp[l7]
    cases k<;>simp only[bZ,Z7,m8,F9,e]
  refine ⟨vI,s.heap,s.next,⟨.only (bZ (.pointer (some ad))),.only [],.fix []⟩,μ,?_,hsr,b2,VW.le.refl _,.mk3 (fun b hb=>?_) (fun b hb=>(by cases hb)) (fun b hb=>(by cases hb)),.rfl _ _ _⟩
  ·simp only[V6,a1,Option.bind_some,a8,hkeep,b1,mF,Option.map_some,x4,BQ,List.length_nil,Nat.add_zero]
  ·obtain ⟨i,j,sp⟩:=ad
   cases sp with
   |none=>simp[bZ] at hb
   |some sp=>
    simp only[bZ,List.mem_singleton] at hb
    subst hb
    cases u with
    |ptr o j'=>
     refine .inr ⟨o,by simp[cE0],?_⟩
     simp only[b9] at a2
     obtain ⟨_,b',e,q⟩:=a2
     cases e
     have hob:∃ ob,f7 st.own o=some ob∧ob.none=false:=by
      simp only[cN] at hv
      split at hv
      ·rename_i he;exact ⟨_,he,rfl⟩
      ·rename_i he;exact ⟨_,he,rfl⟩
      ·rename_i t e z l he
       refine ⟨_,he,?_⟩
       cases l with
       |nil=>
        exfalso
        cases k with
        |none=>simp[C8,B1] at hv
        |some n=>cases n<;>simp[C8,B8] at hv
       |cons=>rfl
      ·cases hv
     obtain ⟨ob,he,hn⟩:=hob
     obtain ⟨b,blk,m1,m2,_⟩:=hsr.obj o ob he hn
     rw[m1,q b m1]
    |dp l o=>
     simp only[b9] at a2
     obtain ⟨a',e,hi,_⟩:=a2
     obtain ⟨ab,ao,asp⟩:=a'
     simp only[y5,Value.pointer.injEq,Option.some.injEq,Addr.mk.injEq] at e
     obtain ⟨rfl,_,rfl⟩:=e
     exact .inl hi
    |sc x=>
     have hx:=a2.ok
     have:=a2.scv
     subst this
     simp[C2] at hx
    |_=>simp[cN] at hv
 ·rename_i n a x
  split at h
  case isFalse=>
   unfold fD at h
   split at h
   case h_2=>cases h
   rename_i _ _ i k ys ha hx
   split at h
   case h_2=>cases h
   rename_i t e l ho
   split at h
   case isFalse=>cases h
   rename_i hc
   simp only[Bool.and_eq_true,Nat.ble_eq] at hc
   obtain ⟨⟨hro,hlen⟩,hsc⟩:=hc
   replace hlen:=f8.1 hlen
   simp only[Option.map_eq_some_iff,Prod.mk.injEq] at h
   obtain ⟨l',hl',rfl,rfl,rfl⟩:=h
   obtain ⟨aI,a1,a2⟩:=k7 hf ha
   obtain ⟨xI,x1,x2⟩:=k7 hf hx
   simp only[b9] at a2 x2
   obtain ⟨_,b',rfl,qq⟩:=a2
   obtain ⟨vs,rfl,x3⟩:=x2
   have hall:vs.all A8=true∧vs.length=ys.length:=by
    clear hlen hl' hx x1
    induction ys generalizing vs with
    |nil=>simp only[d8] at x3;subst x3;exact ⟨rfl,rfl⟩
    |cons y r ih=>
     simp only[d8] at x3
     obtain ⟨u,us,rfl,y1,y2⟩:=x3
     cases y with
     |sc z=>
      have hz:=y1.ok
      rw[y1.scv]
      obtain ⟨i1,i2⟩:=ih hsc us y2
      exact ⟨by simp[zL z hz,i1],by simp[i2]⟩
     |sl a b c=>
      obtain ⟨i1,i2⟩:=ih hsc us y2
      simp only[b9,u7] at y1
      rcases y1 with ⟨_,_,rfl,_⟩|⟨_,_,_,rfl|⟨_,_,_,_,rfl⟩⟩
      all_goals exact ⟨by simp[A8,i1],by simp[i2]⟩
     |_=>cases hsc
   obtain ⟨b,blk,m1,m2,m3⟩:=hsr.obj i _ ho rfl
   obtain ⟨rs',r1,r2⟩:=lC hl' m3.2.2.2 x3
   have:=qq b m1
   subst this
   obtain ⟨g1,g2,g3⟩:=hsr.upd (fz:= []) (ob':= .box t e l') ho rfl hro m1 m2 rfl (by simp) rfl rfl rfl (fun w' k1 _ _=>(⟨m3.1,m3.2.1,m3.2.2.1,r2.mono k1⟩:qJ w' (.box t e l') {blk with cells:=rs'}))
   rw[U6,A1] at g1 g2
   refine ⟨.tuple #[],M5 s.heap b' {blk with cells:=rs'},s.next,⟨.only [b'],.only [b'],.fix []⟩,μ,?_,g1,by simp only[b9,d8];exact ⟨[],rfl,rfl⟩,g2,.mk3 (fun b hb=> .inr ⟨i,by simp,by simp at hb;rw[hb];exact m1⟩) (fun b hb=>⟨by simp at hb;rw[hb];exact (hsr.wr i _ b' ho m1 rfl).1,i,by simp,by simp at hb;rw[hb];exact m1⟩) (fun b hb=>(by cases hb)),.rfl _ _ _⟩
   have e:d9 (B3 [b'] s.heap) b'=some blk:=by rw[w9];simp[l7,m2]
   have hast:=O8 (s:=⟨B3 [b'] s.heap,s.next,s.prot⟩) (k:=k) e g3 hall.1 r1
   simp only[V6,zZ,a1,Option.bind_some,bZ,o9,x1,Value.cells,hall.2,hlen,hast,Option.map_some]
   rw[if_pos (f8.2 rfl)]
   simp only[Option.bind_some]
   rw[if_pos (f8.2 rfl),Y6,e]
   rfl
  rename_i hn1
  have hn1:=f8.1 hn1
  subst hn1
  unfold HY at h
  split at h
  case h_2=>cases h
  rename_i _ _ i k y ha hx
  obtain ⟨aI,a1,a2⟩:=k7 hf ha
  obtain ⟨xI,x1,x2⟩:=k7 hf hx
  have hy:=x2.ok
  rw[x2.scv] at x1
  simp only[b9] at a2
  obtain ⟨_,b',rfl,qq⟩:=a2
  have hone:y.cells.toList= [y]:=by cases y<;>first|rfl|(simp[C2] at hy)
  have fin:∀ {ob ob':Obj} {blk:u5} {b:Nat} {cs:List Value},f7 st.own i=some ob→ob.fz=false→μ i=some b→d9 s.heap b=some blk→st.ro≤i→ob'.none=false→ob'.fz=false→ob'.ok=true→Q1 blk.cells k [y]=some cs→
    (∀ w',VW.le (t8 C st s μ F) w'→qJ w' ob' {blk with cells:=cs})→v= .tup []→st'=⟨A9 st.own i ob',st.next,st.ro⟩→q=⟨[i],[i],[],false,false⟩→
    ∃ vI h' n' r μ',V6 C.E fr0 s.prot ⟨⟨none,none,.store 1 a x⟩,conc,hint⟩ rs fI s.heap s.next=some (vI,h',n',r)∧SR C st' ⟨h',n',s.prot⟩ μ' F∧b9 (t8 C st' ⟨h',n',s.prot⟩ μ' F) v vI∧VW.le (t8 C st s μ F) (t8 C st' ⟨h',n',s.prot⟩ μ' F)∧hZ μ' F r q∧bD0 μ μ' st.next s.next st'.next n':=by
   intro ob ob' blk b cs e1 e2 e3 e4 e5 e6 e7 e8 e9 e10 r1 r2 r3
   subst r1 r2 r3
   have:=qq b e3
   subst this
   obtain ⟨g1,g2,g3⟩:=hsr.upd (fz:= []) e1 e2 e5 e3 e4 rfl (by simp) e6 e7 e8 (fun w' k1 _ _=>e10 w' k1)
   rw[U6,A1] at g1 g2
   refine ⟨.tuple #[],M5 s.heap b' {blk with cells:=cs},s.next,⟨.only [b'],.only [b'],.fix []⟩,μ,?_,g1,by simp only[b9,d8];exact ⟨[],rfl,rfl⟩,g2,.mk3 (fun b hb=> .inr ⟨i,by simp,by simp at hb;rw[hb];exact e3⟩) (fun b hb=>⟨by simp at hb;rw[hb];exact (hsr.wr i ob b' e1 e3 e2).1,i,by simp,by simp at hb;rw[hb];exact e3⟩) (fun b hb=>(by cases hb)),.rfl _ _ _⟩
   have e:d9 (B3 [b'] s.heap) b'=some blk:=by rw[w9];simp[l7,e4]
   have hall: [y].all A8=true:=by simp[zL y hy]
   have hast:=O8 (s:=⟨B3 [b'] s.heap,s.next,s.prot⟩) (k:=k) e g3 hall e9
   simp only[V6,zZ,a1,Option.bind_some,bZ,o9,x1,hone,List.length_singleton,hast,Option.map_some]
   rw[if_pos (show Nat.beq 1 1=true from rfl)]
   simp only[Option.bind_some]
   rw[if_pos (f8.2 rfl),Y6,e]
   rfl
  have hput:∀ {α:Type} (l:List α) (x:α),k<l.length→E1 l k [x]=some (l.set k x):=fun l x hk=>aA _ _ _ hk
  unfold oM at h
  split at h
  ·rename_i t e g l ho
   split at h
   case isFalse=>cases h
   rename_i hc
   simp only[Bool.and_eq_true,Nat.ble_eq,Nat.blt_eq] at hc
   cases h
   obtain ⟨b,blk,m1,m2,m3⟩:=hsr.obj i _ ho rfl
   obtain ⟨rs',r1,r2⟩:=S0 (hput l (D.sc y) hc.2) m3.2.2.2 (show j6 (t8 C st s μ F) [D.sc y] [y] by simp only[j6,u7];exact ⟨y,[],rfl,⟨rfl,hy⟩,rfl⟩)
   refine fin (ob':= .row t e g false (l.set k (.sc y))) ho rfl m1 m2 hc.1 rfl rfl ?_ r1 (fun w' k1=>⟨m3.1,m3.2.1,m3.2.2.1,r2.mono k1⟩) rfl rfl rfl
   exact L8 (hput l (D.sc y) hc.2) (hsr.own i _ ho).2 rfl
  ·rename_i t e l ho
   split at h
   case isFalse=>cases h
   rename_i hc
   simp only[Bool.and_eq_true,Nat.ble_eq,Nat.blt_eq] at hc
   cases h
   obtain ⟨b,blk,m1,m2,m3⟩:=hsr.obj i _ ho rfl
   obtain ⟨rs',r1,r2⟩:=lC (hput l (V.sc y) hc.2) m3.2.2.2 (show d8 (t8 C st s μ F) [V.sc y] [y] by simp only[d8,b9];exact ⟨y,[],rfl,⟨rfl,hy⟩,rfl⟩)
   exact fin (ob':= .box t e (l.set k (.sc y))) ho rfl m1 m2 hc.1 rfl rfl rfl r1 (fun w' k1=>⟨m3.1,m3.2.1,m3.2.2.1,r2.mono k1⟩) rfl rfl rfl
  ·rename_i t e l ho
   split at h
   case isFalse=>cases h
   rename_i hc
   simp only[Bool.and_eq_true,Nat.ble_eq,Nat.blt_eq] at hc
   cases h
   have hln:(Obj.gro t e false l).none=false:=by cases l with|nil=>simp at hc|cons=>rfl
   obtain ⟨b,blk,m1,m2,m3⟩:=hsr.obj i _ ho hln
   obtain ⟨rs',r1,r2⟩:=S0 (hput l (D.sc y) hc.2) m3.2.2.2 (show j6 (t8 C st s μ F) [D.sc y] [y] by simp only[j6,u7];exact ⟨y,[],rfl,⟨rfl,hy⟩,rfl⟩)
   refine fin (ob':= .gro t e false (l.set k (.sc y))) ho rfl m1 m2 hc.1 ?_ rfl ?_ r1 (fun w' k1=>⟨m3.1,m3.2.1,m3.2.2.1,r2.mono k1⟩) rfl rfl rfl
   ·cases h1:l.set k (D.sc y) with
    |nil=>have:=congrArg List.length h1;simp at this;subst this;simp at hc
    |cons=>rfl
   ·exact L8 (hput l (D.sc y) hc.2) (hsr.own i _ ho).2 rfl
  ·cases h
 ·rename_i e d x
  unfold aN4 at h
  split at h
  case h_2=>cases h
  rename_i _ _ i k n c i2 k2 m c2 hd hx
  split at h
  case h_2=>cases h
  rename_i t e' g l ho
  simp only[Option.bind_eq_some_iff] at h
  obtain ⟨cs,hcs,h⟩:=h
  split at h
  case isFalse=>cases h
  rename_i hcond
  simp only[Bool.and_eq_true,Nat.ble_eq,List.isEmpty_iff] at hcond
  obtain ⟨⟨⟨hro,hok⟩,hfz⟩,hnz⟩:=hcond
  simp only[Option.map_eq_some_iff,Prod.mk.injEq] at h
  obtain ⟨l',hl',rfl,rfl,rfl⟩:=h
  obtain ⟨dI,d1,d2⟩:=k7 hf hd
  obtain ⟨xI,x1,x2⟩:=k7 hf hx
  obtain ⟨us,u1,u2⟩:=(V5 hsr.hr x2 hcs (fun j hj=>by simp only[Q9,W1,Option.some.injEq] at hj;subst hj;exact Nat.min_le_left _ _)).plain hsr.hr hfz
  have hob2:∃ ob,f7 st.own i2=some ob:=by
   simp only[J8] at hcs
   cases hob:f7 st.own i2 with
   |none=>rw[hob] at hcs;cases hcs
   |some ob=>exact ⟨ob,rfl⟩
  obtain ⟨ob2,hob2⟩:=hob2
  have hon2:ob2.none=false:=by
   cases ob2 with
   |gro t z e0 l0=>
    cases l0 with
    |cons=>rfl
    |nil=>
     exfalso
     simp only[J8,hob2] at hcs
     split at hcs
     ·rename_i hh
      obtain ⟨h1,h2,h3⟩:=hh
      simp only[List.length_nil,Nat.le_zero,Nat.add_eq_zero_iff] at h1
      rcases Nat.mul_eq_zero.1 h1.2 with h|h
      ·exact h2 h
      ·exact h3 h
     ·cases hcs
   |_=>rfl
  obtain ⟨b,blk,m1,m2,m3⟩:=hsr.obj i _ ho rfl
  obtain ⟨b2,blk2,w1,w2,w3⟩:=hsr.obj i2 _ hob2 hon2
  have hwr2:=hsr.wr i2 ob2 b2 hob2 w1
  simp only[b9] at d2 x2
  obtain ⟨_,_,b',rfl,qd⟩:=d2
  obtain ⟨_,_,b2',rfl,qx⟩:=x2
  have:=qd b m1
  subst this
  have:=qx b2 w1
  subst this
  obtain ⟨rs,r1,r2⟩:=S0 hl' m3.2.2.2 u2
  obtain ⟨g1,g2,g3⟩:=hsr.upd (fz:= []) (ob':= .row t e' g false l') (blk':={blk with cells:=rs}) ho rfl hro m1 m2 rfl (by simp) rfl rfl (L8 hl' (hsr.own i _ ho).2 hok) (fun w' k1 _ _=>⟨m3.1,m3.2.1,m3.2.2.1,r2.mono k1⟩)
  rw[U6,A1] at g1 g2
  have hids:r9 0 (.slice (some ⟨b',k,some 0⟩) n c)++r9 0 (.slice (some ⟨b2',k2,some 0⟩) m c2)= [b',b2']:=by
   simp only[r9,m9,Nat.zero_le,if_true,Nat.ble_eq]
   rfl
  have hkb:d9 (B3 [b',b2'] s.heap) b'=some blk:=by rw[w9,if_pos (by simp[l7])];exact m2
  have hkb2:d9 (B3 [b',b2'] s.heap) b2'=d9 s.heap b2':=by
   rw[w9,if_pos]
   rw[j4]
   simp
  have hsrc:n8 C.E (B3 [b',b2'] s.heap) e (Nat.min m n) (.slice (some ⟨b2',k2,some 0⟩) m c2)=some us:=by
   rw[← u1]
   simp only[n8,F9,hkb2]
  have hast:=O8 (s:=⟨B3 [b',b2'] s.heap,s.next,s.prot⟩) (k:=k) hkb g3 u2.one r1
  have hheap:=aE9 [b',b2'] s.heap b' blk {blk with cells:=rs} s.next (by simp) m2
  obtain ⟨q1,q2⟩:=SR.congr g1 hheap
  have hz2:ob2.fz=false:=by rw[hob2] at hnz;simpa using hnz
  refine ⟨.int .i64 (Nat.min m n),_,s.next,⟨.only [b',b2'],.only [b',b2'],.rng s.next s.next⟩,μ,?_,q1,?_,?_,.mkr (fun z hz=>?_) (fun z hz=>?_),.rfl _ _ _⟩
  ·simp only[V6,d1,x1,Option.bind_some,hids,mL,a8,C6,jY]
   rw[if_pos (by rw[Nat.ble_eq];exact hsr.pr)]
   simp only[o9,d1,x1,Option.bind_some,lenA,hsrc,hast,Option.map_some]
   rw[if_pos (by rw[Nat.ble_eq];exact Nat.le_refl _)]
  ·exact .mksc rfl
  ·rw[q2];exact g2
  ·simp only[List.mem_cons,List.not_mem_nil,or_false] at hz
   rcases hz with rfl|rfl
   ·exact .inr ⟨i,by simp,m1⟩
   ·exact .inr ⟨i2,by simp,w1⟩
  ·simp only[List.mem_cons,List.not_mem_nil,or_false] at hz
   rcases hz with rfl|rfl
   ·exact ⟨(hsr.wr i _ z ho m1 rfl).1,i,by simp,m1⟩
   ·exact ⟨(hwr2 hz2).1,i2,by simp,w1⟩
 ·rename_i hnl hns hcp
  split at h
  case isFalse=>cases h
  rename_i hc
  rw[Bool.and_eq_true] at hc
  obtain ⟨hc1,hc2⟩:=hc
  have hh:hint=none:=by cases hint with|none=>rfl|some _=>cases hc1
  subst hh
  have hls:cI2 o=false:=by cases o<;>first|rfl|cases hc2
  have hst:V6 C.E fr0 s.prot ⟨⟨none,none,o⟩,conc,none⟩ rs fI s.heap s.next=mF (.only []) s.heap s.next (a8 C.E fI ⟨s.heap,s.next,s.next⟩ o):=by
   rw[← aF6 (h:=s.heap) hc2]
   cases o<;>first|rfl|cases hls
  rw[hst]
  have go:∀ {v2:V} {ob:Option Obj},f5 C.E.old f st.own st.next o=some (v2,ob,[])→∃ vI bs,a8 C.E fI ⟨s.heap,s.next,s.next⟩ o=some (vI,bs)∧iE s.heap (t8 C st s μ F) s.next v2 ob [] vI bs:=fun e=>sI (n:=s.next) (p:=s.next) hsr.hr hf e
  unfold MD at h
  split at h
  ·rename_i v2 e
   simp only[Option.some.injEq,Prod.mk.injEq] at h
   obtain ⟨rfl,rfl,rfl⟩:=h
   obtain ⟨vI,bs,e1,e2⟩:=go e
   obtain ⟨rfl,_,e4⟩:=e2
   exact ⟨vI,s.heap,s.next,⟨.only [],.only [],.fix []⟩,μ,by simp[e1,mF,x4,BQ],hsr,e4,VW.le.refl _,.mk3 (fun b hb=>(by cases hb)) (fun b hb=>(by cases hb)) (fun b hb=>(by cases hb)),.rfl _ _ _⟩
  ·rename_i v2 ob e
   simp only[Option.some.injEq,Prod.mk.injEq] at h
   obtain ⟨rfl,rfl,rfl⟩:=h
   obtain ⟨vI,bs,e1,e2⟩:=go e
   obtain ⟨q1,q2,q3,q4⟩:=hsr.push e2 rfl
   rw[U6] at q1 q2 q3
   obtain ⟨_,_,_,blk,rfl,_⟩:=e2
   have hp:st.push (some ob) []=⟨(st.next,ob)::st.own,st.next+1,st.ro⟩:=by simp[l9.push,A1]
   rw[hp] at q1 q2 q3
   refine ⟨vI,x4 s.heap s.next [blk],s.next+1,⟨.only [],.only [],.fix [s.next]⟩,_,by simp[e1,mF,BQ],q1,q2,q3,.mk3 (fun b hb=>(by cases hb)) (fun b hb=>(by cases hb)) (fun b hb=>?_),fun o' b e'=>?_,fun o' b e'=>?_,Nat.le_succ _,Nat.le_succ _⟩
   ·simp only[List.mem_singleton] at hb
    subst hb
    exact ⟨fun hF=>Nat.lt_irrefl _ (hsr.lt _ hF).1,st.next,by simp,by simp[UL]⟩
   ·have:=(hsr.dom o' b e').2.1
    simp only[UL]
    rw[if_neg (by omega)]
    exact e'
   ·simp only[UL] at e'
    split at e'
    ·cases e';exact .inr ⟨by omega,Nat.le_refl _⟩
    ·exact .inl e'
  ·cases h
theorem bU (L:List Nat) (b:Nat) (hb:b ∈ L):∀ h:j8,d9 (G6 (B3 L h) b) b=d9 (G6 h b) b
 | []=>rfl
 |(j,u)::r=>by
  simp only[B3,G6]
  by_cases hj:Nat.beq b j=true
  ·have:=f8.1 hj
   subst this
   rw[if_pos ((j4 _ _).2 hb)]
   simp only[G6,if_pos hj]
   rw[w9,if_pos ((j4 _ _).2 hb)]
  ·rw[if_neg hj]
   simp only[d9]
   rw[if_neg hj]
   split
   ·simp only[G6,if_neg hj,d9]
    exact bU L b hb r
   ·exact bU L b hb r
theorem UD (L:List Nat) (h:j8) (b n p:Nat) (blk':u5) (hb:b ∈ L) (i:Nat):
  d9 (iP n (n+1) (B3 L h) (St.push ⟨G6 (B3 L h) b,n,p⟩ [blk']).heap++cQ L h) i=d9 (St.push ⟨G6 h b,n,p⟩ [blk']).heap i:=by
 simp only[St.push]
 rw[Z6,dQ,w8,w8]
 by_cases hi:n≤i∧i<n+1
 ·have hi':n≤i∧i<n+ [blk'].length:=hi
  rw[if_pos (.inl hi),if_pos hi',if_pos hi']
  have:i - n=0:=by omega
  rw[this];rfl
 ·have hi':¬ (n≤i∧i<n+ [blk'].length):=hi
  rw[if_neg hi',if_neg hi']
  by_cases hib:i=b
  ·subst hib
   rw[bU L i hb,L1,if_pos ((j4 _ _).2 hb)]
   split<;>rename_i hh
   ·split at hh
    ·rw[hh]
    ·cases hh
   ·split at hh
    ·rw[hh]
    ·rename_i hk
     cases hg:d9 (G6 h i) i with
     |none=>rfl
     |some u=>
      exfalso
      obtain ⟨c,hc⟩:=bV h i i u hg
      exact hk (.inr (oS _ _ (by rw[w9,if_pos ((j4 _ _).2 hb)];exact hc)))
  ·rw[G7 _ _ _ hib,G7 _ _ _ hib,w9,L1]
   by_cases hL:i ∈ L
   ·rw[if_pos ((j4 _ _).2 hL),if_pos ((j4 _ _).2 hL)]
    cases hg:d9 h i with
    |none=>simp
    |some u=>rw[if_pos (.inr (oS _ _ (by rw[w9,if_pos ((j4 _ _).2 hL)];exact hg)))]
   ·have hf:l7 i L=false:=cR.2 hL
    simp only[hf,Bool.false_eq_true,if_false]
    simp
def bD4 (C:D0) (st st':l9) (s:St) (h':j8) (n':Nat) (μ μ':Nat→Option Nat) (F:Nat→Prop) (v:V) (vI:Value) (r:H2) (q:P4):Prop:=
 SR C st' ⟨h',n',s.prot⟩ μ' F∧b9 (t8 C st' ⟨h',n',s.prot⟩ μ' F) v vI∧VW.le (t8 C st s μ F) (t8 C st' ⟨h',n',s.prot⟩ μ' F)∧(∀ ν:Nat→Option Nat,(∀ o b,μ o=some b→ν o=some b)→(∀ o b,μ' o=some b→ν o=some b)→hZ ν F r q)∧
  (∀ o b,μ' o=some b→μ o=some b∨(st.next≤o∧s.next≤b))∧st.next≤st'.next∧s.next≤n'
theorem bE7 {st st':l9} {s:St} {μ:Nat→Option Nat} {F:Nat→Prop} {f:E0} {fI fr0:Fr} {t e b:Nat} {x y:Operand} {hint:Option (List Nat)} {v:V} {q:P4} {conc:List Nat} {rs:List H2}
  (hsr:SR C st s μ F) (hf:FR (t8 C st s μ F) f fI) (h:bR4 st t e b (o8 f x) (o8 f y)=some (v,st',q)):
  ∃ vI h' n' r μ',V6 C.E fr0 s.prot ⟨⟨none,none,.app t e b x y⟩,conc,hint⟩ rs fI s.heap s.next=some (vI,h',n',r)∧bD4 C st st' s h' n' μ μ' F v vI r q:=by
 unfold bR4 at h
 split at h
 case h_2=>cases h
 rename_i _ _ s' o n o2 k2 m c2 hx hy
 split at h
 case h_2=>cases h
 rename_i _ _ t' e' l t2 e2 g2 l2 ho ho2
 split at h
 case isFalse=>cases h
 rename_i hc
 simp only[Bool.and_eq_true,Bool.not_eq_true',SS,Nat.ble_eq] at hc
 obtain ⟨⟨⟨⟨⟨⟨⟨⟨⟨⟨hro,hn0⟩,hm0⟩,he0⟩,ht⟩,he⟩,hl⟩,hr1⟩,hr2⟩,hk2⟩,hok⟩:=hc
 have ht:=f8.1 ht
 have he:=f8.1 he
 have hl:=f8.1 hl
 subst ht he
 simp only[Option.some.injEq,Prod.mk.injEq] at h
 obtain ⟨rfl,rfl,rfl⟩:=h
 obtain ⟨xI,x1,x2⟩:=k7 hf hx
 obtain ⟨yI,y1,y2⟩:=k7 hf hy
 have hcs:J8 st.own e' m (.ref o2 k2 m c2)=some ((l2.drop k2).take (m*e'),[]):=by
  simp only[J8,ho2]
  rw[if_pos hk2]
 have hlen:=oZ y2 (show Q9 (.ref o2 k2 m c2)=some m from rfl)
 obtain ⟨us,u1,u2⟩:=(V5 hsr.hr y2 hcs (fun j hj=>by simp only[Q9,W1,Option.some.injEq] at hj;subst hj;exact Nat.le_refl _)).plain hsr.hr rfl
 have hln:l ≠ []:=fun e0=>by
  rw[e0] at hl
  have:=Nat.mul_pos (Nat.pos_of_ne_zero hn0) (Nat.pos_of_ne_zero he0)
  simp at hl;omega
 obtain ⟨b0,blk,m1,m2,m3⟩:=hsr.obj o _ ho (N6 hln)
 obtain ⟨b2,blk2,w1,w2,w3⟩:=hsr.obj o2 _ ho2 rfl
 have hcl:=m3.2.2.2.length
 simp only[b9] at x2 y2
 obtain ⟨_,⟨hn,_⟩|⟨_,b',rfl,qx⟩⟩:=x2
 ·exact absurd hn hn0
 obtain ⟨_,_,b2',rfl,qy⟩:=y2
 have:=qx b0 m1
 subst this
 have:=qy b2 w1
 subst this
 obtain ⟨d1,d2,d3⟩:=hsr.del ho rfl hro m1
 have hokl:W5 (l++(l2.drop k2).take (m*e'))=true:=by
  have:=(hsr.own o _ ho).2
  simp only[Obj.ok] at this
  simp only[W5,List.all_append,Bool.and_eq_true];exact ⟨this,hok⟩
 have hne:l++(l2.drop k2).take (m*e') ≠ []:=by simp[hln]
 have hP:iE (G6 s.heap b') (t8 C ⟨I2 o st.own,st.next,st.ro⟩ {s with heap:=G6 s.heap b'} (fun i=>if i=o then none else μ i) F) s.next (.gr 2 st.next (n+m)) (some (.gro t' e' false (l++(l2.drop k2).take (m*e')))) [] (.slice (some ⟨s.next,0,some 0⟩) (n+m) (v7+(n+m))) [⟨blk.cells++us,e',true,t'⟩]:=
  ⟨N6 hne,rfl,hokl,_,rfl,fun w' k1 _ _ k4 k5=>⟨.gr_new k4 k5 (n+m) (by omega),rfl,rfl,rfl,(m3.2.2.2.mono (d2.trans k1)).append (u2.mono (d2.trans k1))⟩⟩
 obtain ⟨p1,p2,p3,p4⟩:=d1.push hP rfl
 rw[U6] at p1 p2 p3
 simp only[l9.push,A1] at p1 p2 p3
 have hids:r9 0 (.slice (some ⟨b',0,some 0⟩) n (v7+n))++r9 0 (.slice (some ⟨b2',k2,some 0⟩) m c2)= [b',b2']:=by
  simp only[r9,m9,Nat.zero_le,if_true,Nat.ble_eq]
  rfl
 have hkb:d9 (B3 [b',b2'] s.heap) b'=some blk:=by rw[w9,if_pos (by simp[l7])];exact m2
 have hkb2:d9 (B3 [b',b2'] s.heap) b2'=d9 s.heap b2':=by
  rw[w9,if_pos]
  rw[j4]
  simp
 have hsrc:n8 C.E (B3 [b',b2'] s.heap) e' m (.slice (some ⟨b2',k2,some 0⟩) m c2)=some us:=by
  rw[← u1]
  simp only[n8,F9,hkb2]
 have hone:us.all A8=true:=u2.one
 have hnb:Nat.blt (v7+n) v7=false:=by rw[← Bool.not_eq_true,Nat.blt_eq];omega
 have h0:¬ Nat.beq m 0=true:=by rw[f8];exact hm0
 have hheap:=UD [b',b2'] s.heap b' s.next s.next ⟨blk.cells++us,e',true,t'⟩ (by simp)
 have p1':SR C _ ⟨(St.push ⟨G6 s.heap b',s.next,s.next⟩ [⟨blk.cells++us,e',true,t'⟩]).heap,s.next+1,s.prot⟩ _ F:=p1
 obtain ⟨q1,q2⟩:=SR.congr p1' hheap
 have hnF:∀ z,μ o2=some z→¬ F z:=fun z hz=>(hsr.wr o2 _ z ho2 hz rfl).1
 have hnF1:∀ z,μ o=some z→¬ F z:=fun z hz=>(hsr.wr o _ z ho hz rfl).1
 refine ⟨.slice (some ⟨s.next,0,some 0⟩) (n+m) (v7+(n+m)),_,s.next+1,⟨.only [b',b2'],.only [b',b2'],.rng s.next (s.next+1)⟩,_,?_,q1,?_,?_,fun ν k1 k2=>?_,fun i z e'=>?_,Nat.le_succ _,Nat.le_succ _⟩
 ·simp only[V6,x1,y1,Option.bind_some,hids,mL,a8,C6,jY]
  rw[show Z3 C.E ⟨B3 [b',b2'] s.heap,s.next,s.next⟩ t' e' b (.slice (some ⟨b',0,some 0⟩) n (v7+n)) (.slice (some ⟨b2',k2,some 0⟩) m c2)=none by
   simp only[Z3,hlen,Option.bind_some]
   rw[if_neg h0,if_neg (by simp[hnb])]]
  simp only
  rw[if_pos (by rw[Nat.ble_eq];exact hsr.pr)]
  simp only[o9,x1,y1,Option.bind_some]
  have:iI C.E ⟨B3 [b',b2'] s.heap,s.next,s.prot⟩ t' e' b (.slice (some ⟨b',0,some 0⟩) n (v7+n)) (.slice (some ⟨b2',k2,some 0⟩) m c2)=some (.slice (some ⟨s.next,0,some 0⟩) (n+m) (v7+(n+m)),St.push ⟨G6 (B3 [b',b2'] s.heap) b',s.next,s.prot⟩ [⟨blk.cells++us,e',true,t'⟩]):=by
   simp only[iI,hlen,Option.bind_some]
   rw[if_neg h0,if_pos (by simp only[Bool.and_eq_true,Nat.ble_eq];exact ⟨hr1,hr2⟩),hsrc]
   simp only[Option.bind_some]
   rw[if_pos hone,if_neg (by rw[hnb];simp),if_pos (by rw[Nat.ble_eq];exact d3),hkb]
   simp only[Option.bind_some]
   rw[if_pos (by simp only[Bool.and_eq_true];rw[m3.1,m3.2.1,m3.2.2.1,hcl,hl];refine ⟨⟨⟨⟨rfl,f8.2 rfl⟩,f8.2 rfl⟩,f8.2 (by omega)⟩,f8.2 rfl⟩)]
   rfl
  rw[this]
  simp only[Option.bind_some]
  rw[if_pos (by rw[Nat.ble_eq];exact Nat.le_succ _)]
  rfl
 ·rw[q2];exact p2
 ·rw[q2];exact d2.trans p3
 ·refine ⟨_,_,_,rfl,.inl ⟨rfl,_,rfl,fun z hz=>?_⟩,fun z hz=>?_,.inr ⟨rfl,.inr ⟨_,rfl,fun hF=>Nat.lt_irrefl _ (hsr.lt _ hF).1,st.next,by simp,k2 _ _ (by simp[UL])⟩⟩⟩
  ·simp only[List.mem_cons,List.not_mem_nil,or_false] at hz
   rcases hz with rfl|rfl
   ·exact .inr ⟨o,by simp,k1 _ _ m1⟩
   ·exact .inr ⟨o2,by simp,k1 _ _ w1⟩
  ·simp only[List.mem_cons,List.not_mem_nil,or_false] at hz
   rcases hz with rfl|rfl
   ·exact ⟨hnF1 _ m1,o,by simp,k1 _ _ m1⟩
   ·exact ⟨hnF _ w1,o2,by simp,k1 _ _ w1⟩
 ·simp only[UL] at e'
  split at e'
  ·cases e';exact .inr ⟨by omega,Nat.le_refl _⟩
  ·split at e'
   ·cases e'
   ·exact .inl e'
theorem LZ {st st':l9} {s:St} {μ:Nat→Option Nat} {F:Nat→Prop} {f:E0} {fI fr0:Fr} {t e b:Nat} {x y:Operand} {hint:Option (List Nat)} {v:V} {q:P4} {conc:List Nat} {rs:List H2}
  (hsr:SR C st s μ F) (hf:FR (t8 C st s μ F) f fI) {u:V} (hx:o8 f x=some u) (hu:∀ (w:VW) (xI:Value),b9 w u xI→xI= .slice none 0 0) (h:WY st t e b (o8 f y)=some (v,st',q)):
  ∃ vI h' n' r μ',V6 C.E fr0 s.prot ⟨⟨none,none,.app t e b x y⟩,conc,hint⟩ rs fI s.heap s.next=some (vI,h',n',r)∧bD4 C st st' s h' n' μ μ' F v vI r q:=by
 unfold WY at h
 split at h
 case h_2=>cases h
 rename_i _ o2 k2 m c2 hy
 split at h
 case h_2=>cases h
 rename_i _ t2 e2 g2 l2 ho2
 split at h
 case isFalse=>cases h
 rename_i hc
 simp only[Bool.and_eq_true,Bool.not_eq_true',SS,Nat.ble_eq] at hc
 obtain ⟨⟨⟨⟨⟨hm0,he0⟩,hr1⟩,hr2⟩,hk2⟩,hok⟩:=hc
 simp only[Option.some.injEq,Prod.mk.injEq] at h
 obtain ⟨rfl,rfl,rfl⟩:=h
 obtain ⟨xI,x1,x2⟩:=k7 hf hx
 obtain ⟨yI,y1,y2⟩:=k7 hf hy
 have hxI:=hu _ _ x2
 subst hxI
 have hcs:J8 st.own e m (.ref o2 k2 m c2)=some ((l2.drop k2).take (m*e),[]):=by
  simp only[J8,ho2]
  rw[if_pos hk2]
 have hlen:=oZ y2 (show Q9 (.ref o2 k2 m c2)=some m from rfl)
 obtain ⟨us,u1,u2⟩:=(V5 hsr.hr y2 hcs (fun j hj=>by simp only[Q9,W1,Option.some.injEq] at hj;subst hj;exact Nat.le_refl _)).plain hsr.hr rfl
 obtain ⟨b2,blk2,w1,w2,w3⟩:=hsr.obj o2 _ ho2 rfl
 simp only[b9] at y2
 obtain ⟨_,_,b2',rfl,qy⟩:=y2
 have:=qy b2 w1
 subst this
 have hne:(l2.drop k2).take (m*e) ≠ []:=fun e0=>by
  have h1:=congrArg List.length e0
  have:=Nat.mul_pos (Nat.pos_of_ne_zero hm0) (Nat.pos_of_ne_zero he0)
  simp at h1
  omega
 have hP:iE s.heap (t8 C st s μ F) s.next (.gr 2 st.next m) (some (.gro t e false ((l2.drop k2).take (m*e)))) [] (.slice (some ⟨s.next,0,some 0⟩) m (v7+m)) [⟨us,e,true,t⟩]:=
  ⟨N6 hne,rfl,hok,_,rfl,fun w' k1 _ _ k4 k5=>⟨.gr_new k4 k5 m hm0,rfl,rfl,rfl,u2.mono k1⟩⟩
 obtain ⟨p1,p2,p3,p4⟩:=hsr.push hP rfl
 rw[U6] at p1 p2 p3
 simp only[l9.push,A1] at p1 p2 p3
 have hids:r9 0 (.slice none 0 0)++r9 0 (.slice (some ⟨b2',k2,some 0⟩) m c2)= [b2']:=by
  simp only[r9,m9,Nat.zero_le,if_true,Nat.ble_eq]
  rfl
 have hkb2:d9 (B3 [b2'] s.heap) b2'=d9 s.heap b2':=by
  rw[w9,if_pos]
  rw[j4]
  simp
 have hsrc:n8 C.E (B3 [b2'] s.heap) e m (.slice (some ⟨b2',k2,some 0⟩) m c2)=some us:=by
  rw[← u1]
  simp only[n8,F9,hkb2]
 have h0:¬ Nat.beq m 0=true:=by rw[f8];exact hm0
 refine ⟨.slice (some ⟨s.next,0,some 0⟩) m (v7+m),_,s.next+1,⟨.only [b2'],.only [],.fix [s.next]⟩,_,?_,p1,p2,p3,fun ν k1 k2=>⟨_,_,_,rfl,.inl ⟨rfl,_,rfl,fun z hz=>?_⟩,fun z hz=>(by cases hz),.inl ⟨rfl,_,rfl,fun z hz=>?_⟩⟩,fun i z e'=>?_,Nat.le_succ _,Nat.le_succ _⟩
 ·simp only[V6,x1,y1,Option.bind_some,hids,mL,a8,C6]
  have:Z3 C.E ⟨B3 [b2'] s.heap,s.next,s.next⟩ t e b (.slice none 0 0) (.slice (some ⟨b2',k2,some 0⟩) m c2)=some (.slice (some ⟨s.next,0,some 0⟩) m (v7+m),[⟨us,e,true,t⟩]):=by
   simp only[Z3,hlen,Option.bind_some]
   rw[if_neg h0,if_pos (by simp only[Bool.and_eq_true,Nat.ble_eq,Nat.blt_eq,Nat.zero_add];exact ⟨⟨⟨hr1,hr2⟩,by unfold v7;omega⟩,by omega⟩),hsrc]
   simp only[Option.bind_some,n8,Nat.zero_add]
   rfl
  rw[this]
  rfl
 ·simp only[List.mem_singleton] at hz
  subst hz
  exact .inr ⟨o2,by simp,k1 _ _ w1⟩
 ·simp only[List.mem_singleton] at hz
  subst hz
  exact ⟨fun hF=>Nat.lt_irrefl _ (hsr.lt _ hF).1,st.next,by simp,k2 _ _ (by simp[UL])⟩
 ·simp only[UL] at e'
  split at e'
  ·cases e';exact .inr ⟨by omega,Nat.le_refl _⟩
  ·exact .inl e'
theorem aN3 {st st':l9} {s:St} {μ:Nat→Option Nat} {F:Nat→Prop} {f:E0} {fI fr0:Fr} {t e b:Nat} {x y:Operand} {hint:Option (List Nat)} {v:V} {q:P4} {conc:List Nat} {rs:List H2}
  (hsr:SR C st s μ F) (hf:FR (t8 C st s μ F) f fI) (h:aN2 st t e b (o8 f x) (o8 f y)=some (v,st',q)):
  ∃ vI h' n' r μ',V6 C.E fr0 s.prot ⟨⟨none,none,.app t e b x y⟩,conc,hint⟩ rs fI s.heap s.next=some (vI,h',n',r)∧bD4 C st st' s h' n' μ μ' F v vI r q:=by
 unfold aN2 at h
 split at h
 ·rename_i hx
  exact LZ hsr hf hx (fun w xI h=>h.scv) h
 ·rename_i hx
  refine LZ hsr hf hx (fun w xI h=>?_) h
  simp only[b9] at h
  obtain ⟨_,⟨_,h|⟨h,_⟩⟩|⟨h,_⟩⟩:=h
  ·exact h
  ·exact absurd rfl h
  ·exact absurd rfl h
 ·exact bE7 hsr hf h
theorem DG {μ:Nat→Option Nat} {F:Nat→Prop} {rs:List H2} {qs:List P4} (h:M7 μ F rs qs):∀ conc,II qs conc=true→JD rs conc= []
 | [],_=>rfl
 |k::r,hk=>by
  simp only[II,Bool.and_eq_true] at hk
  obtain ⟨h1,h2⟩:=hk
  cases hq:B1 qs k with
  |none=>rw[hq] at h1;cases h1
  |some q=>
   rw[hq] at h1
   simp only[Bool.and_eq_true,List.isEmpty_iff,Bool.not_eq_true'] at h1
   obtain ⟨w,e1,vv,lw,nw,rfl,_,_,e4⟩:=h.get hq
   rcases e4 with ⟨_,ln,rfl,e5⟩|⟨e5,_⟩
   ·have:ln= []:=by
     cases ln with
     |nil=>rfl
     |cons b r=>
      obtain ⟨_,o,ho,_⟩:=e5 b (by simp)
      rw[h1.1] at ho
      cases ho
    subst this
    simp only[JD,e1,List.nil_append,DG h r h2]
   ·rw[h1.2] at e5;cases e5
theorem bY3 {st:l9} {s:St} {μ ν:Nat→Option Nat} {F:Nat→Prop} {f:E0} {fI fr0:Fr} {o:K8} {hint:Option (List Nat)} {conc:List Nat} {rs:List H2} {qs:List P4} {Q:V→l9→P4→Prop}
  (hsr:SR C st s μ F) (hf:FR (t8 C st s μ F) f fI) (hrs:M7 ν F rs qs) (h:wpS C o hint conc qs f st Q):
  ∃ v st' q vI h' n' r μ',V6 C.E fr0 s.prot ⟨⟨none,none,o⟩,conc,hint⟩ rs fI s.heap s.next=some (vI,h',n',r)∧bD4 C st st' s h' n' μ μ' F v vI r q∧Q v st' q:=by
 unfold wpS at h
 split at h
 ·rename_i g xs
  obtain ⟨rfl,hfr,args,v,hargs,hsp,hq⟩:=h
  obtain ⟨xsI,a1,a2⟩:=aZ hf hargs
  obtain ⟨vI,e1,e2⟩:=hsp ⟨s.heap,s.next,s.next⟩ μ F xsI C.w0 (hsr.enter C.w0) a2
  refine ⟨v,st,_,vI,s.heap,s.next,⟨.but [],.only [],.fix []⟩,μ,?_,⟨hsr,e2 _,VW.le.refl _,fun ν' _ _=>⟨_,_,_,rfl,.inr ⟨rfl,_,rfl,fun z hz=>(by cases hz)⟩,fun z hz=>(by cases hz),.inl ⟨rfl,_,rfl,fun z hz=>(by cases hz)⟩⟩,fun _ _ e=> .inl e,Nat.le_refl _,Nat.le_refl _⟩,hq⟩
  have hnid:=DG hrs conc hfr
  simp only[V6,IM,hnid,List.nil_append,mL,C6,qV,a8,a1,Option.bind_some]
  rw[show C.E.pcall g xsI ⟨s.heap,s.next,s.next⟩=some (vI,[]) from e1]
  rfl
 ·rename_i hno
  split at h
  case h_2=>exact h.elim
  rename_i v st' q hv
  unfold S2 at hv
  split at hv
  ·obtain ⟨vI,h',n',r,μ',k1,k2⟩:=aN3 (fr0:=fr0) (hint:=hint) (conc:=conc) (rs:=rs) hsr hf hv
   exact ⟨v,st',q,vI,h',n',r,μ',k1,k2,h⟩
  ·obtain ⟨vI,h',n',r,μ',k1,k2,k3,k4,k5,k6⟩:=aI8 (fr0:=fr0) (conc:=conc) (rs:=rs) hsr hf hv
   exact ⟨v,st',q,vI,h',n',r,μ',k1,⟨k2,k3,k4,fun ν' _ j2=>k5.mono j2,k6.2.1,k6.2.2.1,k6.2.2.2⟩,h⟩
theorem WE (fr0:Fr) (p0:Nat) {F:Nat→Prop}:∀ (l:List sN) {qs:List P4} {rs:List H2} {fr:E0} {st:l9} {Q:E0→l9→Prop} {μ ν:Nat→Option Nat} {frI:Fr} {h:j8} {n:Nat},wpD C l qs fr st Q→
  SR C st ⟨h,n,p0⟩ μ F→FR (t8 C st ⟨h,n,p0⟩ μ F) fr frI→VW.le C.w0 (t8 C st ⟨h,n,p0⟩ μ F)→p0=C.p0→(∀ b,F b→C.w0.F b∨C.p0≤b)→M7 ν F rs qs→
  (∀ o b,μ o=some b→ν o=some b)→(∀ o o' b,ν o=some b→ν o'=some b→o=o')→(∀ o b,ν o=some b→o<st.next∧b<n)→
  ∃ frI' h' n' fr' st',uL C.E fr0 p0 l rs frI h n=some (frI',h',n')∧Rl C st' fr' ⟨h',n',p0⟩ frI'∧Q fr' st'
 | [],qs,rs,fr,st,Q,μ,ν,frI,h,n,hw,h1,h2,h3,h4,h5,h6,_,_,_=>⟨frI,h,n,fr,st,rfl,⟨μ,F,h1,h2,h3,h4,h5⟩,hw⟩
 |⟨⟨d,g,op⟩,conc,hint⟩::l,qs,rs,fr,st,Q,μ,ν,frI,h,n,hw,h1,h2,h3,h4,h5,h6,n1,n2,n3=>by
  have hrl:Rl C st fr ⟨h,n,p0⟩ frI:=⟨μ,F,h1,h2,h3,h4,h5⟩
  have run:(wpS C op hint conc qs (D3 (q9 ⟨d,g,op⟩) fr) st fun v st' r=>jH qs r conc=true∧wpD C l (qs++ [r]) (u6 fr d v) st' Q)→wanted (r8 (q9 ⟨d,g,op⟩) frI) g=some true→
    ∃ frI' h' n' fr' st',uL C.E fr0 p0 (⟨⟨d,g,op⟩,conc,hint⟩::l) rs frI h n=some (frI',h',n')∧Rl C st' fr' ⟨h',n',p0⟩ frI'∧Q fr' st':=by
   intro hq hwt
   obtain ⟨v,st',r,vI,h',n',r',μ',e1,⟨q1,q2,q3,q4,q5,q6,q7⟩,hq1,hq2⟩:=bY3 (fr0:=fr0) h1 (h2.keep (q9 ⟨d,g,op⟩)) h6 hq
   let ν':Nat→Option Nat:=fun o=>match μ' o with|some b=>some b|none=>ν o
   have hq7:n≤n':=q7
   have m1:∀ o b,μ' o=some b→ν' o=some b:=fun o b e=>by simp only[ν',e]
   have m2:∀ o b,ν o=some b→ν' o=some b:=fun o b e=>by
    cases hm:μ' o with
    |none=>simp only[ν',hm];exact e
    |some b'=>
     simp only[ν',hm]
     rcases q5 o b' hm with e'|⟨e',_⟩
     ·rw[n1 o b' e'] at e;exact e
     ·have:=(n3 o b e).1;omega
   have m3:∀ o b,ν' o=some b→μ' o=some b∨(μ' o=none∧ν o=some b):=fun o b e=>by
    cases hm:μ' o with
    |none=>simp only[ν',hm] at e;exact .inr ⟨rfl,e⟩
    |some b'=>simp only[ν',hm] at e;exact .inl e
   have key:∀ o o' b,μ' o=some b→ν o'=some b→o=o':=fun o o' b e e'=>by
    rcases q5 o b e with k|⟨_,k⟩
    ·exact n2 o o' b (n1 o b k) e'
    ·have:=(n3 o' b e').2;exact absurd k (by show ¬ n≤b;omega)
   have m4:∀ o o' b,ν' o=some b→ν' o'=some b→o=o':=fun o o' b e e'=>by
    rcases m3 o b e with a|⟨_,a⟩<;>rcases m3 o' b e' with a'|⟨_,a'⟩
    ·exact q1.inj o o' b a a'
    ·exact key o o' b a a'
    ·exact (key o' o b a' a).symm
    ·exact n2 o o' b a a'
   have m5:∀ o b,ν' o=some b→o<st'.next∧b<n':=fun o b e=>by
    rcases m3 o b e with a|⟨_,a⟩
    ·obtain ⟨d1,d2,_⟩:=q1.dom o b a
     exact ⟨by omega,by omega⟩
    ·have:=n3 o b a;omega
   have hr':=q4 ν' (fun o b e=>m2 o b (n1 o b e)) m1
   have h6':=M7.mono (F:=F) m2 h6
   have hok:=M7.all m4 h6' hr' hq1
   obtain ⟨frI',h'',n'',fr',st'',k1,k2,k3⟩:=WE fr0 p0 l (rs:=rs++ [r']) (frI:=H5 frI d vI) hq2 q1 ((h2.mono q3).put q2 d) (h3.trans q3) h4 h5 (M7.snoc hr' h6') m1 m4 m5
   refine ⟨frI',h'',n'',fr',st'',?_,k2,k3⟩
   simp only[uL,hwt,Option.bind_some]
   rw[aI0,e1]
   simp only[Option.bind_some]
   rw[if_pos hok]
   exact k1
  have skip:wpD C l (qs++ [⟨[],[],[],false,false⟩]) (u6 fr d (.tup [])) st Q→wanted (r8 (q9 ⟨d,g,op⟩) frI) g=some false→
    ∃ frI' h' n' fr' st',uL C.E fr0 p0 (⟨⟨d,g,op⟩,conc,hint⟩::l) rs frI h n=some (frI',h',n')∧Rl C st' fr' ⟨h',n',p0⟩ frI'∧Q fr' st':=by
   intro hq hwt
   obtain ⟨frI',h'',n'',fr',st'',k1,k2,k3⟩:=WE fr0 p0 l (rs:=rs++ [⟨.only [],.only [],.fix []⟩]) (frI:=H5 frI d (.tuple #[])) hq h1 (h2.put (by simp only[b9,d8];exact ⟨[],rfl,rfl⟩) d) h3 h4 h5 (M7.snoc (.mk3 (fun b hb=>(by cases hb)) (fun b hb=>(by cases hb)) (fun b hb=>(by cases hb))) h6) n1 n2 n3
   refine ⟨frI',h'',n'',fr',st'',?_,k2,k3⟩
   simp only[uL,hwt,Option.bind_some]
   exact k1
  simp only[wpD] at hw
  split at hw
  ·exact run hw rfl
  ·rename_i _ t want
   have ht:t ∈ q9 ⟨d,some (t,want),op⟩:=by simp[q9]
   split at hw
   ·rename_i b hb
    have hb':=(dP hrl hb).1 b rfl
    split at hw
    ·rename_i hbw
     exact run hw (by simp only[wanted];rw[I6 _ _ _ ht,hb'];simp[hbw])
    ·rename_i hbw
     have hbw':(b==want)=false:=by simpa using hbw
     exact skip hw (by simp only[wanted];rw[I6 _ _ _ ht,hb'];simp[hbw'])
   ·rename_i l' hb
    obtain ⟨l2,hb'⟩:=(dP hrl hb).2 l' rfl
    exact skip hw (by simp only[wanted];rw[I6 _ _ _ ht,hb'];rfl)
   ·exact hw.elim
def gD (C:D0) (l:List sN) (rs:List P4) (tail:List f9) (ks:List Nat) (K:List KF) (fr:E0) (st:l9) (P:B5):Prop:=wpD C l rs fr st fun fr st=>gO C tail ks K fr st P
def gDV (C:D0) (r:Option (V × l9 × P4)) (conc:List Nat) (d:Option Nat) (l:List sN) (rs:List P4) (tail:List f9) (ks:List Nat) (K:List KF) (fr:E0) (P:B5):Prop:=
 match r with|some (v,st',r)=>jH rs r conc=true∧gD C l (rs++ [r]) tail ks K (u6 fr d v) st' P|none=>False
def gDG (C:D0) (v:Option V) (want:Bool) (r:Option (V × l9 × P4)) (conc:List Nat) (d:Option Nat) (l:List sN) (rs:List P4) (tail:List f9) (ks:List Nat) (K:List KF) (fr:E0) (st:l9) (P:B5):Prop:=
 match v with
 |some (.sc (.bool b))=>if b==want then gDV C r conc d l rs tail ks K fr P else gD C l (rs++ [⟨[],[],[],false,false⟩]) tail ks K (u6 fr d (.tup [])) st P
 |some (.tup _)=>gD C l (rs++ [⟨[],[],[],false,false⟩]) tail ks K (u6 fr d (.tup [])) st P
 |_=>False
variable {K:List KF} {fr:E0} {st:l9} {P:B5}
theorem s7 {pre:List sN} {tail:List f9} {ks:List Nat} (h:gD C pre [] tail ks K fr st P):gC C (.drawW pre tail ks) K fr st P:=by
 unfold gC
 simp only[KK]
 rintro frI s ⟨μ,F,h1,h2,h3,h4,h5⟩
 obtain ⟨frI',h',n',fr',st',e,g1,g2⟩:=WE frI s.prot pre (rs:= []) (ν:=μ) h h1 h2 h3 h4 h5 .nil (fun _ _ e=>e) h1.inj (fun o b e=>by obtain ⟨d1,d2,_⟩:=h1.dom o b e;exact ⟨by omega,by omega⟩)
 unfold gO at g2
 obtain ⟨frI2,s2,fr2,st2,e2,k1,k2⟩:=nX tail g2 g1
 refine ⟨.normal,r8 ks frI2,s2,?_,D3 ks fr2,st2,k1.keep ks,k2⟩
 simp only[B0,e,Option.bind_some]
 rw[e2]
 rfl
theorem aP8 (rs:List P4) (tail:List f9) (ks:List Nat):gD C [] rs tail ks K fr st P=gO C tail ks K fr st P:=(rfl)
def JE:K8→Bool
 | .callF _ _=>false
 |_=>true
theorem aB6 (o:K8) (ho:JE o=true) (hint:Option (List Nat)) (conc:List Nat) (rs:List P4) (f:E0) (Q:V→l9→P4→Prop):wpS C o hint conc rs f st Q=match S2 C.E.old f st o hint with|some (v,st',r)=>Q v st' r|none=>False:=by
 cases o<;>first|rfl|cases ho
theorem XR (d:Option Nat) (o:K8) (ho:JE o=true) (conc:List Nat) (hint:Option (List Nat)) (l:List sN) (rs:List P4) (tail:List f9) (ks:List Nat):gD C (⟨⟨d,none,o⟩,conc,hint⟩::l) rs tail ks K fr st P=gDV C (S2 C.E.old (D3 (l6 (p8 o)) fr) st o hint) conc d l rs tail ks K fr P:=by
 unfold gD gDV
 simp only[wpD,cX,aB6 o ho]
 rfl
theorem NF (d:Option Nat) (t:Nat) (want:Bool) (o:K8) (ho:JE o=true) (conc:List Nat) (hint:Option (List Nat)) (l:List sN) (rs:List P4) (tail:List f9) (ks:List Nat):
  gD C (⟨⟨d,some (t,want),o⟩,conc,hint⟩::l) rs tail ks K fr st P=gDG C (f7 fr t) want (S2 C.E.old (D3 (l6 (p8 o)++ [t]) fr) st o hint) conc d l rs tail ks K fr st P:=by
 unfold gD gDG gDV
 simp only[wpD,q9,aB6 o ho]
 rfl
theorem NE (v:V) (st':l9) (r:P4) (conc:List Nat) (d:Option Nat) (l:List sN) (rs:List P4) (tail:List f9) (ks:List Nat) (h:jH rs r conc=true):gDV C (some (v,st',r)) conc d l rs tail ks K fr P=gD C l (rs++ [r]) tail ks K (u6 fr d v) st' P:=by
 simp only[gDV,h,true_and]
theorem XQ (b:Bool) (r:Option (V × l9 × P4)) (conc:List Nat) (d:Option Nat) (l:List sN) (rs:List P4) (tail:List f9) (ks:List Nat):gDG C (some (.sc (.bool b))) b r conc d l rs tail ks K fr st P=gDV C r conc d l rs tail ks K fr P:=by simp[gDG]
theorem aP7 (r:Option (V × l9 × P4)) (conc:List Nat) (d:Option Nat) (l:List sN) (rs:List P4) (tail:List f9) (ks:List Nat):gDG C (some (.sc (.bool true))) false r conc d l rs tail ks K fr st P=gD C l (rs++ [⟨[],[],[],false,false⟩]) tail ks K (u6 fr d (.tup [])) st P:=(rfl)
theorem aP6 (r:Option (V × l9 × P4)) (conc:List Nat) (d:Option Nat) (l:List sN) (rs:List P4) (tail:List f9) (ks:List Nat):gDG C (some (.sc (.bool false))) true r conc d l rs tail ks K fr st P=gD C l (rs++ [⟨[],[],[],false,false⟩]) tail ks K (u6 fr d (.tup [])) st P:=(rfl)
theorem XP (a:List V) (want:Bool) (r:Option (V × l9 × P4)) (conc:List Nat) (d:Option Nat) (l:List sN) (rs:List P4) (tail:List f9) (ks:List Nat):gDG C (some (.tup a)) want r conc d l rs tail ks K fr st P=gD C l (rs++ [⟨[],[],[],false,false⟩]) tail ks K (u6 fr d (.tup [])) st P:=(rfl)
end
section
variable {old:Nat→Nat→Option Value} {f:E0} {st:l9}
theorem aA3 (k:Option Nat) (a:Operand) (h:Option (List Nat)):S2 old f st (.load k a) h=CP old st k (o8 f a):=(rfl)
theorem RP (a x:Operand) (h:Option (List Nat)):S2 old f st (.store 1 a x) h=HY st (o8 f a) (o8 f x):=(rfl)
theorem GH (n:Nat) (hn:Nat.beq n 1=false) (a x:Operand) (h:Option (List Nat)):S2 old f st (.store n a x) h=fD st n (o8 f a) (o8 f x):=by
 show (if Nat.beq n 1 then _ else _)=_
 rw[hn];rfl
theorem aA2 (e:Nat) (a x:Operand) (h:Option (List Nat)):S2 old f st (.copy e a x) h=aN4 st e (o8 f a) (o8 f x):=(rfl)
theorem aA4 (o:K8) (ho:UM o=true):S2 old f st o none=MD st (f5 old f st.own st.next o):=by
 cases o<;>first|rfl|cases ho
def dLd (st:l9) (v:Option V) (l:List Nat):Option (V × l9 × P4):=v.map fun v=>(v,st,⟨l,[],[],false,false⟩)
theorem MA (v:V) (l:List Nat):dLd st (some v) l=some (v,st,⟨l,[],[],false,false⟩):=(rfl)
theorem CQ (k:Option Nat) (o j:Nat):CP old st k (some (.ptr o j))=dLd st (cO old st.own k (some (.ptr o j))) [o]:=(rfl)
theorem MB (k:Option Nat) (l:List D) (j:Nat):CP old st k (some (.dp l j))=dLd st (cO old st.own k (some (.dp l j))) []:=(rfl)
theorem MC (k:Option Nat) (x:Value):CP old st k (some (.sc x))=dLd st (cO old st.own k (some (.sc x))) []:=(rfl)
theorem CV (o k:Nat) (y:Value):HY st (some (.ptr o k)) (some (.sc y))=oM st o k y (f7 st.own o):=(rfl)
theorem CU (o k t e:Nat) (g:Bool) (l:List D) (y:Value) (hro:st.ro≤o) (hk:k<l.length):oM st o k y (some (.row t e g false l))=some (.tup [],⟨A9 st.own o (.row t e g false (l.set k (.sc y))),st.next,st.ro⟩,⟨[o],[o],[],false,false⟩):=by
 simp only[oM]
 rw[if_pos (by simp only[Bool.and_eq_true,Nat.ble_eq,Nat.blt_eq];exact ⟨hro,hk⟩)]
theorem CT (o k t e:Nat) (l:List D) (y:Value) (hro:st.ro≤o) (hk:k<l.length):oM st o k y (some (.gro t e false l))=some (.tup [],⟨A9 st.own o (.gro t e false (l.set k (.sc y))),st.next,st.ro⟩,⟨[o],[o],[],false,false⟩):=by
 simp only[oM]
 rw[if_pos (by simp only[Bool.and_eq_true,Nat.ble_eq,Nat.blt_eq];exact ⟨hro,hk⟩)]
theorem CS (o k t e:Nat) (l:List V) (y:Value) (hro:st.ro≤o) (hk:k<l.length):oM st o k y (some (.box t e l))=some (.tup [],⟨A9 st.own o (.box t e (l.set k (.sc y))),st.next,st.ro⟩,⟨[o],[o],[],false,false⟩):=by
 simp only[oM]
 rw[if_pos (by simp only[Bool.and_eq_true,Nat.ble_eq,Nat.blt_eq];exact ⟨hro,hk⟩)]
theorem wG (v:V):MD st (some (v,none,[]))=some (v,st,⟨[],[],[],false,false⟩):=(rfl)
theorem CR (v:V) (ob:Obj):MD st (some (v,some ob,[]))=some (v,⟨(st.next,ob)::st.own,st.next+1,st.ro⟩,⟨[],[],[st.next],false,false⟩):=(rfl)
end
section
variable {old:Nat→Nat→Option Value} {rounds:Nat} {fns:FuncId→Option n7} {prims:FuncId→List Value→St→Option (Value × List u5)} {n:Nat} {f:FuncId} {xs:List V} {af:n7}
end
theorem vC {α:Type} {r:List (Nat × α)} {i:Nat} {v:α} (h:(f7 r i).isSome=true):f7 (A9 r i v) i=some v:=by
 obtain ⟨u,hu⟩:=Option.isSome_iff_exists.1 h
 exact eQ hu
theorem SE:O4 []= .tup []:=(rfl)
section
variable {C:D0} {st:l9}
theorem FG {a a' b:V} (h:Z2 C st a a'):Z2 C st (.tup [a,b]) (.tup [a',b]):=by
 intro s μ F u h1 hv
 simp only[b9,d8] at hv ⊢
 obtain ⟨vs,rfl,v1,_,rfl,q1,v2,_,rfl,q2,rfl⟩:=hv
 exact ⟨_,rfl,v1,_,rfl,h s μ F v1 h1 q1,v2,_,rfl,q2,rfl⟩
end
theorem VV0:type_of% (And.intro @aQ1 (And.intro @aQ2 (And.intro @tH (And.intro @xB (And.intro @gX (And.intro @lY (And.intro @oR (And.intro @XL (And.intro @aP3 (And.intro @XJ (And.intro @aP4 (And.intro @NC (And.intro @aP2 (And.intro @XH (And.intro @IK (And.intro @xA (And.intro @XK (And.intro @XI (And.intro @aQ3 (And.intro @NH (And.intro @aP8 (And.intro @XR (And.intro @NF (And.intro @NE (And.intro @XQ (And.intro @aP7 (And.intro @aP6 (And.intro @XP (And.intro @aA3 (And.intro @RP (And.intro @aA4 (And.intro @CQ (And.intro @MB (And.intro @MC (And.intro @MA (And.intro @CV (And.intro @CU (And.intro @CT (And.intro @CS (@wG)))))))))))))))))))))))))))))))))))))))):=
 And.intro @aQ1 (And.intro @aQ2 (And.intro @tH (And.intro @xB (And.intro @gX (And.intro @lY (And.intro @oR (And.intro @XL (And.intro @aP3 (And.intro @XJ (And.intro @aP4 (And.intro @NC (And.intro @aP2 (And.intro @XH (And.intro @IK (And.intro @xA (And.intro @XK (And.intro @XI (And.intro @aQ3 (And.intro @NH (And.intro @aP8 (And.intro @XR (And.intro @NF (And.intro @NE (And.intro @XQ (And.intro @aP7 (And.intro @aP6 (And.intro @XP (And.intro @aA3 (And.intro @RP (And.intro @aA4 (And.intro @CQ (And.intro @MB (And.intro @MC (And.intro @MA (And.intro @CV (And.intro @CU (And.intro @CT (And.intro @CS (@wG)))))))))))))))))))))))))))))))))))))))
theorem VV1:type_of% (And.intro @CR (And.intro @NJ (And.intro @NI (And.intro @DI (And.intro @NG (And.intro @XS (And.intro @tO (And.intro @PG (And.intro @CE (And.intro @aV2 (And.intro @LU (And.intro @LV (And.intro @GU (And.intro @SA (And.intro @aA2 (And.intro @GD (And.intro @vG (And.intro @XT (And.intro @NK (And.intro @aQ0 (And.intro @bO4 (And.intro @bO3 (And.intro @aP9 (And.intro @YD (And.intro @aQ7 (And.intro @YB (And.intro @YC (And.intro @YA (And.intro @wZ (And.intro @XN (And.intro @XO (And.intro @ND (And.intro @aQ6 (And.intro @XZ (And.intro @NQ (And.intro @NR (And.intro @NS (And.intro @NP (And.intro @XY (@NL)))))))))))))))))))))))))))))))))))))))):=
 And.intro @CR (And.intro @NJ (And.intro @NI (And.intro @DI (And.intro @NG (And.intro @XS (And.intro @tO (And.intro @PG (And.intro @CE (And.intro @aV2 (And.intro @LU (And.intro @LV (And.intro @GU (And.intro @SA (And.intro @aA2 (And.intro @GD (And.intro @vG (And.intro @XT (And.intro @NK (And.intro @aQ0 (And.intro @bO4 (And.intro @bO3 (And.intro @aP9 (And.intro @YD (And.intro @aQ7 (And.intro @YB (And.intro @YC (And.intro @YA (And.intro @wZ (And.intro @XN (And.intro @XO (And.intro @ND (And.intro @aQ6 (And.intro @XZ (And.intro @NQ (And.intro @NR (And.intro @NS (And.intro @NP (And.intro @XY (@NL)))))))))))))))))))))))))))))))))))))))
theorem VV2:type_of% (And.intro @NM (And.intro @NN (And.intro @XX (And.intro @NO (And.intro @aQ5 (And.intro @aQ4 (And.intro @XW (And.intro @pC (And.intro @xP (And.intro @EE (And.intro @EX (And.intro @pV (And.intro @zE (And.intro @AY (And.intro @AZ (And.intro @uH (And.intro @SF (And.intro @SG (And.intro @QM (And.intro @bQ2 (And.intro @OV (And.intro @OW (And.intro @ZA (And.intro @YZ (And.intro @YY (And.intro @LK (And.intro @LJ (And.intro @CJ (And.intro @GN (And.intro @GO (And.intro @GM (And.intro @bP6 (And.intro @QD (And.intro @QE (And.intro @EY (And.intro @QC (And.intro @AV (And.intro @GR (And.intro @yE (@yG)))))))))))))))))))))))))))))))))))))))):=
 And.intro @NM (And.intro @NN (And.intro @XX (And.intro @NO (And.intro @aQ5 (And.intro @aQ4 (And.intro @XW (And.intro @pC (And.intro @xP (And.intro @EE (And.intro @EX (And.intro @pV (And.intro @zE (And.intro @AY (And.intro @AZ (And.intro @uH (And.intro @SF (And.intro @SG (And.intro @QM (And.intro @bQ2 (And.intro @OV (And.intro @OW (And.intro @ZA (And.intro @YZ (And.intro @YY (And.intro @LK (And.intro @LJ (And.intro @CJ (And.intro @GN (And.intro @GO (And.intro @GM (And.intro @bP6 (And.intro @QD (And.intro @QE (And.intro @EY (And.intro @QC (And.intro @AV (And.intro @GR (And.intro @yE (@yG)))))))))))))))))))))))))))))))))))))))
theorem VV3:type_of% (And.intro @yF (And.intro @vN (And.intro @vO (And.intro @qU (And.intro @bO1 (And.intro @bO2 (And.intro @WK (And.intro @wL (And.intro @bA1 (And.intro @CO (And.intro @pE (And.intro @DE (And.intro @MU (And.intro @wQ (And.intro @wR (And.intro @DO (And.intro @NY (And.intro @NZ (And.intro @DN (And.intro @MS (And.intro @ON (And.intro @OJ (And.intro @DZ (And.intro @OI (And.intro @EA (And.intro @DY (And.intro @EB (And.intro @MN (And.intro @zP (And.intro @aV6 (And.intro @ZL (And.intro @PF (And.intro @aV1 (And.intro @PH (And.intro @PN (And.intro @ZI (And.intro @EO (And.intro @aV0 (And.intro @aV3 (@PL)))))))))))))))))))))))))))))))))))))))):=
 And.intro @yF (And.intro @vN (And.intro @vO (And.intro @qU (And.intro @bO1 (And.intro @bO2 (And.intro @WK (And.intro @wL (And.intro @bA1 (And.intro @CO (And.intro @pE (And.intro @DE (And.intro @MU (And.intro @wQ (And.intro @wR (And.intro @DO (And.intro @NY (And.intro @NZ (And.intro @DN (And.intro @MS (And.intro @ON (And.intro @OJ (And.intro @DZ (And.intro @OI (And.intro @EA (And.intro @DY (And.intro @EB (And.intro @MN (And.intro @zP (And.intro @aV6 (And.intro @ZL (And.intro @PF (And.intro @aV1 (And.intro @PH (And.intro @PN (And.intro @ZI (And.intro @EO (And.intro @aV0 (And.intro @aV3 (@PL)))))))))))))))))))))))))))))))))))))))
theorem VV4:type_of% (And.intro @bP5 (And.intro @PI (And.intro @PJ (And.intro @aU9 (And.intro @yT (And.intro @ZN (And.intro @aV7 (And.intro @ZM (And.intro @ZD (And.intro @ZE (And.intro @ZG (And.intro @ZF (And.intro @EM (And.intro @ZH (And.intro @aV4 (And.intro @ZJ (And.intro @ZK (And.intro @aV5 (And.intro @bP4 (And.intro @aU8 (And.intro @ZC (And.intro @PK (And.intro @tP (And.intro @xZ (And.intro @yA (And.intro @PO (And.intro @zM (And.intro @FI (And.intro @PQ (And.intro @AG (And.intro @AI (And.intro @yS (And.intro @oP (And.intro @oQ (And.intro @PM (And.intro @tC (And.intro @mX (And.intro @fG (And.intro @dD (@qN)))))))))))))))))))))))))))))))))))))))):=
 And.intro @bP5 (And.intro @PI (And.intro @PJ (And.intro @aU9 (And.intro @yT (And.intro @ZN (And.intro @aV7 (And.intro @ZM (And.intro @ZD (And.intro @ZE (And.intro @ZG (And.intro @ZF (And.intro @EM (And.intro @ZH (And.intro @aV4 (And.intro @ZJ (And.intro @ZK (And.intro @aV5 (And.intro @bP4 (And.intro @aU8 (And.intro @ZC (And.intro @PK (And.intro @tP (And.intro @xZ (And.intro @yA (And.intro @PO (And.intro @zM (And.intro @FI (And.intro @PQ (And.intro @AG (And.intro @AI (And.intro @yS (And.intro @oP (And.intro @oQ (And.intro @PM (And.intro @tC (And.intro @mX (And.intro @fG (And.intro @dD (@qN)))))))))))))))))))))))))))))))))))))))
theorem VV5:type_of% (And.intro @iN (And.intro @fF (And.intro @tA (And.intro @aS8 (And.intro @aS7 (And.intro @PP (And.intro @ZB (And.intro @ZO (And.intro @SP (And.intro @bC7 (And.intro @aB8 (And.intro @aB9 (And.intro @zY (And.intro @QW (And.intro @QX (And.intro @zW (And.intro @zV (And.intro @FQ (And.intro @uC (And.intro @RN (And.intro @LC (And.intro @RO (And.intro @GE (And.intro @GF (And.intro @vF (And.intro @sQ (And.intro @sP (And.intro @oF (And.intro @sE (And.intro @QU (And.intro @QV (And.intro @FP (And.intro @FO (And.intro @sF (And.intro @FN (And.intro @FM (And.intro @sR (And.intro @QT (And.intro @ZX (@aZ4)))))))))))))))))))))))))))))))))))))))):=
 And.intro @iN (And.intro @fF (And.intro @tA (And.intro @aS8 (And.intro @aS7 (And.intro @PP (And.intro @ZB (And.intro @ZO (And.intro @SP (And.intro @bC7 (And.intro @aB8 (And.intro @aB9 (And.intro @zY (And.intro @QW (And.intro @QX (And.intro @zW (And.intro @zV (And.intro @FQ (And.intro @uC (And.intro @RN (And.intro @LC (And.intro @RO (And.intro @GE (And.intro @GF (And.intro @vF (And.intro @sQ (And.intro @sP (And.intro @oF (And.intro @sE (And.intro @QU (And.intro @QV (And.intro @FP (And.intro @FO (And.intro @sF (And.intro @FN (And.intro @FM (And.intro @sR (And.intro @QT (And.intro @ZX (@aZ4)))))))))))))))))))))))))))))))))))))))
theorem VV6:type_of% (And.intro @aZ5 (And.intro @aZ6 (And.intro @RH (And.intro @RF (And.intro @XG (And.intro @aO9 (And.intro @aP1 (And.intro @aP0 (And.intro @j5 (And.intro @fP (And.intro @uQ (And.intro @GT (And.intro @aA9 (And.intro @aA8 (And.intro @YI (And.intro @YJ (And.intro @YK (And.intro @YL (And.intro @EJ (And.intro @KX (And.intro @j9 (And.intro @LE (And.intro @vK (And.intro @vJ (And.intro @vH (And.intro @kJ (And.intro @vC (And.intro @SE (And.intro @LF (And.intro @J3 (And.intro @KV (And.intro @bN (And.intro @CC (And.intro @sO (And.intro @wV (And.intro @iS (And.intro @NA (And.intro @MZ (And.intro @MY (@CZ)))))))))))))))))))))))))))))))))))))))):=
 And.intro @aZ5 (And.intro @aZ6 (And.intro @RH (And.intro @RF (And.intro @XG (And.intro @aO9 (And.intro @aP1 (And.intro @aP0 (And.intro @j5 (And.intro @fP (And.intro @uQ (And.intro @GT (And.intro @aA9 (And.intro @aA8 (And.intro @YI (And.intro @YJ (And.intro @YK (And.intro @YL (And.intro @EJ (And.intro @KX (And.intro @j9 (And.intro @LE (And.intro @vK (And.intro @vJ (And.intro @vH (And.intro @kJ (And.intro @vC (And.intro @SE (And.intro @LF (And.intro @J3 (And.intro @KV (And.intro @bN (And.intro @CC (And.intro @sO (And.intro @wV (And.intro @iS (And.intro @NA (And.intro @MZ (And.intro @MY (@CZ)))))))))))))))))))))))))))))))))))))))
theorem VV7:type_of% (And.intro @sZ (And.intro @aA7 (And.intro @aA5 (And.intro @RQ (And.intro @aA6 (And.intro @RV (And.intro @RU (And.intro @RT (And.intro @RS (And.intro @AS (And.intro @RR (And.intro @RW (And.intro @wA (And.intro @GL (And.intro @DP (And.intro @GJ (And.intro @GK (And.intro @qF (And.intro @sX (And.intro @mK (And.intro @RY (And.intro @GQ (And.intro @AU (And.intro @GP (And.intro @RX (And.intro @bP (And.intro @dN (And.intro @bN4 (And.intro @bN3 (And.intro @bN2 (And.intro @bN1 (And.intro @bN0 (And.intro @bN6 (And.intro @bM9 (And.intro @bN7 (And.intro @bN5 (And.intro @CG (And.intro @CH (And.intro @HL (@aL0)))))))))))))))))))))))))))))))))))))))):=
 And.intro @sZ (And.intro @aA7 (And.intro @aA5 (And.intro @RQ (And.intro @aA6 (And.intro @RV (And.intro @RU (And.intro @RT (And.intro @RS (And.intro @AS (And.intro @RR (And.intro @RW (And.intro @wA (And.intro @GL (And.intro @DP (And.intro @GJ (And.intro @GK (And.intro @qF (And.intro @sX (And.intro @mK (And.intro @RY (And.intro @GQ (And.intro @AU (And.intro @GP (And.intro @RX (And.intro @bP (And.intro @dN (And.intro @bN4 (And.intro @bN3 (And.intro @bN2 (And.intro @bN1 (And.intro @bN0 (And.intro @bN6 (And.intro @bM9 (And.intro @bN7 (And.intro @bN5 (And.intro @CG (And.intro @CH (And.intro @HL (@aL0)))))))))))))))))))))))))))))))))))))))
theorem VV8:type_of% (And.intro @bC6 (And.intro @bQ0 (And.intro @bP9 (And.intro @tR (And.intro @ED (And.intro @EC (And.intro @xS (@xR)))))))):=
 And.intro @bC6 (And.intro @bQ0 (And.intro @bP9 (And.intro @tR (And.intro @ED (And.intro @EC (And.intro @xS (@xR)))))))
theorem VV9:type_of% (And.intro @Bool.false_eq_true (And.intro @Bool.not_true (And.intro @Bool.not_false (And.intro @Int.toNat_natCast (And.intro @Nat.zero_add (And.intro @Nat.add_zero (And.intro @Nat.mul_one (And.intro @Int.add_sub_cancel (And.intro @Bool.and_true (And.intro @Bool.true_and (And.intro @Bool.and_self (And.intro @true_or (And.intro @not_true_eq_false (And.intro @not_false_eq_true (And.intro @decide_true (And.intro @decide_false (And.intro @Option.map_some.{0,0} (And.intro @Option.bind_some.{0,0} (And.intro @List.cons_append.{0} (And.intro @List.nil_append.{0} (And.intro @List.map_cons.{0,0} (And.intro @List.map_nil.{0,0} (And.intro @List.append_nil.{0} (And.intro @Option.toList_some.{0} (And.intro @Option.toList_none.{0} (And.intro @if_true.{1} (And.intro @if_false.{1} (And.intro @List.length_cons.{0} (And.intro @List.length_nil.{0} (And.intro @List.length_singleton.{0} (And.intro @eq_self.{1} (And.intro @List.drop_zero.{0} (And.intro @List.drop_succ_cons.{0} (And.intro @Option.some.injEq.{0} (And.intro @Prod.mk.injEq.{0,0} (And.intro @List.set_cons_zero.{0} (@List.set_cons_succ.{0}))))))))))))))))))))))))))))))))))))):=
 And.intro @Bool.false_eq_true (And.intro @Bool.not_true (And.intro @Bool.not_false (And.intro @Int.toNat_natCast (And.intro @Nat.zero_add (And.intro @Nat.add_zero (And.intro @Nat.mul_one (And.intro @Int.add_sub_cancel (And.intro @Bool.and_true (And.intro @Bool.true_and (And.intro @Bool.and_self (And.intro @true_or (And.intro @not_true_eq_false (And.intro @not_false_eq_true (And.intro @decide_true (And.intro @decide_false (And.intro @Option.map_some.{0,0} (And.intro @Option.bind_some.{0,0} (And.intro @List.cons_append.{0} (And.intro @List.nil_append.{0} (And.intro @List.map_cons.{0,0} (And.intro @List.map_nil.{0,0} (And.intro @List.append_nil.{0} (And.intro @Option.toList_some.{0} (And.intro @Option.toList_none.{0} (And.intro @if_true.{1} (And.intro @if_false.{1} (And.intro @List.length_cons.{0} (And.intro @List.length_nil.{0} (And.intro @List.length_singleton.{0} (And.intro @eq_self.{1} (And.intro @List.drop_zero.{0} (And.intro @List.drop_succ_cons.{0} (And.intro @Option.some.injEq.{0} (And.intro @Prod.mk.injEq.{0,0} (And.intro @List.set_cons_zero.{0} (@List.set_cons_succ.{0}))))))))))))))))))))))))))))))))))))
theorem i6:type_of% (And.intro (@List.length_map.{0,0}) (And.intro (@List.length_set.{0}) (And.intro (@List.length_replicate.{0}) (And.intro (@List.length_cons.{0}) (And.intro (@List.length_nil.{0}) (@List.length_append.{0})))))):=
 And.intro (@List.length_map.{0,0}) (And.intro (@List.length_set.{0}) (And.intro (@List.length_replicate.{0}) (And.intro (@List.length_cons.{0}) (And.intro (@List.length_nil.{0}) (@List.length_append.{0})))))
def d6 (d:Nat) (p:K8):f9:=⟨some d,none,p⟩
def a7 (d k:Nat):f9:=⟨some d,none,.mov (.tmp k)⟩
def J0 (d k j:Nat):f9:=⟨some d,none,.ext (.tmp k) j⟩
def L4 (d f k:Nat):f9:=⟨some d,none,.callF f [.tmp k]⟩
def G9 (d k:Nat):f9:=⟨some d,none,.load none (.tmp k)⟩
def J9 (d j k:Nat):f9:=⟨some d,none,.fldA j (.tmp k)⟩
def n6 (n:Int):Operand:=.const (.int .i64 n)
def I0 (n:Int):Operand:=.const (.int .u8 n)
def y7 (d g:Nat) (p:K8):f9:=⟨some d,some (g,false),p⟩
def x9 (d g:Nat) (p:K8):f9:=⟨some d,some (g,true),p⟩
def l8 (d k:Nat) (b:BinOp) (x:Operand):f9:=⟨some d,none,.bin b (.tmp k) x⟩
def x8 (d:Nat) (n:Int):f9:=⟨some d,none,.mov (.const (.int .i64 n))⟩
def zT (k:Nat):Operand:=.tmp k
def zt:Operand:=.const (.bool true)
def zf:Operand:=.const (.bool false)
def zS (l:List f9) (ks:List Nat) (c:AC):AC:=.seq (.ops l ks) c
def zC (k:Nat) (a b:AC):AC:=.cond (.tmp k) a b
theorem WA:type_of% (And.intro @zT.eq_1 (And.intro @zt.eq_1 (And.intro @zf.eq_1 (And.intro @zS.eq_1 (And.intro @zC.eq_1 (And.intro @d6.eq_1 (And.intro @a7.eq_1 (And.intro @J0.eq_1 (And.intro @L4.eq_1 (And.intro @G9.eq_1 (And.intro @J9.eq_1 (And.intro @n6.eq_1 (And.intro @I0.eq_1 (And.intro @y7.eq_1 (And.intro @x9.eq_1 (And.intro @l8.eq_1 (And.intro @x8.eq_1 (And.intro VV0 (And.intro VV1 (And.intro VV2 (And.intro VV3 (And.intro VV4 (And.intro VV5 (And.intro VV6 (And.intro VV7 (And.intro VV8 (And.intro VV9 (And.intro @YP.eq_1 (And.intro @R8.eq_1 (And.intro @R8.eq_2 (And.intro @scL.eq_1 (And.intro @BI.eq_1 (And.intro @U5.eq_1 (@U5.eq_2)))))))))))))))))))))))))))))))))):=And.intro @zT.eq_1 (And.intro @zt.eq_1 (And.intro @zf.eq_1 (And.intro @zS.eq_1 (And.intro @zC.eq_1 (And.intro @d6.eq_1 (And.intro @a7.eq_1 (And.intro @J0.eq_1 (And.intro @L4.eq_1 (And.intro @G9.eq_1 (And.intro @J9.eq_1 (And.intro @n6.eq_1 (And.intro @I0.eq_1 (And.intro @y7.eq_1 (And.intro @x9.eq_1 (And.intro @l8.eq_1 (And.intro @x8.eq_1 (And.intro VV0 (And.intro VV1 (And.intro VV2 (And.intro VV3 (And.intro VV4 (And.intro VV5 (And.intro VV6 (And.intro VV7 (And.intro VV8 (And.intro VV9 (And.intro @YP.eq_1 (And.intro @R8.eq_1 (And.intro @R8.eq_2 (And.intro @scL.eq_1 (And.intro @BI.eq_1 (And.intro @U5.eq_1 (@U5.eq_2)))))))))))))))))))))))))))))))))
end Go.Itp
namespace Go.Itp
open Go.RowKit (Below)
set_option linter.unusedVariables false
def XC:Value→Bool
 | .string _=>true
 | .int _ _=>true
 | .bool _=>true
 |_=>false
def fnP (f0:FuncId) (F:List Value→Option Value) (f:FuncId) (xs:List Value) (_:St):Option (Value × List u5):=
 if Nat.beq f f0 then (F xs).map fun v=>(v,[]) else none
theorem ZZ {μ:Mu}:∀ {v:Value},XC v=true→tr μ v=some v
 | .string _,_=>by simp[tr]
 | .int _ _,_=>by simp[tr]
 | .bool _,_=>by simp[tr]
theorem RJ {μ:Mu}:∀ {xs:List Value},xs.all XC=true→C7 μ xs=some xs
 | [],_=>by simp[C7]
 |x::xs,h=>by
  simp only[List.all_cons,Bool.and_eq_true] at h
  simp[C7,ZZ h.1,RJ h.2]
theorem TZ {P:Program} {f0:FuncId} {F:List Value→Option Value} {w0:World} (hen:HB P f0) (hx:∀ xs v,F xs=some v→xs.all XC=true∧XC v=true)
  (hc:∀ xs v,F xs=some v→∀ w,Below w0.heap.size w0 w→Calls P f0 xs.toArray w fun e w'=>e= .returned v∧Below w.heap.size w w'):R9 P (fnP f0 F) w0:=by
 intro f xs s v bs h G μ w cs hG hr hx'
 unfold fnP at h
 split at h
 case isFalse=>cases h
 rename_i hf
 have:=f8.1 hf
 subst this
 simp only[Option.map_eq_some_iff,Prod.mk.injEq] at h
 obtain ⟨v',hv,rfl,rfl⟩:=h
 obtain ⟨h1,h2⟩:=hx xs _ hv
 rw[RJ h1] at hx'
 cases hx'
 exact cT hen hr (hc xs _ hv w (by rw[← hG];exact hr.b0)) (ZZ h2)
theorem bR9 {old:Nat→Nat→Option Value} {rounds:Nat} {fns:FuncId→Option n7} {prims:FuncId→List Value→St→Option (Value × List u5)} {n:Nat} {f0:FuncId} {F:List Value→Option Value} {st:l9} {ys:List Value} {v:Value} (hF:F ys=some v) (hv:C2 v=true) (hp:∀ xs s r,fnP f0 F f0 xs s=some r→prims f0 xs s=some r):
  H1 (x6 old rounds fns prims (n+1)) f0 st (ys.map V.sc) (.sc v):=
 aU5 (fun s=>hp _ _ _ (by unfold fnP;rw[if_pos (f8.2 rfl),hF];rfl)) hv
def ME (st:l9) (n o k:Nat) (ys:List V):Option Obj→Option (V × l9 × P4)
 |some (.box t e l)=>if Nat.ble st.ro o && Nat.beq ys.length n && bJ3 ys then (E1 l k ys).map fun l=>(.tup [],⟨A9 st.own o (.box t e l),st.next,st.ro⟩,⟨[o],[o],[],false,false⟩) else none
 |_=>none
theorem mU (st:l9) (n o k:Nat) (ys:List V):fD st n (some (.ptr o k)) (some (.agg ys))=ME st n o k ys (f7 st.own o):=by
 simp only[fD]
 cases f7 st.own o with
 |none=>rfl
 |some ob=>cases ob<;>rfl
theorem bE8 (st:l9) (o t e:Nat) (w0 w1 w2 w3:V) (a b c d:Value) (hro:st.ro≤o):ME st 4 o 0 [.sc a,.sc b,.sc c,.sc d] (some (.box t e [w0,w1,w2,w3]))=some (.tup [],⟨A9 st.own o (.box t e [.sc a,.sc b,.sc c,.sc d]),st.next,st.ro⟩,⟨[o],[o],[],false,false⟩):=by
 simp only[ME]
 rw[if_pos (by simp only[Bool.and_eq_true,Nat.ble_eq];exact ⟨⟨hro,rfl⟩,rfl⟩)]
 rfl
theorem aI7 {old:Nat→Nat→Option Value} {f:E0} {st:l9} (a x:Operand) (h:Option (List Nat)):S2 old f st (.store 4 a x) h=fD st 4 (o8 f a) (o8 f x):=GH 4 rfl a x h
theorem WZ (st:l9) (o t e:Nat) (w0 w1:V) (a:Value) (s n:Nat) (l:List D) (hro:st.ro≤o):ME st 2 o 0 [.sc a,.sl s n l] (some (.box t e [w0,w1]))=some (.tup [],⟨A9 st.own o (.box t e [.sc a,.sl s n l]),st.next,st.ro⟩,⟨[o],[o],[],false,false⟩):=by
 simp only[ME]
 rw[if_pos (by simp only[Bool.and_eq_true,Nat.ble_eq];exact ⟨⟨hro,rfl⟩,rfl⟩)]
 rfl
theorem GG {old:Nat→Nat→Option Value} {f:E0} {st:l9} (a x:Operand) (h:Option (List Nat)):S2 old f st (.store 2 a x) h=fD st 2 (o8 f a) (o8 f x):=GH 2 rfl a x h
def NX:List Value→Option Value
 | [.string s,.string t]=>if s.size<4294967281 then some (.int .i64 (Lib.index s.data.toList t.data.toList)) else none
 |_=>none
def yZ:List Value→Option Value
 | [.string s,.string t,.string u,.int .i64 n]=>if s.size<4294967281∧1≤t.size∧s.size+Lib.countB s t*u.size≤140737488355328 then some (.string ⟨(Lib.replace s.data.toList t.data.toList u.data.toList n).toArray⟩) else none
 |_=>none
def LX:List Value→Option Value
 | [.string s,.string t]=>if s.size<4294967281∧1≤t.size then some (.int .i64 (Lib.countB s t)) else none
 |_=>none
end Go.Itp
namespace Go.Itp
open Go.ChangeShapes Go.WideShapes Go.ChangeAt Go.RowKit
set_option linter.unusedVariables false

end Go.Itp
namespace Go.Itp
set_option linter.unusedVariables false
set_option linter.constructorNameAsVariable false
section
variable {C:D0} {st:l9} {fr:E0}
theorem qB {s n:Nat} {l:List D} (h:s ≠ 1∨n ≠ 0):Z2 C st (.sl s n l) (.sl 3 n l):=by
 intro s' μ F u h1 hv
 simp only[b9,u7] at hv ⊢
 rcases hv with ⟨a,c,rfl,i,k,r,q⟩|⟨h2,rfl,rfl,rfl|⟨h3,_⟩⟩
 ·exact .inl ⟨a,c,rfl,i,k,r,fun h=>by cases h⟩
 ·exact .inr ⟨by omega,rfl,rfl,.inl rfl⟩
 ·rcases h with h|h
  ·exact absurd h3 h
  ·exact absurd rfl h
theorem lJ:Z2 C st (.sc (.slice none 0 0)) (.sl 3 0 []):=by
 intro s μ F u h1 hv
 rw[hv.scv]
 simp only[b9,u7]
 refine .inr ⟨by omega,?_,?_,.inl ?_⟩<;>trivial
theorem SI {v:V} {x:Value} {s n:Nat} {l:List D} (hs:w5 st.own v=some (.sl s n l)) (hrow:E4 st.ro st.own (dJ v)=true) (hk:s ≠ 1∨n ≠ 0) (h0:C.w0.nx=0) (hro:st.ro=0):M9 C [(0,.tup [v,.sc x])] st [(0,.tup [.sl 3 n l,.sc x])] ⟨[],0,0⟩:=by
 have e1:dJ (.tup [v,.sc x])=dJ v:=by simp[dJ,aS]
 have e2:w5 st.own (.tup [v,.sc x])=some (.tup [.sl s n l,.sc x]):=by simp[w5,J7,hs]
 refine (eM (t:=0) (v:= .tup [v,.sc x]) rfl e2 (by rw[e1];exact hrow)).trans ?_
 refine (M3 (t:=0) (v:= .tup [.sl s n l,.sc x]) (v':= .tup [.sl 3 n l,.sc x]) rfl (FG (qB hk))).trans ?_
 exact p9 [] 0 h0 hro rfl rfl rfl
theorem E5 {x:Value} (h0:C.w0.nx=0) (hro:st.ro=0):M9 C [(0,.tup [.sc (.slice none 0 0),.sc x])] st [(0,.tup [.sl 3 0 [],.sc x])] ⟨[],0,0⟩:=
 (M3 (t:=0) (v:= .tup [.sc (.slice none 0 0),.sc x]) (v':= .tup [.sl 3 0 [],.sc x]) rfl (FG lJ)).trans (p9 [] 0 h0 hro rfl rfl rfl)
theorem T8 {n:Nat} {l:List D} {x:Value}:bM [] (.tup [.sl 3 n l,.sc x]):=eD (by simp only[Cl,KQ,and_true];rfl)
end
section
variable {C:D0} {st:l9} {fr:E0}
theorem FH {a a' b b' c:V} (h:Z2 C st a a') (k:Z2 C st b b'):Z2 C st (.tup [a,b,c]) (.tup [a',b',c]):=by
 intro s μ F u h1 hv
 simp only[b9,d8] at hv ⊢
 obtain ⟨vs,rfl,v1,_,rfl,q1,v2,_,rfl,q2,v3,_,rfl,q3,rfl⟩:=hv
 exact ⟨_,rfl,v1,_,rfl,h s μ F v1 h1 q1,v2,_,rfl,k s μ F v2 h1 q2,v3,_,rfl,q3,rfl⟩
end
section
variable {old:Nat→Nat→Option Value} {rounds:Nat} {fns:FuncId→Option n7} {prims:FuncId→List Value→St→Option (Value × List u5)} {n:Nat} {f:FuncId} {C:D0} {st:l9}
theorem TF {v:V} {Q:V→l9→Prop} (hC:C.E=x6 old rounds fns prims (n+1)) (hp:∀ x s,prims f [x] s=some (x,[])) (hq:Q v st):W3 C f [v] st Q:=by
 refine ⟨v,st,hq,fun s μ F xsI hsr hx hpr=>?_⟩
 simp only[d8] at hx
 obtain ⟨vI,_,rfl,h1,rfl⟩:=hx
 refine ⟨vI,s,μ,F,?_,hsr,h1,VW.le.refl _,rfl,Nat.le_refl _,fun b hb=> .inl hb⟩
 simp only[callI,hC,N4,hp]
 rfl
end
theorem mY (g:Bool) (o k:Nat):rB 0 g (.ptr o k) (.sc (.pointer none))=some (.sc (.bool g)):=by cases g<;>rfl
theorem wK (g:Bool):rB 0 g (.sc (.pointer none)) (.sc (.pointer none))=some (.sc (.bool (!g))):=by cases g<;>rfl
theorem qM {α:Type}:∀ (r:List (Nat × α)) (i j:Nat) (v:α),i ≠ j→I2 i (A9 r j v)=A9 (I2 i r) j v
 | [],i,j,v,h=>rfl
 |(k,u)::r,i,j,v,h=>by
  simp only[J3,bN]
  by_cases h1:j=k
  ·subst h1
   rw[if_pos rfl,bN,if_neg h,if_neg h,J3,if_pos rfl]
  ·rw[if_neg h1,bN]
   by_cases h2:i=k
   ·rw[if_pos h2,if_pos h2];exact qM r i j v h
   ·rw[if_neg h2,if_neg h2,J3,if_neg h1,qM r i j v h]
section
variable {C:D0} {st:l9}
theorem aY4 {o:Nat}:Z2 C st (.gr 2 o 0) (.sc (.slice none 0 0)):=by
 intro s' μ F u h1 hv
 simp only[b9] at hv ⊢
 rcases hv.2 with ⟨_,h|⟨h,_⟩⟩|⟨h,_⟩
 ·exact ⟨h,rfl⟩
 ·exact absurd rfl h
 ·exact absurd rfl h
end
section
variable {old:Nat→Nat→Option Value} {rounds:Nat} {fns:FuncId→Option n7} {prims:FuncId→List Value→St→Option (Value × List u5)} {n:Nat} {f:FuncId} {xs:List V} {v:V} {st st1:l9} {af:n7} {C:D0}
theorem aM5 {st':l9} {Q:V→l9→Prop} (hC:C.E=x6 old rounds fns prims (n+1)) (hf:fns f=some af) (hpu:af.pure=false) (hp:∀ xs s,prims f xs s=none) (hlen:xs.length≤af.n) (hq:Q v st1)
  (hW:∀ C':D0,C'.w0.nx=st.next→M9 C' (R8 0 xs) st (R8 0 xs) st') (h:∀ C':D0,C'.E=x6 old rounds fns prims n→C'.w0.nx=st.next→gC C' af.code [] (R8 0 xs) st' (qL C' af.res v st1)):W3 C f xs st Q:=by
 refine ⟨v,st1,hq,fun s μ F xsI hsr hx hpr=>?_⟩
 let C':D0:=⟨x6 old rounds fns prims n,s.next,s.heap,C.U,⟨m8 (x6 old rounds fns prims n) s.heap,F,μ,st.next⟩,C.p0⟩
 have hE:m8 C'.E=m8 C.E:=by rw[hC];exact bO _ _
 have hs':SR C' st s μ F:=hsr.env2 hE (Nat.le_refl _) (fun b=>⟨fun hb=>⟨by have:=(hsr.un b hb).1;have:=hsr.n0;show b<s.next;omega,rfl⟩,fun hb=>hb⟩)
 have hx':d8 (t8 C' st s μ F) xs xsI:=by
  show d8 ⟨m8 C'.E s.heap,F,μ,st.next⟩ xs xsI
  rw[hE];exact hx
 obtain ⟨vI,sf,hbody,μ',G,g1,g2,g3,g4,g5⟩:=vP (C:=C') (s:=s) hlen (h C' rfl rfl) (hW C' rfl s (dM 0 xsI) ⟨μ,F,hs',eK 0 hx',VW.le.refl _,hpr,fun b hb=> .inl hb⟩) hx.length
 have hn:s.next≤sf.next:=g1.n0
 have hw:t8 C st1 sf μ' G=t8 C' st1 sf μ' G:=by
  show (⟨m8 C.E sf.heap,G,μ',st1.next⟩:VW)=⟨m8 C'.E sf.heap,G,μ',st1.next⟩
  rw[hE]
 have g1':SR C st1 sf μ' G:=g1.env2 hE.symm (by have:=hsr.n0;omega) (fun b=>⟨fun hb=>⟨(hsr.un b hb).1,by rw[(g1.un b hb).2];exact (hsr.un b hb).2⟩,fun hb=>hb⟩)
 refine ⟨vI,sf,μ',G,?_,g1',by rw[hw];exact g2,?_,by rw[g4,hpr],hn,fun b hb=>?_⟩
 ·simp only[callI,hC,N4,sU,hp,hf,Option.bind_some,hpu]
  exact hbody
 ·rw[hw]
  show VW.le ⟨m8 C.E s.heap,F,μ,st.next⟩ _
  rw[← hE];exact g3
 ·rcases g5 b hb with hb|hb
  ·exact .inl hb
  ·exact .inr (by rw[hpr];exact hb)
end
def bD (b:UInt8):D:= .sc (.int .u8 b.toNat)
def eG (s:ByteArray):List D:=s.data.toList.map bD
theorem bK0 (s:ByteArray):s.data.toList.map (fun b=>D.sc (.int .u8 b.toNat))=eG s:=(rfl)
theorem RB (a b:ByteArray):eG (a++b)=eG a++eG b:=by simp[eG]
theorem AA (s:ByteArray):(eG s).length=s.size:=by simp[eG]
theorem bK1 (s:ByteArray):W5 (eG s)=true:=by
 unfold W5 eG
 rw[List.all_eq_true]
 intro d hd
 obtain ⟨b,_,rfl⟩:=List.mem_map.1 hd
 rfl
theorem mV:∀ (l:List UInt8),A7 (l.map bD)=some l
 | []=>rfl
 |b::r=>by
  have:=mV r
  rw[List.map_cons]
  show (A7 (r.map bD)).map (UInt8.ofNat ((b.toNat:Int)).toNat::·)=some (b::r)
  rw[this]
  simp
theorem aJ6 (st:l9) (t:TypeId):BA st t (.sc (.pointer none)) (.sc (.int .i64 0))=some (.sc (.string .empty),st):=(rfl)
theorem aJ5 (st:l9) (t e o:Nat) (s:ByteArray) (ho:f7 st.own o=some (.gro t e false (eG s))) (hro:st.ro≤o) (h0:0<s.size) (h1:s.size≤1099511627776):BA st t (.ptr o 0) (.sc (.int .i64 s.size))=some (.sc (.string s),⟨I2 o st.own,st.next,st.ro⟩):=by
 simp only[BA,ho]
 rw[if_pos ⟨by omega,by unfold r6;omega,by rw[Nat.ble_eq];exact hro⟩]
 have e1:(Nat.beq t t && !false)=true:=by rw[(f8 (i:=t) (j:=t)).2 rfl];rfl
 rw[if_pos e1]
 have e2:B8 ((eG s).drop 0) ((s.size:Int)).toNat=some (eG s):=by
  rw[List.drop_zero,Int.toNat_natCast,V0 _ _ (by rw[AA];exact Nat.le_refl _),List.take_of_length_le (by rw[AA];exact Nat.le_refl _)]
 rw[e2]
 simp only[Option.bind_some,eG,mV,Option.map_some]
def iD (x:Int):D:= .sc (.int .i64 x)
def RdV (st:l9) (v:V) (l:List Int):Prop:=(∃ s,v= .sl s l.length (l.map iD))∨(∃ s o t z,v= .gr s o l.length∧f7 st.own o=some (.gro t 1 z (l.map iD)))∨(∃ o c t g z,v= .ref o 0 l.length c∧f7 st.own o=some (.row t 1 g z (l.map iD)))∨(v= .sc (.slice none 0 0)∧l= [])
structure Rdv (H:E7) (v:V) (l:List Int) (p:Nat→V):Prop where
 len:pA false v=some (.sc (.int .i64 l.length))
 idx:∀ i:Int,0≤i→i<l.length→iY 1 v (.sc (.int .i64 i))=some (p i.toNat)
 ld:∀ (old:Nat→Nat→Option Value) (k:Nat),k<l.length→cO old H none (some (p k))=some (.sc (.int .i64 l[k]!))
theorem RdV.sl (st:l9) (s:Nat) (l:List Int):RdV st (.sl s l.length (l.map iD)) l:= .inl ⟨s,rfl⟩
theorem RdV.gr {st:l9} {s o t:Nat} {z:Bool} {l:List Int} (h:f7 st.own o=some (.gro t 1 z (l.map iD))):RdV st (.gr s o l.length) l:= .inr (.inl ⟨s,o,t,z,rfl,h⟩)
theorem RdV.ref {st:l9} {o c t:Nat} {g z:Bool} {l:List Int} (h:f7 st.own o=some (.row t 1 g z (l.map iD))):RdV st (.ref o 0 l.length c) l:= .inr (.inr (.inl ⟨o,c,t,g,z,rfl,h⟩))
set_option maxRecDepth 100000
set_option linter.unusedSimpArgs false
section
variable {old:Nat→Nat→Option Value} {rounds:Nat} {fns:FuncId→Option n7} {prims:FuncId→List Value→St→Option (Value × List u5)} {n:Nat} {f:FuncId} {C:D0} {st:l9}
end
theorem bE0 {H:E7} {o t:Nat} {g z:Bool} {L:List UInt8} (h:f7 H o=some (.row t 1 g z (L.map bD))) (c:Nat):aK8 H (.ref o 0 L.length c)=some (.sc (.string ⟨L.toArray⟩)):=by
 have e:((L.map bD).drop 0).take (L.length*1)=L.map bD:=by rw[List.drop_zero,Nat.mul_one,List.take_of_length_le (by simp)]
 simp only[aK8,okV,W1,Option.bind_some,if_true,J8,h,List.length_map,Nat.zero_add,Nat.mul_one,Nat.le_refl]
 rw[Nat.mul_one] at e
 rw[e]
 simp[mV]
theorem cD6 (k:Nat) (h:k<256):bD (UInt8.ofNat k)= .sc (.int .u8 k):=by
 unfold bD
 rw[UInt8.toNat_ofNat_of_lt' h]
theorem CK (l m:List UInt8):(⟨l.toArray⟩:ByteArray)++⟨m.toArray⟩=⟨(l++m).toArray⟩:=by
 apply ByteArray.ext
 simp
theorem n4 (l:List UInt8):(⟨l.toArray⟩:ByteArray).size=l.length:=by simp[ByteArray.size]
theorem K9 (l m:List UInt8) (h:l.length+m.length<9223372036854775807):K7 .add (.string ⟨l.toArray⟩) (.string ⟨m.toArray⟩)=some (.string ⟨(l++m).toArray⟩):=by
 rw[aK9 _ _ (by rw[n4,n4];exact h),CK]
theorem GZ (k:Nat) (h:k<256):IntKind.wrap .u8 (k:Int)=k:=by
 simp[IntKind.wrap,IntKind.signed,IntKind.bits]
 omega
theorem WJ {H:E7} {o t:Nat} {g z:Bool} (k:Nat) (hk:k<256) (h:f7 H o=some (.row t 1 g z [.sc (.int .u8 (k:Int))])) (c:Nat):aK8 H (.ref o 0 1 c)=some (.sc (.string ⟨[UInt8.ofNat k].toArray⟩)):=
 bE0 (L:= [UInt8.ofNat k]) (g:=g) (z:=z) (t:=t) (by rw[List.map_cons,List.map_nil,cD6 k hk];exact h) c
def n9 (c:UInt8):List UInt8→List (List UInt8)
 | []=> [[]]
 |b::r=>if b=c then []::n9 c r else match n9 c r with
   | []=> [[b]]
   |w::ws=>(b::w)::ws
def join (c:UInt8):List (List UInt8)→List UInt8
 | []=> []
 | [w]=>w
 |w::v::ws=>w++c::join c (v::ws)
theorem eN (c:UInt8):∀ s,n9 c s ≠ []
 | []=>by simp[n9]
 |b::r=>by
  simp only[n9]
  split
  ·simp
  ·split<;>simp
theorem O5 {c:UInt8}:∀ {s:List UInt8},c ∉ s→n9 c s= [s]
 | [],_=>rfl
 |b::r,h=>by
  rw[List.mem_cons,not_or] at h
  have ih:=O5 h.2
  simp only[n9]
  rw[if_neg (fun e=>h.1 e.symm),ih]
theorem F8 {c:UInt8}:∀ {a:List UInt8} (r:List UInt8),c ∉ a→n9 c (a++c::r)=a::n9 c r
 | [],r,_=>by simp[n9]
 |b::a,r,h=>by
  rw[List.mem_cons,not_or] at h
  have ih:=F8 r h.2
  rw[List.cons_append,n9,if_neg (fun e=>h.1 e.symm),ih]
theorem S4 (c:UInt8):∀ s:List UInt8,c ∉ s∨∃ a r,s=a++c::r∧c ∉ a
 | []=> .inl (by simp)
 |b::s=>by
  by_cases h:b=c
  ·subst h;exact .inr ⟨[],s,rfl,by simp⟩
  ·rcases S4 c s with h2|⟨a,r,rfl,h2⟩
   ·exact .inl (by rw[List.mem_cons,not_or];exact ⟨fun e=>h e.symm,h2⟩)
   ·exact .inr ⟨b::a,r,rfl,by rw[List.mem_cons,not_or];exact ⟨fun e=>h e.symm,h2⟩⟩
theorem nV {c:UInt8}:∀ {ws:List (List UInt8)},ws ≠ []→(∀ w ∈ ws,c ∉ w)→n9 c (join c ws)=ws
 | [],h,_=>absurd rfl h
 | [w],_,h=>O5 (h w (by simp))
 |w::v::ws,_,h=>by
  rw[join,F8 _ (h w (by simp)),nV (by simp) fun x hx=>h x (List.mem_cons_of_mem _ hx)]
theorem dV {c:UInt8}:∀ (ws:List (List UInt8)) (w:List UInt8),ws ≠ []→join c (ws++ [w])=join c ws++c::w
 | [],w,h=>absurd rfl h
 | [v],w,_=>rfl
 |v::u::ws,w,_=>by
  have:=dV (c:=c) (u::ws) w (by simp)
  simp only[List.cons_append,join,List.append_assoc] at this ⊢
  rw[this]
theorem words_len {c:UInt8}:∀ (n:Nat) {s:List UInt8},s.length≤n→(n9 c s).length≤s.length+1∧∀ w ∈ n9 c s,w.length≤s.length
 |n,s,hn=>by
  rcases S4 c s with h|⟨a,r,rfl,h⟩
  ·rw[O5 h];simp
  ·rw[F8 r h]
   cases n with
   |zero=>simp at hn
   |succ n=>
    have ih:=words_len (c:=c) n (s:=r) (by simp at hn;omega)
    refine ⟨by simp only[List.length_cons,List.length_append];omega,fun w hw=>?_⟩
    rcases List.mem_cons.1 hw with rfl|hw
    ·simp only[List.length_cons,List.length_append];omega
    ·have:=ih.2 w hw
     simp only[List.length_cons,List.length_append];omega
theorem rE (l:List UInt8) (i j:Nat):(⟨l.toArray⟩:ByteArray).extract i j=⟨((l.drop i).take (j - i)).toArray⟩:=by
 apply ByteArray.ext
 apply Array.ext'
 rw[ByteArray.data_extract]
 simp
theorem aF1 (k:IntKind) (z:Int) (n:Nat) (h0:0≤z) (h1:z<n):x5 (.int k z) n=some z.toNat:=by
 simp only[x5];rw[if_pos ⟨h0,h1⟩]
theorem kK (k:IntKind) (z:Int) (d n:Nat) (h0:0≤z) (h1:z≤n):r7 (some (.int k z)) d n=some z.toNat:=by
 simp only[r7];rw[if_pos ⟨h0,h1⟩]
theorem U8 (l:List UInt8) (k:IntKind) (z:Int) (h0:0≤z) (h1:z<l.length):uP (.sc (.string ⟨l.toArray⟩)) (.sc (.int k z))=some (.sc (.int .u8 (l[z.toNat]!).toNat)):=by
 simp only[uP]
 rw[aF1 _ _ _ h0 (by rw[n4];exact h1)]
 have hz:z.toNat<l.length:=by omega
 simp only[Option.bind_some,x7,List.getElem?_eq_getElem hz]
 rw[getElem!_pos l z.toNat hz]
theorem sC (l:List UInt8) (k j:IntKind) (a b:Int) (h0:0≤a) (h1:a≤b) (h2:b≤l.length):uA (some (.int k a)) (some (.int j b)) (.sc (.string ⟨l.toArray⟩))=some (.sc (.string ⟨((l.drop a.toNat).take (b.toNat - a.toNat)).toArray⟩)):=by
 simp only[uA]
 rw[kK _ _ _ _ (by omega) (by rw[n4];exact h2),Option.bind_some,kK _ _ _ _ h0 (by omega),Option.bind_some,rE]
theorem qC (l:List UInt8) (j:IntKind) (b:Int) (h0:0≤b) (h2:b≤l.length):uA none (some (.int j b)) (.sc (.string ⟨l.toArray⟩))=some (.sc (.string ⟨(l.take b.toNat).toArray⟩)):=by
 simp only[uA]
 rw[kK _ _ _ _ (by omega) (by rw[n4];exact h2),Option.bind_some,show r7 none 0 b.toNat=some 0 from rfl,Option.bind_some,rE]
 simp
theorem fX (l:List UInt8) (k:IntKind) (a:Int) (h0:0≤a) (h1:a≤l.length):uA (some (.int k a)) none (.sc (.string ⟨l.toArray⟩))=some (.sc (.string ⟨(l.drop a.toNat).toArray⟩)):=by
 simp only[uA]
 rw[show r7 none (ByteArray.mk l.toArray).size (ByteArray.mk l.toArray).size=some l.length by rw[n4];rfl,Option.bind_some,kK _ _ _ _ h0 (by omega),Option.bind_some,rE]
 rw[List.take_of_length_le (by simp)]
theorem X0 (l m:List UInt8):((⟨l.toArray⟩:ByteArray)=⟨m.toArray⟩)=(l=m):=by
 refine propext ⟨fun h=>?_,fun h=>by rw[h]⟩
 have:=congrArg (fun b:ByteArray=>b.data.toList) h
 simpa using this
theorem cI1 (l m:List UInt8):K7 .eql (.string ⟨l.toArray⟩) (.string ⟨m.toArray⟩)=some (.bool (decide (l=m))):=by
 rw[HL]
 have:(ByteArray.mk l.toArray=ByteArray.mk m.toArray)↔l=m:=by
  constructor
  ·intro h
   have:=congrArg (fun b:ByteArray=>b.data.toList) h
   simpa using this
  ·rintro rfl;rfl
 simp only[this]
theorem H1.env {E E':E6} {f:FuncId} {st:l9} {xs:List V} {v:V} (h:H1 E f st xs v) (hp:E'.pcall=E.pcall) (ho:E'.old=E.old):H1 E' f st xs v:=by
 have ha:m8 E'=m8 E:=SZ ho
 intro s μ F xsI w0 hsr hx
 have hw:t8 (C1 E' s w0) ⟨st.own,st.next,st.next⟩ ⟨s.heap,s.next,s.next⟩ μ F=t8 (C1 E s w0) ⟨st.own,st.next,st.next⟩ ⟨s.heap,s.next,s.next⟩ μ F:=by
  show (⟨m8 E' s.heap,F,μ,st.next⟩:VW)=⟨m8 E s.heap,F,μ,st.next⟩
  rw[ha]
 have hsr':SR (C1 E s w0) ⟨st.own,st.next,st.next⟩ ⟨s.heap,s.next,s.next⟩ μ F:=hsr.env (C':=C1 E s w0) ha.symm rfl rfl rfl
 obtain ⟨vI,e,hv⟩:=h s μ F xsI w0 hsr' (by rw[← hw];exact hx)
 exact ⟨vI,by rw[hp];exact e,hv⟩
theorem GW {C:D0} {fr:E0} {own own':E7} {nx ro:Nat} (h:∀ o ob,f7 own' o=some ob→f7 own o=some ob):M9 C fr ⟨own,nx,ro⟩ fr ⟨own',nx,ro⟩:=by
 rintro s frI ⟨μ,F,h1,hf,h3,h4,h5⟩
 let μ':Nat→Option Nat:=fun o=>if (f7 own' o).isSome then μ o else none
 have hμ:∀ o b,μ' o=some b→μ o=some b∧∃ ob,f7 own' o=some ob:=fun o b e=>by
  simp only[μ'] at e
  split at e
  ·rename_i hs;exact ⟨e,Option.isSome_iff_exists.1 hs⟩
  ·cases e
 have hμ2:∀ o b ob,f7 own' o=some ob→μ o=some b→μ' o=some b:=fun o b ob e1 e2=>by
  simp only[μ',e1,Option.isSome_some,if_true];exact e2
 have hle:VW.le (t8 C ⟨own,nx,ro⟩ s μ F) (t8 C ⟨own',nx,ro⟩ s μ' F):=⟨fun _ _=>rfl,fun _ hb=>hb,Nat.le_refl _,fun o b _ e=>(hμ o b e).1⟩
 refine ⟨μ',F,⟨?_,?_,?_,?_,?_,h1.lt,h1.cl,h1.un,h1.n0,?_,h1.hb,h1.pr,?_⟩,hf.mono hle,h3.trans hle,h4,h5⟩
 ·intro o ob e hn
  obtain ⟨b,blk,m1,m2,m3⟩:=h1.obj o ob (h o ob e) hn
  exact ⟨b,blk,hμ2 o b ob e m1,m2,m3.mono hle⟩
 ·intro o ob b e e2 hz
  exact h1.wr o ob b (h o ob e) (hμ o b e2).1 hz
 ·intro o ob b e e2 hz
  exact h1.fz o ob b (h o ob e) (hμ o b e2).1 hz
 ·intro o o' b e e'
  exact h1.inj o o' b (hμ o b e).1 (hμ o' b e').1
 ·intro o b e
  obtain ⟨e1,ob,e2⟩:=hμ o b e
  obtain ⟨d1,d2,ob',d3,d4⟩:=h1.dom o b e1
  have:=h o ob e2
  rw[d3] at this
  cases this
  exact ⟨d1,d2,_,e2,d4⟩
 ·intro o ob e
  exact h1.own o ob (h o ob e)
 ·intro o b e hr
  exact h1.pb o b (hμ o b e).1 hr
section
variable {C:D0} {st:l9} {fr:E0}
theorem TG {f:FuncId} {xs:List V} {st':l9} {Q:V→l9→Prop} (hW:∀ C':D0,C'.w0.nx=st.next→M9 C' [] st [] st') (h:W3 C f xs st' Q):W3 C f xs st Q:=by
 obtain ⟨v,st2,hq,k⟩:=h
 refine ⟨v,st2,hq,fun s μ F xsI hsr hx hpr=>?_⟩
 let C':D0:=⟨C.E,s.next,s.heap,C.U,t8 C st s μ F,C.p0⟩
 have hs':SR C' st s μ F:=hsr.env2 rfl (Nat.le_refl _) (fun b=>⟨fun hb=>⟨by have:=(hsr.un b hb).1;have:=hsr.n0;show b<s.next;omega,rfl⟩,fun hb=>hb⟩)
 obtain ⟨μ1,F1,g1,_,g3,g4,g5⟩:=hW C' rfl s [] ⟨μ,F,hs',(fun i u e=>by cases e),VW.le.refl _,hpr,fun b hb=> .inl hb⟩
 have g1':SR C st' s μ1 F1:=g1.env2 rfl (by have:=hsr.n0;exact this) (fun b=>⟨fun hb=>hsr.un b hb,fun hb=>hb⟩)
 have hle:VW.le (t8 C st s μ F) (t8 C st' s μ1 F1):=g3
 obtain ⟨vI,s',μ',F',q0,q1,q2,q3,q4,q5,q6⟩:=k s μ1 F1 xsI g1' (hx.mono hle) hpr
 refine ⟨vI,s',μ',F',q0,q1,q2,hle.trans q3,q4,q5,fun b hb=>?_⟩
 rcases q6 b hb with hb|hb
 ·rcases g5 b hb with hb|hb
  ·exact .inl hb
  ·exact .inr (by rw[hpr];exact hb)
 ·exact .inr hb
end
end Go.Itp
namespace Go.Itp
open Go.Lib
set_option linter.unusedVariables false
def A6 (b:UInt8):Bool:=decide (48≤b.toNat) && decide (b.toNat≤57)
theorem bB {d:Nat} (h:d<10):A6 (UInt8.ofNat (48+d))=true∧(UInt8.ofNat (48+d)).toNat=48+d:=by
 have:(UInt8.ofNat (48+d)).toNat=48+d:=UInt8.toNat_ofNat_of_lt' (by unfold UInt8.size;omega)
 refine ⟨?_,this⟩
 simp only[A6,this,Bool.and_eq_true,decide_eq_true_eq]
 omega
theorem mW:∀ (n u:Nat),u≤n→∀ c ∈ decDigits u,A6 c=true
 |n,u,hn,c,hc=>by
  rw[decDigits] at hc
  split at hc
  ·rw[List.mem_singleton.1 hc];exact (bB (by omega)).1
  ·rcases List.mem_append.1 hc with hc|hc
   ·cases n with
    |zero=>omega
    |succ n=>exact mW n (u / 10) (by omega) c hc
   ·rw[List.mem_singleton.1 hc];exact (bB (by omega)).1
theorem xH {z:Int} (h:0≤z):∀ c ∈ itoa z,A6 c=true:=by
 obtain ⟨u,rfl⟩:=Int.eq_ofNat_of_zero_le h
 rw[itoa_nonneg]
 exact mW u u (Nat.le_refl _)
theorem aR (u:Nat):decDigits u ≠ []:=by rw[decDigits];split<;>simp
theorem oY {z:Int}:itoa z ≠ []:=by unfold itoa;split;simp;exact aR _
theorem iK:∀ (l m:List UInt8) (acc:Nat),decFrom acc (l++m)=(decFrom acc l).bind fun a=>decFrom a m
 | [],m,acc=>rfl
 |b::r,m,acc=>by
  simp only[List.cons_append,decFrom]
  cases digitVal b with
  |none=>rfl
  |some d=>exact iK r m _
theorem iM {d:Nat} (h:d<10):digitVal (UInt8.ofNat (48+d))=some d:=by
 unfold digitVal
 rw[(bB h).2,if_pos (by omega)]
 congr 1
 omega
theorem N5:∀ (n u:Nat),u≤n→decFrom 0 (decDigits u)=some u
 |n,u,hn=>by
  rw[decDigits]
  split
  ·rename_i h
   simp only[decFrom,iM h]
   congr 1
   omega
  ·cases n with
   |zero=>omega
   |succ n=>
    rw[iK,N5 n (u / 10) (by omega)]
    simp only[Option.bind_some,decFrom,iM (show u % 10<10 by omega)]
    congr 1
    omega
theorem BM {u v:Nat} (h:decDigits u=decDigits v):u=v:=by
 have h1:=N5 u u (Nat.le_refl _)
 rw[h,N5 v v (Nat.le_refl _)] at h1
 exact (Option.some.inj h1).symm
theorem OD {x y:Int} (hx:0≤x) (hy:0≤y) (h:itoa x=itoa y):x=y:=by
 obtain ⟨u,rfl⟩:=Int.eq_ofNat_of_zero_le hx
 obtain ⟨v,rfl⟩:=Int.eq_ofNat_of_zero_le hy
 rw[itoa_nonneg,itoa_nonneg] at h
 rw[BM h]
theorem LG (u:Nat) (h:(decDigits u).length≤18):atoiAll (decDigits u)= .ok (u:Int):=by
 rw[atoiAll_short _ h]
 have hd:=mW u u (Nat.le_refl _)
 have hf:=N5 u u (Nat.le_refl _)
 cases hw:decDigits u with
 |nil=>exact absurd hw (aR u)
 |cons b r=>
  rw[hw] at hd hf
  have hb:=hd b (by simp)
  simp only[A6,Bool.and_eq_true,decide_eq_true_eq] at hb
  have n1:¬ b=45:=by rintro rfl;simp at hb
  have n2:¬ b=43:=by rintro rfl;simp at hb
  have e1:(b==45)=false:=by simpa using n1
  have e2:(b==43)=false:=by simpa using n2
  simp only[atoi,e1,e2,decNat,List.isEmpty_cons,hf]
  rfl
theorem Y4:∀ (k u:Nat),u<10 ^ (k+1)→(decDigits u).length≤k+1
 |0,u,h=>by rw[decDigits,dif_pos (by simpa using h)];simp
 |k+1,u,h=>by
  rw[decDigits]
  split
  ·simp
  ·have:=Y4 k (u / 10) (by rw[Nat.pow_succ] at h;omega)
   simp;omega
theorem aC6 {z:Int} (h:0≤z) (h1:z<1000000000000):atoiAll (itoa z)= .ok z:=by
 obtain ⟨u,rfl⟩:=Int.eq_ofNat_of_zero_le h
 rw[itoa_nonneg]
 exact LG u (by have:=Y4 11 u (by simpa using (by omega:u<1000000000000));omega)
end Go.Itp
namespace Go.Itp
open Go.ChangeShapes Go.WideShapes Go.ChangeAt Go.RowKit
set_option linter.unusedVariables false
theorem IH {α β:Type} {g:α→List β} {q:Nat} (hq:0<q):∀ (l:List α),(∀ a ∈ l,(g a).length=q)→∀ i j,j<q→(l.flatMap g)[i*q+j]? =(l[i]?).bind fun a=>(g a)[j]?
 | [],_,i,j,_=>by simp
 |a::r,h,i,j,hj=>by
  have ha:=h a (by simp)
  rw[List.flatMap_cons]
  cases i with
  |zero=>
   rw[Nat.zero_mul,Nat.zero_add,List.getElem?_append_left (by omega)]
   simp
  |succ i=>
   have ih:=IH hq r (fun b hb=>h b (List.mem_cons_of_mem _ hb)) i j hj
   rw[Nat.succ_mul,List.getElem?_append_right (by rw[ha];omega),ha,show i*q+q+j - q=i*q+j by omega,ih]
   simp
theorem WI {v:Value} (h:C2 v=true):HF v=v:=by
 unfold HF
 split
 ·simp[C2] at h
 ·rfl
section
variable {H:Type} {enc:TypeId × Value→H} {P:Program} {W:World} {base:Nat} {held:Bool}
theorem vX {w:World} {b:Nat} {a:Addr} {n:Nat} {cs:List Value} (h:w.cells? b a n=some cs):cs.length=n∧∀ j,j<n→w.cell? (a.add j)=cs[j]? :=by
 unfold World.cells? at h
 split at h
 case isFalse=>cases h
 refine ⟨by rw[Lib.mapM_length h,List.length_range],fun j hj=>?_⟩
 obtain ⟨c,h1,h2⟩:=Lib.mapM_at h j j (by rw[List.getElem?_eq_getElem (by simpa using hj)];simp)
 rw[h2,h1]
theorem VA {α:Type} [Inhabited α] {g:α→List Value} {q:Nat} (hq:0<q) (hg:∀ a,(g a).length=q∧∀ c ∈ g a,C2 c=true) {t e:TypeId} {fuel:Nat} {v:Value} {x:DataW H × List MemPlace} (ht:P.underlying t=some (.slice e)) (hc:P.cellsOf e=q) (hby:0<P.bytesOf e)
  (hspot:∀ a n c,v= .slice (some a) n c→a.spot=none)
  (h:DataW.trod enc P W base (fun _=>true) held fuel t [v]=some x) (hsz:∀ n ∈ x.1.weights P t,n≤reachBytes)
  (hdec:∀ (cs:List Value) (n:Nat) (y:DataW H × List MemPlace),cs.length=q→DataW.trod enc P W base (fun _=>true) held n e cs=some y→∃ a,cs=g a):
  ∃ l:List α,b9 (BC (K4 W)) (.sl 3 l.length (l.flatMap fun a=>(g a).map D.sc)) v∧r9 0 v= []∧l.length*P.bytesOf e≤reachBytes:=by
 rcases DataW.trod_slice ht h with ⟨h1,_⟩|⟨a,len,cap,elems,rest,n,rfl,h1,rfl,hb,hl,hm,hlen,hel,hsp,_⟩
 ·simp only[List.cons.injEq,and_true] at h1
  subst h1
  refine ⟨[],?_,rfl,by simp⟩
  simp only[b9,u7]
  exact .inr ⟨by omega,by trivial,by trivial,.inl (by trivial)⟩
 ·simp only[List.cons.injEq,and_true] at h1
  subst h1
  have hs:=hspot a len cap rfl
  obtain ⟨b,o,sp⟩:=a
  simp only at hs
  subst hs
  obtain ⟨hr1,hr2⟩:=hsp rfl
  have hmax:cap*P.bytesOf e≤reachBytes:=by
   have:=hsz ((elems.length+rest.length)*P.bytesOf e) (by simp[DataW.weights,ht])
   rwa [show elems.length+rest.length=cap by omega] at this
  have hcap:cap≤cap*P.bytesOf e:=Nat.le_mul_of_pos_right _ hby
  have hbig:reachBytes<v7:=by decide
  have hone:∀ i,∃ a:α,i<len→∀ j,j<q→W.cell? ⟨b,o+(i*q+j),none⟩=(g a)[j]? :=fun i=>by
   by_cases hi:i<len
   ·have:=hel i hi
    rw[hc,List.getElem?_eq_getElem (by omega)] at this
    simp only[Option.bind_eq_some_iff] at this
    obtain ⟨cs,h2,h3⟩:=this
    obtain ⟨k1,k2⟩:=vX h2
    obtain ⟨a,rfl⟩:=hdec cs n _ k1 h3
    refine ⟨a,fun _ j hj=>?_⟩
    have:=k2 j hj
    rw[← this]
    rw[add_plain,add_plain,Nat.add_assoc]
   ·exact ⟨default,fun h=>absurd h hi⟩
  let f:Nat→α:=fun i=>Classical.choose (hone i)
  have hf:∀ i,i<len→∀ j,j<q→W.cell? ⟨b,o+(i*q+j),none⟩=(g (f i))[j]? :=fun i=>Classical.choose_spec (hone i)
  let l:List α:=(List.range len).map f
  have hll:l.length=len:=by simp[l]
  let vals:List Value:=l.flatMap g
  have hvl:vals.length=len*q:=by
   have:∀ l:List α,(l.flatMap g).length=l.length*q:=fun l=>by
    induction l with
    |nil=>simp
    |cons a l ih=>rw[List.flatMap_cons,List.length_append,ih,(hg a).1,List.length_cons,Nat.succ_mul];omega
   rw[show vals.length=l.length*q from this l,hll]
  have hcell:∀ k (hk:k<vals.length),W.cell? ⟨b,o+k,none⟩=some vals[k]:=fun k hk=>by
   rw[hvl] at hk
   have hi:k / q<len:=Nat.div_lt_of_lt_mul (by rw[Nat.mul_comm];exact hk)
   have hj:k % q<q:=Nat.mod_lt _ hq
   have hkk:k / q*q+k % q=k:=by rw[Nat.mul_comm];exact Nat.div_add_mod k q
   have e1:=hf (k / q) hi (k % q) hj
   have e2:=IH (g:=g) hq l (fun a _=>(hg a).1) (k / q) (k % q) hj
   rw[hkk] at e1 e2
   have e3:l[k / q]? =some (f (k / q)):=by simp[l,hi]
   rw[e3,Option.bind_some] at e2
   rw[e1,← e2]
   exact List.getElem?_eq_getElem (by rw[hvl];exact hk)
  have hvs:∀ c ∈ vals,C2 c=true:=fun c hcm=>by
   simp only[vals,List.mem_flatMap] at hcm
   obtain ⟨a,_,ha⟩:=hcm
   exact (hg a).2 c ha
  have hmap:(l.flatMap fun a=>(g a).map D.sc)=vals.map D.sc:=by simp only[vals,List.map_flatMap]
  refine ⟨l,?_,rfl,by rw[hll];exact Nat.le_trans (Nat.mul_le_mul_right _ hl) hmax⟩
  rw[hmap,hll]
  simp only[b9,u7]
  refine .inl ⟨⟨b,o,none⟩,cap,rfl,trivial,?_,?_,by omega⟩
  ·unfold F4 v8
   rw[if_pos (by rw[Nat.blt_eq];omega)]
   exact hl
  ·have:=CY (W:=BC (K4 W)) (α:=Value) D.sc (fun v=>v) vals ⟨b,o,none⟩ (fun k hk=>?_) (fun c hcm=>by simp only[u7];exact ⟨trivial,hvs c hcm⟩)
   ·exact this
   ·have hc1:=hcell k hk
    have hsc:=hvs vals[k] (List.getElem_mem hk)
    have:=aC3 hc1 (cG 0 _ hsc) (WI hsc)
    rw[WI hsc] at this
    exact this
end
end Go.Itp
namespace Go.Itp
open Go.Lib
set_option linter.unusedVariables false

end Go.Itp
namespace Go.Itp
open Go.RowKit (Below)
set_option linter.unusedVariables false
set_option linter.constructorNameAsVariable false
def AB:List Value→Option (List ByteArray)
 | []=>some []
 | .string b::r=>(AB r).map (b::·)
 |_=>none
theorem AE:∀ {cs:List Value} {bs:List ByteArray},AB cs=some bs→cs=bs.map Value.string
 | [],bs,h=>by simp[AB] at h;subst h;rfl
 |c::r,bs,h=>by
  unfold AB at h
  split at h
  ·rename_i heq;cases heq
  ·rename_i heq
   simp only[List.cons.injEq] at heq
   obtain ⟨rfl,rfl⟩:=heq
   simp only[Option.map_eq_some_iff] at h
   obtain ⟨bs',h1,rfl⟩:=h
   rw[AE h1];rfl
  ·cases h
theorem FX:∀ (bs:List ByteArray),AB (bs.map Value.string)=some bs
 | []=>rfl
 |b::r=>by simp only[List.map_cons,AB,FX r,Option.map_some]
def bR5 (old:Nat→Nat→Option Value):E6:=x6 old 0 (fun _=>none) (fun _ _ _=>none) 0
def YH (bs:List ByteArray) (sep:ByteArray):List UInt8:=Lib.join (bs.map (·.data.toList)) sep.data.toList
def DT (old:Nat→Nat→Option Value) (f0:FuncId) (f:FuncId) (xs:List Value) (s:St):Option (Value × List u5):=
 if Nat.beq f f0 then (match xs with
  | [.slice a n c,.string sep]=>if Nat.beq n 0 then some (.string ⟨#[]⟩,[]) else if Nat.ble n (v8 c) && Nat.ble n r6 then
    (n8 (bR5 old) s.heap 1 n (.slice a n c)).bind fun cs=>(AB cs).bind fun bs=>if Nat.ble (YH bs sep).length 140737488355328 then some (.string ⟨(YH bs sep).toArray⟩,[]) else none
   else none
  |_=>none) else none
section
variable {P:Program} {G:v6} {μ:Mu} {s:St} {w:World}
theorem RL:∀ {bs:List ByteArray} {cs:List Value},C7 μ (bs.map Value.string)=some cs→cs=bs.map Value.string
 | [],cs,h=>by simp[C7] at h;subst h;rfl
 |b::r,cs,h=>by
  simp only[List.map_cons,C7,tr,Option.bind_some,Option.map_eq_some_iff] at h
  obtain ⟨cs',h1,rfl⟩:=h
  rw[RL h1];rfl
theorem aR8 {old:Nat→Nat→Option Value} {f0:FuncId} {w0:World} (hen:HB P f0) (hold:aM (bR5 old) w0)
  (h0:∀ (a:Option Addr) (c:Nat) (sep:ByteArray) (w:World),Calls P f0 #[.slice a 0 c,.string sep] w fun e w'=>e= .returned (.string ⟨#[]⟩)∧w'=w)
  (h1:∀ (bk o c:Nat) (xs:List ByteArray) (sep:ByteArray) (w:World) (_:∀ (j:Nat) x,xs[j]? =some x→w.cell? ⟨bk,o+j,none⟩=some (.string x))
   (_:bk<w.heap.size) (_:xs.length≤140737488355328) (_:xs.length≤c) (_:(Lib.join (xs.map (·.data.toList)) sep.data.toList).length≤140737488355328),
   Calls P f0 #[.slice (some ⟨bk,o,none⟩) xs.length c,.string sep] w fun e w'=>e= .returned (.string ⟨(Lib.join (xs.map (·.data.toList)) sep.data.toList).toArray⟩)∧Below w.heap.size w w'):R9 P (DT old f0) w0:=by
 intro f xs s v bs h G μ w cs hG hr hx
 unfold DT at h
 split at h
 case isFalse=>cases h
 rename_i hf
 have:=f8.1 hf
 subst this
 split at h
 case h_2=>cases h
 rename_i a n c sep
 simp only[C7,Option.bind_eq_some_iff,Option.map_eq_some_iff] at hx
 obtain ⟨x1,hx1,cs1,⟨x2,hx2,cs2,hcs2,rfl⟩,rfl⟩:=hx
 simp at hcs2
 subst hcs2
 have:x2= .string sep:=by simp[tr] at hx2;exact hx2.symm
 subst this
 obtain ⟨qa,k',rfl,e2,e3⟩:=D9 hx1
 split at h
 ·rename_i hn
  have:=f8.1 hn
  subst this
  simp only[Option.some.injEq,Prod.mk.injEq] at h
  obtain ⟨rfl,rfl⟩:=h
  exact cT hen hr ((h0 qa k' sep w).mono fun e w' ⟨he,hw⟩=>⟨he,hw▸Below.refl _ _⟩) rfl
 rename_i hn
 have hn:n ≠ 0:=fun e=>hn (f8.2 e)
 split at h
 case isFalse=>cases h
 rename_i hc
 rw[Bool.and_eq_true,Nat.ble_eq,Nat.ble_eq] at hc
 obtain ⟨hc,hroom⟩:=hc
 simp only[Option.bind_eq_some_iff] at h
 obtain ⟨vs,hvs,ls,hls,h⟩:=h
 split at h
 case isFalse=>cases h
 rename_i hlen
 rw[Nat.ble_eq] at hlen
 simp only[Option.some.injEq,Prod.mk.injEq] at h
 obtain ⟨rfl,rfl⟩:=h
 cases a with
 |none=>
  simp only[n8] at hvs
  rw[if_neg (fun e=>hn (f8.1 e))] at hvs
  cases hvs
 |some a=>
 simp only[n8,Nat.mul_one] at hvs
 obtain ⟨bk,o,rfl⟩:=D8 e2
 obtain ⟨cs,c1,c2,c3⟩:=hr.loadN (by rw[hG];exact hold) hvs e2
 have hvs':=AE hls
 subst hvs'
 have hcs:=RL c1
 subst hcs
 rw[List.length_map] at c2
 subst c2
 have hcell:∀ (j:Nat) x,ls[j]? =some x→w.cell? ⟨bk,o+j,none⟩=some (.string x):=fun j x hj=>by
  have:=c3 j (.string x) (by rw[List.getElem?_map,hj];rfl)
  have e:(⟨bk,o,none⟩:Addr).add j=⟨bk,o+j,none⟩:=by cases j<;>rfl
  rw[e] at this
  exact this
 have hcap:ls.length≤k':=by
  rw[E2] at hc
  obtain ⟨b,oo,sp⟩:=a
  cases sp with
  |none=>
   simp only[aO,Option.some.injEq] at e3
   subst e3
   split at hc<;>omega
  |some sp=>
   simp only[aO] at e3
   split at e3
   ·rename_i h;simp only[Option.some.injEq] at e3;subst e3;rw[if_pos h] at hc;exact hc
   ·rename_i h
    rw[if_neg h] at hc
    simp only[Option.map_eq_some_iff] at e3
    obtain ⟨l,_,rfl⟩:=e3
    omega
 have hbk:bk<w.heap.size:=by
  have:=hcell 0 ls[0]! (by rw[getElem!_pos ls 0 (by omega)];exact List.getElem?_eq_getElem (by omega))
  exact World.block_lt_of_cell? _ _ this
 exact cT hen hr (h1 bk o k' ls sep w hcell hbk (by unfold r6 at hroom;omega) hcap hlen) rfl
end
theorem JV {E E':E6} (h:E.old=E'.old) (hp:j8) (e n:Nat) (x:Value):n8 E hp e n x=n8 E' hp e n x:=by
 have hN:∀ b m o,rR E b o m=rR E' b o m:=fun b m=>by
  induction m with
  |zero=>intro o;rfl
  |succ m ih=>intro o;simp only[rR,h,ih]
 unfold n8
 split
 ·rename_i a _ _
  unfold F9
  split
  ·exact hN _ _ _
  ·rfl
  ·rfl
 all_goals rfl
def sD (x:List UInt8):D:= .sc (.string ⟨x.toArray⟩)
theorem aY1 (x:List UInt8):dv (sD x)= .sc (.string ⟨x.toArray⟩):=(rfl)
theorem RC {w:VW}:∀ {ls:List (List UInt8)} {vs:List Value},j6 w (ls.map sD) vs→vs=(ls.map fun x=>ByteArray.mk x.toArray).map Value.string
 | [],vs,h=>by simpa only[List.map_nil,j6] using h
 |x::r,vs,h=>by
  simp only[List.map_cons,j6,sD,u7] at h
  obtain ⟨v,vs',rfl,⟨rfl,_⟩,h2⟩:=h
  rw[RC h2];rfl
section
variable {old:Nat→Nat→Option Value} {rounds:Nat} {fns:FuncId→Option n7} {prims:FuncId→List Value→St→Option (Value × List u5)} {n:Nat} {f:FuncId}
theorem bG0 (ls:List (List UInt8)) (sep:List UInt8):YH (ls.map fun x=>ByteArray.mk x.toArray) ⟨sep.toArray⟩=Lib.join ls sep:=by
 unfold YH
 congr 1
 rw[List.map_map]
 exact (List.map_congr_left (fun x _=>by simp)).trans (List.map_id _)
theorem bS4 {st:l9} (s:Nat) (hs:s ≠ 1) (ls:List (List UInt8)) (sep:List UInt8) (hl:ls.length≤1099511627776) (hlen:(Lib.join ls sep).length≤140737488355328) (hp:∀ xs s r,DT old f f xs s=some r→prims f xs s=some r):
  H1 (x6 old rounds fns prims (n+1)) f st [.sl s ls.length (ls.map sD),.sc (.string ⟨sep.toArray⟩)] (.sc (.string ⟨(Lib.join ls sep).toArray⟩)):=by
 intro s1 μ F xsI w0 hsr hx
 simp only[d8] at hx
 obtain ⟨x1,_,rfl,hx1,x2,_,rfl,hx2,rfl⟩:=hx
 have hx1':=hx1
 have:=hx2.scv
 subst this
 refine ⟨.string ⟨(Lib.join ls sep).toArray⟩,?_,fun w=> .mksc rfl⟩
 have hcall:DT old f f [x1,.string ⟨sep.toArray⟩] s1=some (.string ⟨(Lib.join ls sep).toArray⟩,[]):=by
  unfold DT
  rw[if_pos (f8.2 rfl)]
  simp only[b9,u7] at hx1'
  rcases hx1' with ⟨a,c,rfl,_,hcap,_,_⟩|⟨_,h0,h1,rfl|⟨h,_⟩⟩
  ·simp only
   by_cases hn:ls.length=0
   ·rw[if_pos (f8.2 hn)]
    have:ls= []:=List.eq_nil_of_length_eq_zero hn
    subst this
    rfl
   rw[if_neg (fun e=>hn (f8.1 e))]
   rw[if_pos (by rw[Bool.and_eq_true,Nat.ble_eq,Nat.ble_eq];exact ⟨hcap,by unfold r6;exact hl⟩)]
   obtain ⟨cs,k1,k2⟩:=(V5 (e:=1) (m:=ls.length) (r:=(ls.map sD,[])) hsr.hr hx1 (by
    simp only[J8]
    rw[if_pos ⟨by simp,Nat.le_refl _⟩,Nat.mul_one,List.take_of_length_le (by simp)]) (fun m hm=>by simp only[Q9] at hm;cases hm;exact Nat.le_refl _)).plain hsr.hr rfl
   rw[JV (E':=bR5 old) (by rfl)] at k1
   rw[k1]
   have:=RC k2
   subst this
   simp only[Option.bind_some,FX,bG0]
   rw[if_pos (by rw[Nat.ble_eq];exact hlen)]
  ·simp only
   rw[if_pos (f8.2 rfl)]
   have:ls= []:=by simpa using h1
   subst this
   rfl
  ·exact absurd h hs
 rw[N4,hp _ _ _ hcall]
end
theorem k8.ofO {E:E6} {f:FuncId} {xs:List V} {v:V} (h:H1 E f ⟨[],0,0⟩ xs v):k8 E f xs v ⟨[],0,0⟩:=by
 intro s F xsI h1 h2 hx
 have hsr:SR (C1 E s (YQ E s.heap F)) ⟨[],0,0⟩ ⟨s.heap,s.next,s.next⟩ (fun _=>none) F:=SR.start h1 h2
 obtain ⟨vI,e,hv⟩:=h s (fun _=>none) F xsI (YQ E s.heap F) hsr hx
 exact ⟨vI,[],fun _=>none,F,e,hsr,hv _,fun b hb=> .inl hb,fun b hb=>hb,fun _=>rfl⟩
end Go.Itp
namespace Go.Itp
set_option maxRecDepth 100000
set_option linter.unusedVariables false
section
variable {old : Nat → Nat → Option Value} {fr : E0} {H : E7} {nx : Nat} {st : l9}
end
section
variable {C:D0} {st:l9} {fr:E0}
theorem aY8 {H:E7} {o t n:Nat} {z:Bool} {l:List D} (h:f7 H o=some (.gro t 1 z l)) (hl:l.length=n):w5 H (.gr 2 o n)=some (.sl 2 n l):=by
 simp only[w5,dH,h,Nat.mul_one]
 rw[if_pos ⟨hl,by decide,by decide,by decide⟩]
 rfl
theorem FL {H:E7} {o c t n:Nat} {g z:Bool} {l:List D} (h:f7 H o=some (.row t 1 g z l)) (hl:l.length=n):w5 H (.ref o 0 n c)=some (.sl 0 n l):=by
 simp only[w5,dH,h,Nat.mul_one,Nat.zero_add,hl,Nat.le_refl,if_true,List.drop_zero,Option.map_some,dv]
 rw[List.take_of_length_le (by omega)]
end
section
variable {C:D0} {st:l9} {fr:E0}
end
section
variable {old:Nat→Nat→Option Value}
end
theorem LB {E:E6} {h:j8} {n:Nat} {bs:List u5} {a:Addr} (ha:a.spot=none∨a.block<n):m8 E (x4 h n bs) a=m8 E h a:=by
 obtain ⟨b,o,sp⟩:=a
 rcases sp with _|_|k
 ·rfl
 ·have hb:b<n:=by simpa using ha
  simp only[m8]
  rw[w8,if_neg (by omega)]
 ·rfl
theorem k8.weak {E:E6} {f:FuncId} {xs:List V} {v v':V} {st1 st2:l9} (h:k8 E f xs v st1) (hw:∀ C:D0,C.w0.nx=0→M9 C [(0,v)] st1 [(0,v')] st2) (hfl:w7 v'=true→w7 v=true):k8 E f xs v' st2:=by
 intro s F xsI hF hb hx
 obtain ⟨vI,bs,μ,G,e,g1,g2,g3,g4,g5⟩:=h s F xsI hF hb hx
 have hle:VW.le (YQ E s.heap F) (t8 (C1 E s (YQ E s.heap F)) st1 ⟨x4 s.heap s.next bs,s.next+bs.length,s.next⟩ μ G):=by
  refine ⟨fun a ha=>?_,g4,Nat.zero_le _,fun o b ho e=>absurd ho (Nat.not_lt_zero _)⟩
  refine LB ?_
  rcases aR5 ha with h1|h1
  ·exact .inl h1
  ·exact .inr (hF _ h1).1
 obtain ⟨μ',G',k1,k2,k3,k4,k5⟩:=hw (C1 E s (YQ E s.heap F)) rfl ⟨x4 s.heap s.next bs,s.next+bs.length,s.next⟩ [(0,vI)] ⟨μ,G,g1,fun t u hu=>by
  by_cases ht:t=0
  ·subst ht
   have:v=u:=by simpa [f7] using hu
   subst this
   exact ⟨vI,rfl,g2⟩
  ·exfalso
   cases t with
   |zero=>exact ht rfl
   |succ t=>simp[f7] at hu,hle,rfl,g3⟩
 obtain ⟨uI,a,b⟩:=k2 0 v' rfl
 have:vI=uI:=by simpa [F3] using a
 subst this
 exact ⟨vI,bs,μ',G',e,k1,b,k5,fun b hb=>k3.F b hb,fun hf=>g5 (hfl hf)⟩
theorem k8.fin {E:E6} {f:FuncId} {xs:List V} {v v':V} {st1:l9} (h:k8 E f xs v st1) (hs:w5 st1.own v=some v') (hrow:E4 st1.ro st1.own (dJ v)=true) (hro:st1.ro=0) (hren:aD [] v'=v') (hfl:w7 v'=true→w7 v=true):k8 E f xs v' ⟨[],0,0⟩:=
 h.weak (fun C h0=>(eM (t:=0) rfl hs hrow).trans (p9 [] 0 h0 hro rfl (by show yX [] [(0,v')]=_;rw[aG8,aW6,hren]) rfl)) hfl
theorem k9 {C:D0} {st:l9} {f:FuncId} {xs:List V} {v:V} {Q:V→l9→Prop} (h:k8 C.E f xs v ⟨[],0,0⟩) (hs:J7 st.own xs=some xs) (hz:aS xs= []) (hv:∀ k,GS k v=v) (hq:Q v st):W3 C f xs st Q:=by
 refine aM4 h hs (by rw[hz];rfl) rfl ?_
 rw[hz,hv,fJ]
 exact hq
section
variable {C:D0} {st:l9}
theorem Z2.refl (v:V):Z2 C st v v:=fun _ _ _ _ _ h=>h
def mM (C:D0) (st:l9) (l l':List V):Prop:=∀ s μ F vs,SR C st s μ F→d8 (t8 C st s μ F) l vs→d8 (t8 C st s μ F) l' vs
theorem mM.nil:mM C st [] []:=fun _ _ _ _ _ h=>h
theorem mM.cons {a a':V} {l l':List V} (h:Z2 C st a a') (k:mM C st l l'):mM C st (a::l) (a'::l'):=fun s μ F vs hs hv=>by
 simp only[d8] at hv ⊢
 obtain ⟨u,us,rfl,h1,h2⟩:=hv
 exact ⟨u,us,rfl,h s μ F u hs h1,k s μ F us hs h2⟩
theorem zI {l l':List V} (h:mM C st l l'):Z2 C st (.agg l) (.agg l'):=fun s μ F v hs hv=>by
 rw[b9] at hv ⊢
 obtain ⟨vs,h1,h2⟩:=hv
 exact ⟨vs,h1,h s μ F vs hs h2⟩
theorem zJ {l l':List V} (h:mM C st l l'):Z2 C st (.tup l) (.tup l'):=fun s μ F v hs hv=>by
 rw[b9] at hv ⊢
 obtain ⟨vs,h1,h2⟩:=hv
 exact ⟨vs,h1,h s μ F vs hs h2⟩
end
theorem k8.same {E:E6} {f:FuncId} {xs:List V} {v v':V} {st1:l9} (h:k8 E f xs v st1) (hv:∀ C:D0,Z2 C st1 v v') (hfl:w7 v'=true→w7 v=true):k8 E f xs v' st1:=
 h.weak (fun C _=>M3 (t:=0) (v:=v) (v':=v') rfl (hv C)) hfl
section
variable {C:D0} {st:l9} {fr:E0}
theorem aJ9 {v:V} {x y:Value} {s n:Nat} {l:List D} (hs:w5 st.own v=some (.sl s n l)) (hrow:E4 st.ro st.own (dJ v)=true) (hk:s ≠ 1∨n ≠ 0) (h0:C.w0.nx=0) (hro:st.ro=0):M9 C [(0,.tup [v,.sc x,.sc y])] st [(0,.tup [.sl 3 n l,.sc x,.sc y])] ⟨[],0,0⟩:=by
 have e1:dJ (.tup [v,.sc x,.sc y])=dJ v:=by simp[dJ,aS]
 have e2:w5 st.own (.tup [v,.sc x,.sc y])=some (.tup [.sl s n l,.sc x,.sc y]):=by simp[w5,J7,hs]
 refine (eM (t:=0) (v:= .tup [v,.sc x,.sc y]) rfl e2 (by rw[e1];exact hrow)).trans ?_
 refine (M3 (t:=0) (v:= .tup [.sl s n l,.sc x,.sc y]) (v':= .tup [.sl 3 n l,.sc x,.sc y]) rfl (FH (qB hk) (fun _ _ _ _ _ h=>h))).trans ?_
 exact p9 [] 0 h0 hro rfl rfl rfl
theorem gN {x y:Value} (h0:C.w0.nx=0) (hro:st.ro=0):M9 C [(0,.tup [.sc (.slice none 0 0),.sc x,.sc y])] st [(0,.tup [.sl 3 0 [],.sc x,.sc y])] ⟨[],0,0⟩:=
 (M3 (t:=0) (v:= .tup [.sc (.slice none 0 0),.sc x,.sc y]) (v':= .tup [.sl 3 0 [],.sc x,.sc y]) rfl (FH lJ (fun _ _ _ _ _ h=>h))).trans (p9 [] 0 h0 hro rfl rfl rfl)
theorem VG {n:Nat} {l:List D} {x y:Value}:bM [] (.tup [.sl 3 n l,.sc x,.sc y]):=eD (by simp only[Cl,KQ,and_true];rfl)
end
end Go.Itp
namespace Go.Itp
open Go Go.ChangeShapes
set_option linter.unusedVariables false
section
variable {H:Type} {enc:TypeId × Value→H} {P:Program} {W:World} {base:Nat} {held:Bool}
theorem wf8 {z:Int} (h:(Lit.int .u8 z).wf=true):0≤z∧z<256:=by
 simp[Lit.wf,IntKind.min,IntKind.max,IntKind.signed,IntKind.bits] at h
 omega
end
section
variable {H:Type} {enc:TypeId × Value→H} {P:Program} {W:World} {base:Nat} {held:Bool}
theorem aN6 {e:TypeId} {f0 f1 f2 f3:Field} (he:P.underlying e=some (.struct #[f0,f1,f2,f3])) (o0:f0.offset=0) (o1:f1.offset=1) (o2:f2.offset=2) (o3:f3.offset=3)
  (c0:P.cellsOf f0.type=1) (c1:P.cellsOf f1.type=1) (c2:P.cellsOf f2.type=1) (c3:P.cellsOf f3.type=1)
  (cs:List Value) (n:Nat) (y:DataW H × List MemPlace) (hl:cs.length=4) (h:DataW.trod enc P W base (fun _=>true) held n e cs=some y):
  ∃ (m:Nat) (a0 a1 a2 a3:Value),cs= [a0,a1,a2,a3]∧(∃ y,DataW.trod enc P W base (fun _=>true) held m f0.type [a0]=some y)∧(∃ y,DataW.trod enc P W base (fun _=>true) held m f1.type [a1]=some y)∧(∃ y,DataW.trod enc P W base (fun _=>true) held m f2.type [a2]=some y)∧
   ∃ y,DataW.trod enc P W base (fun _=>true) held m f3.type [a3]=some y:=by
 obtain ⟨a0,a1,a2,a3,rfl⟩:∃ a0 a1 a2 a3,cs= [a0,a1,a2,a3]:=by
  rcases cs with _|⟨a0,_|⟨a1,_|⟨a2,_|⟨a3,_|⟨a4,r⟩⟩⟩⟩⟩<;>simp at hl
  exact ⟨a0,a1,a2,a3,rfl⟩
 cases n with
 |zero=>simp[DataW.trod] at h
 |succ n=>
  unfold DataW.trod at h
  simp only[he] at h
  split at h
  case isFalse=>cases h
  simp only[Option.map_eq_some_iff,List.mapM_cons,List.mapM_nil] at h
  obtain ⟨xs,hx,hd⟩:=h
  simp only[o0,o1,o2,o3,c0,c1,c2,c3,List.drop_zero,List.drop_succ_cons,List.take_succ_cons,List.take_zero] at hx
  refine ⟨n,a0,a1,a2,a3,rfl,?_⟩
  cases h0:DataW.trod enc P W base (fun _=>true) held n f0.type [a0] with
  |none=>simp[h0] at hx
  |some y0=>
  cases h1:DataW.trod enc P W base (fun _=>true) held n f1.type [a1] with
  |none=>simp[h0,h1] at hx
  |some y1=>
  cases h2:DataW.trod enc P W base (fun _=>true) held n f2.type [a2] with
  |none=>simp[h0,h1,h2] at hx
  |some y2=>
  cases h3:DataW.trod enc P W base (fun _=>true) held n f3.type [a3] with
  |none=>simp[h0,h1,h2,h3] at hx
  |some y3=>exact ⟨⟨_,rfl⟩,⟨_,rfl⟩,⟨_,rfl⟩,⟨_,rfl⟩⟩
end
theorem aE3 {H:Type} {enc:TypeId × Value→H} {a:Assume} {C:Checked} {os:Os} {f:FuncId} {fn:Func} {s:ChangeSpec} {conds:List PathCond} {apart fresh handsOn again:Bool} {X:World→Array Value→Prop}
  (hX:∀ (w w':World) (args:Array Value),w.heap=w'.heap→X w args→X w' args)
  (own:ownKnob C.prog.godebug=none) (started:os.Started) (noInit:C.prog.inits.idxOf? f=none) (hfn:C.prog.funcs[f]? =some fn)
  (witness:∃ (w:World) (tape:Tape) (i:Input),w.os=os∧(w.forCall tape i).Shaped C.prog∧i.vars= []∧Input.okWide C.prog (w.forCall tape i) .any w.heap.size f i∧
   ((s.pre enc C.prog fn conds apart (w.forCall tape i).memory i.args∧X (w.forCall tape i).memory i.args)∧sizedMet enc C.prog fn (OpenSpec.ofChange s) apart (w.forCall tape i).memory i.args)∧a.holds C.prog (lone (Frame.enter C.prog f i.args .normal) [] (w.forCall tape i)))
  (contract:∀ (W:World) (base:Nat) (args:Array Value) (ds gs:List (DataW H)) (before:List MemPlace),
   (∀ (j:Nat) t v,fn.params[j]? =some t→args[j]? =some v→Value.okWide C.prog W .any base t v)→
   DataW.Whole enc C.prog fn.params.toList s.vars apart W args.toList ds gs before→
   (DataW.weightsEach C.prog (fn.params.toList++s.plain.varTypes C.prog) (ds++gs)).all (· ≤reachBytes)=true→X W args→W.ShapedOpen C.prog→
   Calls C.prog f args W fun e W'=>∃ v,e= .returned v∧s.post enc C.prog fn apart fresh handsOn again W args v W'):
  ReturnsInHanded a C os f .any (fun w args=>(s.pre enc C.prog fn conds apart w args∧X w args)∧sizedMet enc C.prog fn (OpenSpec.ofChange s) apart w args) (s.post enc C.prog fn apart fresh handsOn again):=by
 refine returnsInHanded_of_calls own started noInit witness ?_
 intro w tape i _ hsh _ hok hpre hholds
 obtain ⟨_,_,_,fn',hfn',_,_,_,_,hval⟩:=hok
 have e:fn'=fn:=Option.some.inj (hfn'.symm.trans hfn)
 subst e
 obtain ⟨⟨⟨ds,gs,before,hw,_⟩,hx⟩,hz⟩:=hpre
 have hw':=DataW.Whole.of_heap (w':=w.forCall tape i) (by rfl) hw
 refine (contract (w.forCall tape i) w.heap.size i.args ds gs before hval hw' (hz.weights hw) (hX _ _ _ (by rfl) hx) hsh).mono fun e W' ⟨v,he,hp⟩=>?_
 subst he
 exact ChangeSpec.post_blind hp
end Go.Itp
namespace Go.Itp
theorem aG0 {P:Program} {W:World} {t:TypeId} {fs:Array Field} {b:Nat} {l:List Value} {i:Nat} {c:Value} (ht:P.underlying t=some (.struct fs)) (hv:Value.okWide P W .any b t (.agg l.toArray)) (hc:l[i]? =some c):∃ u,Cell.okWide P W .any b u c:=by
 unfold Value.okWide at hv
 rw[ht] at hv
 obtain ⟨cs,e,hcs,ts,_,_,hrow⟩:=hv
 cases e
 obtain ⟨u,_,hu⟩:=hrow i c (by simpa using hc)
 exact ⟨u,hu⟩
end Go.Itp
namespace Go.Itp
open Go.ChangeShapes Go.WideShapes Go.ChangeAt Go.RowKit
set_option linter.unusedVariables false
theorem ML {w:VW}:∀ (L:List D) (a:Addr),(∀ k d,L[k]? =some d→∃ v,w.ld (y5 a k)=some v∧u7 w d v)→u9 w L a
 | [],a,_=>by simp only[u9]
 |d::r,a,h=>by
  simp only[u9]
  refine ⟨?_,ML r _ fun k d' hk=>?_⟩
  ·have:=h 0 d rfl
   simpa [y5] using this
  ·have:=h (k+1) d' hk
   rw[show y5 (y5 a 1) k=y5 a (k+1) from by simp only[y5,Nat.add_assoc,Nat.add_comm 1 k]]
   exact this
theorem aN9 {w:VW} {n:Nat} {l:List D} {v:Value} (h:u7 w (.sl 3 n l) v):u7 w (.sl 1 n l) v:=by
 simp only[u7] at h ⊢
 rcases h with ⟨a,c,e,i,k,r,_⟩|⟨_,h2,h3,h4|⟨h4,_⟩⟩
 ·exact .inl ⟨a,c,e,i,k,r,fun h=>by omega⟩
 ·exact .inr ⟨by omega,h2,h3,.inl h4⟩
 ·omega
section
variable {H:Type} {enc:TypeId × Value→H} {P:Program} {W:World} {base:Nat} {held:Bool}
theorem aW2 {α:Type} [Inhabited α] {g:α→List Value} {q:Nat} (hq:0<q) (hg:∀ a,(g a).length=q∧∀ c ∈ g a,C2 c=true) {t e:TypeId} {fuel:Nat} {v:Value} {x:DataW H × List MemPlace} (ht:P.underlying t=some (.slice e)) (hc:P.cellsOf e=q) (hby:0<P.bytesOf e)
  (h:DataW.trod enc P W base (fun _=>true) held fuel t [v]=some x) (hsz:∀ n ∈ x.1.weights P t,n≤reachBytes)
  (hdec:∀ (cs:List Value) (n:Nat) (y:DataW H × List MemPlace),cs.length=q→DataW.trod enc P W base (fun _=>true) held n e cs=some y→∃ a,cs=g a) {b o:Nat} (hcell:W.cell? ⟨b,o,none⟩=some v):
  ∃ (l:List α) (u:Value),K4 W b o=some u∧u7 (BC (K4 W)) (.sl 1 l.length (l.flatMap fun a=>(g a).map D.sc)) u∧l.length*P.bytesOf e≤reachBytes:=by
 by_cases hspot:∀ a n c,v= .slice (some a) n c→a.spot=none
 ·obtain ⟨l,h1,h2,h3⟩:=VA hq hg ht hc hby hspot h hsz hdec
  exact ⟨l,v,nH hcell h2,aN9 (by simpa only[b9] using h1),h3⟩
 ·rcases DataW.trod_slice ht h with ⟨h1,_⟩|⟨a,len,cap,elems,rest,n,rfl,h1,rfl,hb,hl,hm,hlen,hel,hsp,_⟩
  ·simp only[List.cons.injEq,and_true] at h1
   subst h1
   exact absurd (fun a n c e=>by cases e) hspot
  ·simp only[List.cons.injEq,and_true] at h1
   subst h1
   obtain ⟨hr1,hr2⟩:=hsp rfl
   obtain ⟨b',o',sp⟩:=a
   cases sp with
   |none=>exact absurd (fun a n c e=>by cases e;rfl) hspot
   |some s=>
    by_cases hz:cap=0
    ·have hl0:len=0:=by omega
     subst hz hl0
     refine ⟨[],_,aG1 hcell,?_,by simp⟩
     simp only[u7]
     exact .inr ⟨by decide,by trivial,by trivial,.inr ⟨by trivial,_,_,_,rfl⟩⟩
    ·exfalso
     have hcell0:∃ c,W.cell? (⟨b',o',some s⟩:Addr)=some c:=by
      have go:∀ cs,W.cells? base ((⟨b',o',some s⟩:Addr).add (0*q)) q=some cs→∃ c,W.cell? (⟨b',o',some s⟩:Addr)=some c:=fun cs h6=>by
       obtain ⟨k1,k2⟩:=vX h6
       have:=k2 0 hq
       rw[List.getElem?_eq_getElem (by omega)] at this
       rw[Nat.zero_mul] at this
       exact ⟨_,this⟩
      by_cases h0:0<len
      ·have:=hel 0 h0
       rw[hc,List.getElem?_eq_getElem (by omega)] at this
       simp only[Option.bind_eq_some_iff] at this
       obtain ⟨cs,h6,_⟩:=this
       exact go cs h6
      ·have:=hr2 0 (by omega)
       rw[hc,List.getElem?_eq_getElem (by omega),show len+0=0 by omega] at this
       simp only[Option.bind_eq_some_iff] at this
       obtain ⟨cs,h6,_⟩:=this
       exact go cs h6
     obtain ⟨c,hcell0⟩:=hcell0
     simp only[World.cell?] at hcell0
     split at hcell0
     ·simp at hcell0
     ·cases hcell0
theorem PU {α:Type} [Inhabited α] {g:α→List D} {q:Nat} {Pr:α→Prop} (hq:0<q) (hg:∀ a,(g a).length=q) {t e:TypeId} {fuel:Nat} {v:Value} {x:DataW H × List MemPlace} (ht:P.underlying t=some (.slice e)) (hc:P.cellsOf e=q) (hby:0<P.bytesOf e)
  (hspot:∀ a n c,v= .slice (some a) n c→a.spot=none)
  (h:DataW.trod enc P W base (fun _=>true) held fuel t [v]=some x) (hsz:∀ n ∈ x.1.weights P t,n≤reachBytes)
  (hdec:∀ (cs:List Value) (n:Nat) (y:DataW H × List MemPlace),cs.length=q→DataW.trod enc P W base (fun _=>true) held n e cs=some y→(∀ m ∈ y.1.weights P e,m≤reachBytes)→∀ b o,(∀ j,j<q→W.cell? ⟨b,o+j,none⟩=cs[j]?)→
   ∃ a,Pr a∧∀ j,j<q→∃ d u,(g a)[j]? =some d∧K4 W b (o+j)=some u∧u7 (BC (K4 W)) d u):
  ∃ l:List α,b9 (BC (K4 W)) (.sl 3 l.length (l.flatMap g)) v∧r9 0 v= []∧l.length*P.bytesOf e≤reachBytes∧∀ a ∈ l,Pr a:=by
 rcases DataW.trod_slice ht h with ⟨h1,_⟩|⟨a,len,cap,elems,rest,n,rfl,h1,rfl,hb,hl,hm,hlen,hel,hsp,_⟩
 ·simp only[List.cons.injEq,and_true] at h1
  subst h1
  refine ⟨[],?_,rfl,by simp,fun a ha=>by cases ha⟩
  simp only[b9,u7]
  exact .inr ⟨by omega,by trivial,by trivial,.inl (by trivial)⟩
 ·simp only[List.cons.injEq,and_true] at h1
  subst h1
  have hs:=hspot a len cap rfl
  obtain ⟨b,o,sp⟩:=a
  simp only at hs
  subst hs
  obtain ⟨hr1,hr2⟩:=hsp rfl
  have hmax:cap*P.bytesOf e≤reachBytes:=by
   have:=hsz ((elems.length+rest.length)*P.bytesOf e) (by simp[DataW.weights,ht])
   rwa [show elems.length+rest.length=cap by omega] at this
  have hcap:cap≤cap*P.bytesOf e:=Nat.le_mul_of_pos_right _ hby
  have hbig:reachBytes<v7:=by decide
  have hwt:∀ y ∈ elems,∀ m ∈ y.1.weights P e,m≤reachBytes:=fun y hmem m hm'=>hsz m (by
   simp only[DataW.weights,ht,List.mem_cons,List.mem_append]
   right;left
   clear hsz
   have:∀ l:List (DataW H × List MemPlace),y ∈ l→m ∈ DataW.weightsAll P e (l.map (·.1)):=by
    intro l
    induction l with
    |nil=>intro h;cases h
    |cons z l ih=>
     intro hz'
     simp only[List.map_cons,DataW.weightsAll,List.mem_append]
     rcases List.mem_cons.1 hz' with rfl|hz'
     ·exact Or.inl hm'
     ·exact Or.inr (ih hz')
   exact this elems hmem)
  have hone:∀ i,∃ a:α,i<len→Pr a∧∀ j,j<q→∃ d u,(g a)[j]? =some d∧K4 W b (o+(i*q+j))=some u∧u7 (BC (K4 W)) d u:=fun i=>by
   by_cases hi:i<len
   ·have:=hel i hi
    rw[hc,List.getElem?_eq_getElem (by omega)] at this
    simp only[Option.bind_eq_some_iff] at this
    obtain ⟨cs,h2,h3⟩:=this
    obtain ⟨k1,k2⟩:=vX h2
    obtain ⟨a,ha,hj⟩:=hdec cs n _ k1 h3 (hwt _ (List.getElem_mem _)) b (o+i*q) fun j hj=>by
     have:=k2 j hj
     rw[← this,add_plain,add_plain]
    refine ⟨a,fun _=>⟨ha,fun j hjq=>?_⟩⟩
    have:=hj j hjq
    rwa [Nat.add_assoc] at this
   ·exact ⟨default,fun h=>absurd h hi⟩
  let f:Nat→α:=fun i=>Classical.choose (hone i)
  have hf:∀ i,i<len→Pr (f i)∧∀ j,j<q→∃ d u,(g (f i))[j]? =some d∧K4 W b (o+(i*q+j))=some u∧u7 (BC (K4 W)) d u:=fun i=>Classical.choose_spec (hone i)
  let l:List α:=(List.range len).map f
  have hll:l.length=len:=by simp[l]
  refine ⟨l,?_,rfl,by rw[hll];exact Nat.le_trans (Nat.mul_le_mul_right _ hl) hmax,fun a ha=>?_⟩
  ·rw[hll]
   simp only[b9,u7]
   refine .inl ⟨⟨b,o,none⟩,cap,rfl,trivial,?_,?_,by omega⟩
   ·unfold F4 v8
    rw[if_pos (by rw[Nat.blt_eq];omega)]
    exact hl
   ·refine ML _ _ fun k d hk=>?_
    have hvl:(l.flatMap g).length=len*q:=by
     have:∀ l:List α,(l.flatMap g).length=l.length*q:=fun l=>by
      induction l with
      |nil=>simp
      |cons a l ih=>rw[List.flatMap_cons,List.length_append,ih,hg a,List.length_cons,Nat.succ_mul];omega
     rw[this l,hll]
    have hkl:k<len*q:=by
     rw[← hvl]
     exact (List.getElem?_eq_some_iff.1 hk).1
    have hi:k / q<len:=Nat.div_lt_of_lt_mul (by rw[Nat.mul_comm];exact hkl)
    have hj:k % q<q:=Nat.mod_lt _ hq
    have hkk:k / q*q+k % q=k:=by rw[Nat.mul_comm];exact Nat.div_add_mod k q
    obtain ⟨d',u,e1,e2,e3⟩:=(hf (k / q) hi).2 (k % q) hj
    have e4:=IH (g:=g) hq l (fun a _=>hg a) (k / q) (k % q) hj
    rw[hkk] at e2 e4
    have e5:l[k / q]? =some (f (k / q)):=by simp[l,hi]
    rw[e5,Option.bind_some,e1,hk] at e4
    cases e4
    exact ⟨u,e2,e3⟩
  ·simp only[l,List.mem_map,List.mem_range] at ha
   obtain ⟨i,hi,rfl⟩:=ha
   exact (hf i hi).1
end
end Go.Itp
