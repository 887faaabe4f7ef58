/- Part of the proof of GradeGrows: for every table, all numbers and every string the law returns true, with no condition.
   Texts: X40u.
-/
import Derived.Test.YteibgbbfcjgjiaaPart6
import Derived.Test.YteibgbbfcjgjiaaRows
import Derived.SizedLaws
import Derived.ChangeAt
namespace Go.Proofs.Yteibgbbfcjgjiaa
open Go Go.Itp
open Go.ChangeShapes Go.WideShapes Go.ChangeAt Go.RowKit
set_option linter.unusedVariables false
theorem reach_lt:reachBytes≤140737488351232:=by decide
theorem slice_t {P:Program} {W:World} {base:Nat} {held:Bool} {H:Type} {enc:TypeId × Value→H} {t e:TypeId} {n:Nat} {v:Value} {x:DataW H × List MemPlace} (ht:P.underlying t=some (.slice e)) (h:DataW.trod enc P W base (fun _=>true) held n t [v]=some x):v= .slice none 0 0∨∃ a n c,v= .slice (some a) n c:=by
 rcases DataW.trod_slice ht h with ⟨h1,_⟩|⟨a,len,cap,_,_,_,_,h1,_⟩
 ·exact .inl (by simpa using h1)
 ·exact .inr ⟨_,_,_,by simpa using h1⟩
theorem strs_old {old:Nat→Nat→Option Value} {v:Value} {l:List ByteArray} (r:Rd old [] Value.string v l) (hb:bidN v=0) (hv:v= .slice none 0 0∨∃ a n c,v= .slice (some a) n c):
  VRep (wOld old) (strs 5 (l.map fun b:ByteArray=>b.data.toList)) v:=by
 have h:=vrep_old5 (fun b:ByteArray=>sD b.data.toList) r hb hv fun x _=>by simp only[sD,DRep,scOK,and_self,Array.toArray_toList]
 have e:l.map (fun b:ByteArray=>sD b.data.toList)=(l.map fun b:ByteArray=>b.data.toList).map sD:=by rw[List.map_map];rfl
 unfold strs
 rw[List.length_map,← e]
 exact h
theorem strs_len {l:List ByteArray} {B:Nat} (h:∀ j,j<l.length→l[j]!.size≤B):∀ j,j<(l.map fun b:ByteArray=>b.data.toList).length→(l.map fun b:ByteArray=>b.data.toList)[j]!.length≤B:=fun j hj=>by
 rw[List.length_map] at hj
 have:=h j hj
 rw[getElem!_pos _ j (by rw[List.length_map];exact hj),List.getElem_map]
 rw[getElem!_pos l j hj] at this
 simpa using this
theorem open_table {H:Type} {enc:TypeId × Value→H} {W:World} {b:Nat} {held:Bool} {v:Value} {d:DataW H} {ps:List MemPlace} (hv:Value.okWide Try.prog W .any b 25 v) (h:DataW.Trod enc Try.prog W 0 (fun _=>true) held 25 v d ps)
  (hsz:∀ n ∈ d.weights Try.prog 25,n≤reachBytes):
  ∃ (S N:List (List UInt8)) (M:List (List Int)),VRep (wOld (oldOf W)) (tableV 5 5 5 1 S N M) v∧ids 0 v= []∧(S.length≤reachBytes∧N.length≤reachBytes∧M.length≤reachBytes)∧(∀ j,j<S.length→S[j]!.length≤reachBytes)∧(∀ j,j<N.length→N[j]!.length≤reachBytes)∧
   ∀ j,j<M.length→M[j]!.length≤reachBytes∧∀ z ∈ M[j]!,(Lit.int .i64 z).wf=true:=by
 obtain ⟨n,a0,a1,a2,y0,y1,y2,rfl,e0,e1,e2,h0,h1,h2,w0,w1,w2⟩:=open_three Try.underlying25 rfl rfl rfl (by kernel_rfl) (by kernel_rfl) (by kernel_rfl) (by kernel_rfl) hv h hsz
 obtain ⟨S,s1,s2,s3,s4⟩:=rd_strings' Try.underlying22 Try.underlying9 (by kernel_rfl) (by rw[show Try.prog.bytesOf 9=16 by kernel_rfl];decide) h0 w0
 obtain ⟨N,n1,n2,n3,n4⟩:=rd_strings' Try.underlying22 Try.underlying9 (by kernel_rfl) (by rw[show Try.prog.bytesOf 9=16 by kernel_rfl];decide) h1 w1
 obtain ⟨rs,V,v1,v2,v3,v4,v5⟩:=rd_rows' Try.underlying23 Try.underlying39 Try.underlying3 (by kernel_rfl) (by rw[show Try.prog.bytesOf 39=24 by kernel_rfl];decide) (by kernel_rfl) (by rw[show Try.prog.bytesOf 3=8 by kernel_rfl];decide) h2 w2
 rw[show Try.prog.bytesOf 9=16 by kernel_rfl] at s4 n4
 rw[show Try.prog.bytesOf 39=24 by kernel_rfl] at v4
 rw[show Try.prog.bytesOf 3=8 by kernel_rfl] at v5
 rw[e0] at s1 s2
 rw[e1] at n1 n2
 rw[e2] at v1 v2
 have r0:=strs_old (s1 []) s2 (slice_t Try.underlying22 h0)
 have r1:=strs_old (n1 []) n2 (slice_t Try.underlying22 h1)
 have r2:VRep (wOld (oldOf W)) (rowsV 5 1 V) a2:=vrep_rows5 (v1 []) v2 (slice_t Try.underlying23 h2) v3 fun j hj=>⟨(v5 j hj).1 [],(v5 j hj).2.1,(v5 j hj).2.2.2.2⟩
 refine ⟨S.map fun b:ByteArray=>b.data.toList,N.map fun b:ByteArray=>b.data.toList,V,?_,?_,⟨by rw[List.length_map];omega,by rw[List.length_map];omega,by omega⟩,strs_len s3,strs_len n3,fun j hj=>⟨by have:=(v5 j hj).2.2.2.1;omega,(v5 j hj).2.2.1⟩⟩
 ·unfold tableV
  rw[VRep]
  refine ⟨[a0,a1,a2],rfl,?_⟩
  simp only[VRepL]
  exact ⟨_,_,rfl,r0,_,_,rfl,r1,_,_,rfl,r2,rfl⟩
 ·rw[ids_agg,idsL_cons,idsL_cons,idsL_cons,abs_ids e0 s2 (trod_is_slice Try.underlying22 h0),abs_ids e1 n2 (trod_is_slice Try.underlying22 h1),abs_ids e2 v2 (trod_is_slice Try.underlying23 h2)]
  rfl
set_option maxRecDepth 100000 in
theorem grows_lifted (os:Os) (started:os.Started) (H:Type) (enc:TypeId × Value→H):
  ReturnsInHanded {} Try.checked os 4 .any (Rows.gradeGrowsSpec.pre6 enc Try.prog Try.f4 Rows.gradeGrowsRow.domain false) (Rows.gradeGrowsSpec.post enc Try.prog Try.f4 false true false false):=by
 refine returnsInHanded_of_change_sized (C:=Try.checked) own started (by kernel_rfl) Try.func4
  (ChangeSpec.witness6 (enc:=enc) (C:=Try.checked) false ⟨#[],#[.agg #[.slice none 0 0,.slice none 0 0,.slice none 0 0],.int .i64 0,.int .i64 0,.int .i64 0,.int .i64 0,.string .empty],[]⟩ 8 (by kernel_rfl) (by kernel_rfl) (by kernel_rfl) (by kernel_rfl)) ?_
 intro W base args ds gs before hval0 hW _ hsz0 _
 have hsz:(DataW.weightsEach Try.prog (Try.f4.params.toList++Rows.gradeGrowsSpec.plain.varTypes Try.prog) (ds++gs)).all (· ≤reachBytes)=true:=hsz0
 have hval:∀ (j:Nat) t v,Try.f4.params[j]? =some t→args[j]? =some v→Value.okWide Try.prog W .any base t v:=hval0
 have hW':=hW
 obtain ⟨p,q,hA0,hV,rfl,hfz,hnd⟩:=hW
 have hA:DataW.TrodAll enc Try.prog W 0 (fun _=>true) true Try.f4.params.toList args.toList ds p:=hA0
 rw[Try.params4] at hA hval hsz
 obtain ⟨v0,vs0,d0,ds0,p0,q0,hargs,rfl,rfl,h0,r0⟩:=trodAll_cons hA
 obtain ⟨v1,vs1,d1,ds1,p1,q1,rfl,rfl,rfl,h1,r1⟩:=trodAll_cons r0
 obtain ⟨v2,vs2,d2,ds2,p2,q2,rfl,rfl,rfl,h2,r2⟩:=trodAll_cons r1
 obtain ⟨v3,vs3,d3,ds3,p3,q3,rfl,rfl,rfl,h3,r3⟩:=trodAll_cons r2
 obtain ⟨v4,vs4,d4,ds4,p4,q4,rfl,rfl,rfl,h4,r4⟩:=trodAll_cons r3
 obtain ⟨v5,vs5,d5,ds5,p5,q5,rfl,rfl,rfl,h5,r5⟩:=trodAll_cons r4
 obtain ⟨rfl,rfl,rfl⟩:=trodAll_nil r5
 obtain rfl:args=#[v0,v1,v2,v3,v4,v5]:=by cases args;simp_all
 have hr:=reach_lt
 obtain ⟨S0,N0,M0,hv0,hli0,⟨ha0,hb0,hc0⟩,hd0,he0,hf0⟩:=open_table (hval 0 25 v0 rfl rfl) h0 (weights_at (j:=0) hsz rfl rfl)
 obtain ⟨x1,rfl,hx1⟩:=open_num Try.underlying3 (hval 1 3 v1 rfl rfl) h1
 obtain ⟨x2,rfl,hx2⟩:=open_num Try.underlying3 (hval 2 3 v2 rfl rfl) h2
 obtain ⟨x3,rfl,hx3⟩:=open_num Try.underlying3 (hval 3 3 v3 rfl rfl) h3
 obtain ⟨x4,rfl,hx4⟩:=open_num Try.underlying3 (hval 4 3 v4 rfl rfl) h4
 obtain ⟨s5,rfl,hs5⟩:=open_str Try.underlying9 (hval 5 9 v5 rfl rfl) h5 (weights_at (j:=5) hsz rfl rfl)
 obtain ⟨x5,rfl⟩:∃ x:List UInt8,s5=⟨x.toArray⟩:=⟨s5.data.toList,by simp⟩
 rw[mk_size] at hs5
 obtain ⟨s',hbody⟩:=grows_body W S0 N0 M0 x1 x2 x3 x4 x5 (by omega) ⟨Nat.le_trans ha0 hr,Nat.le_trans hb0 hr,Nat.le_trans hc0 hr⟩ (fun j hj=>Nat.le_trans (hd0 j hj) hr) (fun j hj=>Nat.le_trans (he0 j hj) hr) (fun j hj=>Nat.le_trans (hf0 j hj).1 hr) (wf64 hx1) (wf64 hx2) (wf64 hx3) (wf64 hx4) [v0,.int .i64 x1,.int .i64 x2,.int .i64 x3,.int .i64 x4,.string ⟨x5.toArray⟩]
  (by simp only[VRepL];exact ⟨_,_,rfl,hv0,_,_,rfl,.mksc rfl,_,_,rfl,.mksc rfl,_,_,rfl,.mksc rfl,_,_,rfl,.mksc rfl,_,_,rfl,.mksc rfl,rfl⟩)
 refine (law_ok mixed fns_ok prims_ok (f:=4) (af:=c4) rfl W (xs:= [v0,.int .i64 x1,.int .i64 x2,.int .i64 x3,.int .i64 x4,.string ⟨x5.toArray⟩]) (by simp only[idsL_cons,hli0];rfl) _ hbody rfl).mono fun e W' ⟨he,hbe⟩=>?_
 exact ⟨_,he,law_post hW' rfl rfl (by kernel_rfl) (by kernel_rfl) Try.underlying4 hbe⟩
theorem grows_over:Rows.gradeGrowsRow.holds Try.pinned (OpenSpec.ofChange Rows.gradeGrowsSpec):=
 OpenClaim.holds_of_wide 4 Try.f4 rfl rfl rfl rfl rfl rfl rfl ⟨rfl,rfl,rfl,rfl,rfl⟩ rfl rfl rfl rfl rfl (by kernel_rfl) Try.func4 (by kernel_rfl)
  (of_decide_eq_true (by kernel_rfl)) (by unfold Func.isWrapper;first|(rw[if_pos (by decide+kernel)];kernel_rfl)|(rw[if_neg (by decide+kernel)];exact ⟨rfl,rfl⟩))
  (fun os started H enc _=>grows_lifted os started H enc)
theorem grows_holds:Rows.GradeGrowsSaid:=grows_over
#print axioms grows_holds
end Go.Proofs.Yteibgbbfcjgjiaa
