/- What is proved: the law KnitlogWhere returns true for every input.
   Texts: J44z.
-/
import Derived.Test.YtgohenjcanfolaaGreatDoorPart7
import Derived.Test.YtgohenjcanfolaaGreatDoorCards
import Derived.Test.YtgohenjcanfolaaGreatDoorTie
import Derived.SizedLaws
import Derived.ChangeAt
import Derived.SevenTiedAt
import Derived.Stop.Joined
import Derived.Lay
namespace Go.Proofs.YtgohenjcanfolaaGreatDoor
open Go Go.Itp
open Go.ChangeShapes Go.WideShapes Go.ChangeAt Go.RowKit
set_option linter.unusedVariables false
set_option maxRecDepth 100000
set_option maxHeartbeats 4000000
theorem reach_lt:reachBytes≤140737488351232:=by decide
abbrev StiU:={x:Sti // x.kind<256}
instance:Inhabited StiU:=⟨⟨sti0,by decide⟩⟩
def stiC (x:StiU):List Value:= [.int .u8 x.1.kind,.bool x.1.purl,.int .i64 x.1.a,.int .i64 x.1.b]
theorem cellsC:Tryz.prog.cellsOf 82=4:=by kernel_rfl
theorem bytesC:Tryz.prog.bytesOf 82=24:=by kernel_rfl
theorem dec_sti {H:Type} {enc:TypeId × Value→H} {W:World} {held:Bool} (cs:List Value) (n:Nat) (y:DataW H × List MemPlace) (hl:cs.length=4) (h:DataW.trod enc Tryz.prog W 0 (fun _=>true) held n 82 cs=some y):∃ x:StiU,cs=stiC x:=by
 obtain ⟨m,a0,a1,a2,a3,rfl,⟨y0,h0⟩,⟨y1,h1⟩,⟨y2,h2⟩,y3,h3⟩:=dec_four Tryz.underlying82 rfl rfl rfl rfl (by kernel_rfl) (by kernel_rfl) (by kernel_rfl) (by kernel_rfl) cs n y hl h
 obtain ⟨x0,k0,_,j0⟩:=DataW.trod_int Tryz.underlying5 h0
 obtain ⟨x1,k1⟩:=dec_bool Tryz.underlying4 _ _ _ h1
 obtain ⟨x2,k2,_⟩:=DataW.trod_int Tryz.underlying3 h2
 obtain ⟨x3,k3,_⟩:=DataW.trod_int Tryz.underlying3 h3
 simp only[List.cons.injEq,and_true] at k0 k2 k3
 have b0:=wf8 j0
 obtain ⟨u0,rfl⟩:=Int.eq_ofNat_of_zero_le b0.1
 exact ⟨⟨⟨u0,x1,x2,x3⟩,by simp only;omega⟩,by rw[k0,k1,k2,k3];rfl⟩
theorem cellsRw:Tryz.prog.cellsOf 80=2:=by kernel_rfl
theorem bytesRw:Tryz.prog.bytesOf 80=32:=by kernel_rfl
theorem dec_row {H:Type} {enc:TypeId × Value→H} {W:World} {held:Bool} (cs:List Value) (n:Nat) (y:DataW H × List MemPlace) (hl:cs.length=2) (h:DataW.trod enc Tryz.prog W 0 (fun _=>true) held n 80 cs=some y) (hsz:∀ m ∈ y.1.weights Tryz.prog 80,m≤reachBytes) (b o:Nat) (hc:∀ j,j<2→W.cell? ⟨b,o+j,none⟩=cs[j]?):
  ∃ a:Bool × List Sti,(KOK a.2∧a.2.length≤140737488351232)∧∀ j,j<2→∃ d u,(rowC 1 a)[j]? =some d∧oldOf W b (o+j)=some u∧DRep (wOld (oldOf W)) d u:=by
 obtain ⟨y0,y1,n,rfl,_,h0,h1⟩:=trod_struct2 Tryz.underlying80 h
 obtain ⟨a0,a1,rfl⟩:∃ a b,cs= [a,b]:=by
  rcases cs with _|⟨a,_|⟨b,_|⟨c,r⟩⟩⟩<;>simp at hl
  exact ⟨a,b,rfl⟩
 have h0:DataW.trod enc Tryz.prog W 0 (fun _=>true) held n 4 [a0]=some y0:=h0
 have h1:DataW.trod enc Tryz.prog W 0 (fun _=>true) held n 76 [a1]=some y1:=h1
 obtain ⟨x,rfl⟩:=dec_bool Tryz.underlying4 _ _ _ h0
 have c0:=hc 0 (by decide)
 have c1:=hc 1 (by decide)
 obtain ⟨m,u,hu,hm,hlr⟩:=rd_inner (α:=StiU) (g:=stiC) (q:=4) (by decide) (fun a=>⟨rfl,fun c hc=>by simp[stiC] at hc;rcases hc with rfl|rfl|rfl|rfl<;>rfl⟩) Tryz.underlying76 cellsC (by rw[bytesC];decide) h1 (fun m hm=>hsz m (by simp only[DataW.weights,Tryz.underlying80,List.map_cons,List.map_nil,DataW.weightsEach,List.mem_append];exact .inr (.inl hm))) (fun cs n y hl hy=>dec_sti cs n y hl hy) c1
 rw[bytesC] at hlr
 have hr:=reach_lt
 obtain ⟨l,hl,hK,hlen⟩:∃ l:List Sti,stiD l=m.flatMap (fun a=>(stiC a).map D.sc)∧KOK l∧l.length=m.length:=⟨m.map (·.1),by simp only[stiD,List.flatMap_map];rfl,fun x hx=>by obtain ⟨a,_,rfl⟩:=List.mem_map.1 hx;exact a.2,by simp⟩
 rw[← hl,← hlen] at hm
 refine ⟨(x,l),⟨hK,by show l.length≤_;omega⟩,fun j hj=>?_⟩
 rcases (by omega:j=0∨j=1) with rfl|rfl
 ·exact ⟨_,_,rfl,oldOf_some c0 rfl,by simp only[DRep,scOK,and_self]⟩
 ·exact ⟨_,_,rfl,hu,hm⟩
theorem open_chart {H:Type} {enc:TypeId × Value→H} {W:World} {b:Nat} {held:Bool} {v:Value} {d:DataW H} {ps:List MemPlace} (hv:Value.okWide Tryz.prog W .any b 24 v) (h:DataW.Trod enc Tryz.prog W 0 (fun _=>true) held 24 v d ps)
  (hsz:∀ n ∈ d.weights Tryz.prog 24,n≤reachBytes):
  ∃ c:ChT,VRep (wOld (oldOf W)) (chartV 3 1 c) v∧ids 0 v= []∧KOKR c.2∧c.2.length≤reachBytes:=by
 obtain ⟨n,a0,a1,y0,y1,rfl,e0,e1,h0,h1,w0,w1⟩:=open_two Tryz.underlying24 rfl rfl (by kernel_rfl) (by kernel_rfl) (by kernel_rfl) hv h hsz
 obtain ⟨z,k0,_,j0⟩:=DataW.trod_int Tryz.underlying3 h0
 simp only[List.cons.injEq,and_true] at k0
 subst k0
 obtain ⟨R,hR,hli,hlr,hP⟩:=rd_structsD (α:=Bool × List Sti) (g:=rowC 1) (q:=2) (by decide) (fun _=>rfl) Tryz.underlying22 cellsRw (by rw[bytesRw];decide) (fun a n c e=>by subst e;obtain ⟨u,hu⟩:=okWide_at Tryz.underlying24 (i:=1) hv rfl;exact okWide_spot hu) h1 w1 (fun cs n y hl hy hw b o hc=>dec_row cs n y hl hy hw b o hc)
 rw[bytesRw] at hlr
 refine ⟨(z,R),?_,?_,hP,by show R.length≤_;omega⟩
 ·rw[VRep]
  refine ⟨[.int .i64 z,a1],rfl,?_⟩
  simp only[VRepL]
  exact ⟨_,_,rfl,.mksc rfl,_,_,rfl,hR,rfl⟩
 ·rw[ids_agg,idsL_cons,idsL_cons,hli]
  rfl
def listed:List (String × DataW Unit):= [("math/bits.deBruijn32tab",Rows.laid_math_bits_deBruijn32tab),("math/bits.deBruijn64tab",Rows.laid_math_bits_deBruijn64tab),("internal/strconv.uint64pow10",Rows.laid_internal_strconv_uint64pow10),("strconv.ErrRange",Rows.laid_strconv_ErrRange),("strconv.ErrSyntax",Rows.laid_strconv_ErrSyntax)]
theorem listed_met (os:Os) (args:Array Value):laidMetH Tryz.prog listed ((World.laidAll Tryz.prog os listed).forCall (fun _ _=>0) ⟨#[],args,[]⟩).memory:=by
 rw[MakeChecks.laidMetH_plain _ _ _ (by kernel_rfl)]
 exact laidMet_laidAll _ (by kernel_rfl) (by kernel_rfl)
theorem listed_shaped (os:Os):(World.laidAll Tryz.prog os listed).Shaped Tryz.prog:=World.shaped_of_ZipB (by kernel_rfl) (by kernel_rfl)
theorem stand_ins {l:List TypeId} {t:TypeId} (hall:(l.all fun u=> !Tryz.prog.wantsStandIn u)=true) (h:t ∈ l):Tryz.prog.wantsStandIn t=false:=by
 have:=List.all_eq_true.1 hall t h
 simpa using this
theorem where_lifted (os:Os) (started:os.Started) (H:Type) (enc:TypeId × Value→H):
  ReturnsInHanded {} Tryz.checked os 7 .any (fun w args=>(Rows.knitlogWhereSpec.pre enc Tryz.prog Tryz.f7 [] false w args∧laidMetH Tryz.prog listed w)∧sizedMet enc Tryz.prog Tryz.f7 (OpenSpec.ofChange Rows.knitlogWhereSpec) false w args)
   (Rows.knitlogWhereSpec.post enc Tryz.prog Tryz.f7 false true false false):=by
 refine returnsInHanded_of_change_and (C:=Tryz.checked) (X:=fun w _=>laidMetH Tryz.prog listed w) (fun _ _ _ hh h=>h.of_heap hh) own started (by kernel_rfl) Tryz.func7
  (ChangeSpec.witness_shaped (enc:=enc) (C:=Tryz.checked) (os:=os) (X:=fun w _=>laidMetH Tryz.prog listed w) false (World.laidAll Tryz.prog os listed) #[.agg #[.int .i64 0,.slice none 0 0],.int .i64 0] 8 (World.laidAll_os _ _ _) (listed_shaped os) (by kernel_rfl) (by kernel_rfl) (by kernel_rfl) (listed_met os _)) ?_
 intro W base args ds gs before hval0 hW _ hsz0 hL _
 have hval:∀ (j:Nat) t v,Tryz.f7.params[j]? =some t→args[j]? =some v→Value.okWide Tryz.prog W .any base t v:=hval0
 have hW':=hW
 obtain ⟨p,q,hA0,hV,rfl,hfz,hnd⟩:=hW
 have hA:DataW.TrodAll enc Tryz.prog W 0 (fun _=>true) true Tryz.f7.params.toList args.toList ds p:=hA0
 have hsz:(DataW.weightsEach Tryz.prog (Tryz.f7.params.toList++Rows.knitlogWhereSpec.plain.varTypes Tryz.prog) (ds++gs)).all (· ≤reachBytes)=true:=hsz0
 rw[Tryz.params7] at hA hval hsz
 obtain ⟨v0,vs0,d0,ds0,p0,q0,hargs,rfl,rfl,h0,r0⟩:=trodAll_cons hA
 obtain ⟨v1,vs1,d1,ds1,p1,q1,rfl,rfl,rfl,h1,r1⟩:=trodAll_cons r0
 obtain ⟨rfl,rfl,rfl⟩:=trodAll_nil r1
 obtain rfl:args=#[v0,v1]:=by cases args;simp_all
 have hr:=reach_lt
 obtain ⟨c0,hv0,hli0,hKc0,hl0⟩:=open_chart (hval 0 24 v0 rfl rfl) h0 (weights_at (j:=0) hsz rfl rfl)
 obtain ⟨x1,rfl,hx1⟩:=open_num Tryz.underlying3 (hval 1 3 v1 rfl rfl) h1
 obtain ⟨s',hbody⟩:=law_v (old:=oldOf W) (rounds:=many) (fns:=fns) (prims:=PR W) (n:=12) (af:=c7) (xs:= [chartV 3 1 c0,.sc (.int .i64 x1)]) (xsI:= [v0,.int .i64 x1]) (x:= .bool true) (Nat.le_of_ble_eq_true rfl)
  (by simp only[VRepL];exact ⟨_,_,rfl,hv0,_,_,rfl,.mksc rfl,rfl⟩) fun C hC hn=>where_g W c0 hKc0 x1 (by omega) hC hn
 have hfn:fns 7=some c7:=rfl
 have hrv:ids 0 (.bool true)= []:=rfl
 refine (law_of (f:=7) (af:=c7) hfn (xs:= [v0,.int .i64 x1]) (by simp only[idsL_cons,hli0];rfl) _ hbody hrv).mono fun e W' ⟨he,hbe⟩=>?_
 exact ⟨_,he,law_post hW' rfl rfl (by kernel_rfl) (by kernel_rfl) Tryz.underlying4 hbe⟩
theorem where_over:Rows.KnitlogWhereSaid:=
 OpenClaim.holds_of_wide 7 Tryz.f7 rfl rfl rfl rfl rfl rfl rfl ⟨rfl,rfl,rfl,rfl,rfl⟩ rfl rfl rfl rfl rfl (by kernel_rfl) Tryz.func7 (by kernel_rfl)
  (of_decide_eq_true (by kernel_rfl)) (by unfold Func.isWrapper;first|(rw[if_pos (by decide+kernel)];kernel_rfl)|(rw[if_neg (by decide+kernel)];exact ⟨rfl,rfl⟩))
  (fun os started H enc _=>where_lifted os started H enc)
theorem where_holds:Rows.KnitlogWhereCardSaid:=
 Claim7.holds_tied_plain_at .later [] [.data,.data,.data,.sentinel,.sentinel] true _ true
  where_over (fun _ h=>by cases h) (by kernel_rfl) (fun _ h=>by cases h) knitlogWhere_row_tie rfl ⟨rfl,rfl⟩ (by kernel_rfl) rfl
  (fun f fn hf hfn=>by
   obtain rfl:f=7:=Option.some.inj ((show Tryz.prog.funcNamed "raddle/raddlelaw44.KnitlogWhere"=some 7 by kernel_rfl).symm.trans hf)|>.symm
   obtain rfl:fn=Tryz.f7:=(Option.some.inj (Tryz.func7.symm.trans hfn)).symm
   exact ⟨by kernel_rfl,fun j t ht=>stand_ins (l:= [24,3]) (by kernel_rfl) (by rw[Tryz.params7] at ht;simpa using Array.mem_of_getElem? ht)⟩)
  (by kernel_rfl)
#print axioms where_holds
end Go.Proofs.YtgohenjcanfolaaGreatDoor
