/- What is proved: the law KnitlogFinds returns true for every input.
   Texts: J44f.
-/
import Derived.Test.YtgohenjcanfolaaGreatDoorPart6
import Derived.Test.YtgohenjcanfolaaGreatDoorCards
import Derived.Test.YtgohenjcanfolaaGreatDoorTie
import Derived.SizedLaws
import Derived.ChangeAt
import Derived.SevenTiedAt
import Derived.Stop.Joined
import Derived.Lay
namespace Go.Proofs.YtgohenjcanfolaaGreatDoor
open Go Go.Itp
open Go.ChangeShapes Go.WideShapes Go.ChangeAt Go.RowKit
set_option linter.unusedVariables false
set_option maxRecDepth 100000
set_option maxHeartbeats 4000000
theorem reach_lt:reachBytes≤140737488351232:=by decide
theorem dec_instr {H:Type} {enc:TypeId × Value→H} {W:World} {held:Bool} (cs:List Value) (n:Nat) (y:DataW H × List MemPlace) (hl:cs.length=7) (h:DataW.trod enc Tryz.prog W 0 (fun _=>true) held n 54 cs=some y):∃ i:Ins,cs=insC i:=by
 obtain ⟨m,a0,a1,a2,a3,a4,a5,a6,rfl,⟨y0,h0⟩,⟨y1,h1⟩,⟨y2,h2⟩,⟨y3,h3⟩,⟨y4,h4⟩,⟨y5,h5⟩,y6,h6⟩:=dec_seven Tryz.underlying54 rfl rfl rfl rfl rfl rfl rfl (by kernel_rfl) (by kernel_rfl) (by kernel_rfl) (by kernel_rfl) (by kernel_rfl) (by kernel_rfl) (by kernel_rfl) cs n y hl h
 obtain ⟨x0,k0,_,j0⟩:=DataW.trod_int Tryz.underlying5 h0
 obtain ⟨x1,k1⟩:=dec_bool Tryz.underlying4 _ _ _ h1
 obtain ⟨x2,k2,_,j2⟩:=DataW.trod_int Tryz.underlying5 h2
 obtain ⟨x3,k3,_⟩:=DataW.trod_int Tryz.underlying3 h3
 obtain ⟨x4,k4,_⟩:=DataW.trod_int Tryz.underlying3 h4
 obtain ⟨x5,k5,_⟩:=DataW.trod_int Tryz.underlying3 h5
 obtain ⟨x6,k6,_⟩:=DataW.trod_int Tryz.underlying3 h6
 simp only[List.cons.injEq,and_true] at k0 k2 k3 k4 k5 k6
 have b0:=wf8 j0
 have b2:=wf8 j2
 obtain ⟨u0,rfl⟩:=Int.eq_ofNat_of_zero_le b0.1
 obtain ⟨u2,rfl⟩:=Int.eq_ofNat_of_zero_le b2.1
 exact ⟨⟨u0,x1,u2,x3,x4,x5,x6⟩,by rw[k0,k1,k2,k3,k4,k5,k6];rfl⟩
theorem open_instr {H:Type} {enc:TypeId × Value→H} {W:World} {b:Nat} {held:Bool} {v:Value} {d:DataW H} {ps:List MemPlace} (hv:Value.okWide Tryz.prog W .any b 54 v) (h:DataW.Trod enc Tryz.prog W 0 (fun _=>true) held 54 v d ps):
  ∃ i:Ins,v= .agg (insC i).toArray∧VRep (wOld (oldOf W)) (insV i) v∧ids 0 v= []:=by
 unfold Value.okWide at hv
 rw[Tryz.underlying54] at hv
 obtain ⟨cs,rfl,hcs,_⟩:=hv
 obtain ⟨n,hn⟩:=h
 obtain ⟨l⟩:=cs
 rw[show Tryz.prog.cellsOf 54=7 by kernel_rfl] at hcs
 obtain ⟨i,rfl⟩:=dec_instr l n _ hcs hn
 refine ⟨i,rfl,?_,rfl⟩
 unfold insV
 rw[VRep]
 refine ⟨insC i,rfl,?_⟩
 simp only[VRepL]
 exact ⟨_,_,rfl,.mksc rfl,_,_,rfl,.mksc rfl,_,_,rfl,.mksc rfl,_,_,rfl,.mksc rfl,_,_,rfl,.mksc rfl,_,_,rfl,.mksc rfl,_,_,rfl,.mksc rfl,rfl⟩
theorem cellsJ:Tryz.prog.cellsOf 54=7:=by kernel_rfl
theorem bytesJ:Tryz.prog.bytesOf 54=40:=by kernel_rfl
def listed:List (String × DataW Unit):= [("math/bits.deBruijn32tab",Rows.laid_math_bits_deBruijn32tab),("math/bits.deBruijn64tab",Rows.laid_math_bits_deBruijn64tab),("internal/strconv.uint64pow10",Rows.laid_internal_strconv_uint64pow10),("strconv.ErrRange",Rows.laid_strconv_ErrRange),("strconv.ErrSyntax",Rows.laid_strconv_ErrSyntax)]
theorem listed_met (os:Os) (args:Array Value):laidMetH Tryz.prog listed ((World.laidAll Tryz.prog os listed).forCall (fun _ _=>0) ⟨#[],args,[]⟩).memory:=by
 rw[MakeChecks.laidMetH_plain _ _ _ (by kernel_rfl)]
 exact laidMet_laidAll _ (by kernel_rfl) (by kernel_rfl)
theorem listed_shaped (os:Os):(World.laidAll Tryz.prog os listed).Shaped Tryz.prog:=World.shaped_of_ZipB (by kernel_rfl) (by kernel_rfl)
theorem stand_ins {l:List TypeId} {t:TypeId} (hall:(l.all fun u=> !Tryz.prog.wantsStandIn u)=true) (h:t ∈ l):Tryz.prog.wantsStandIn t=false:=by
 have:=List.all_eq_true.1 hall t h
 simpa using this
theorem finds_lifted (os:Os) (started:os.Started) (H:Type) (enc:TypeId × Value→H):
  ReturnsInHanded {} Tryz.checked os 5 .any (fun w args=>(Rows.knitlogFindsSpec.pre enc Tryz.prog Tryz.f5 [] false w args∧laidMetH Tryz.prog listed w)∧sizedMet enc Tryz.prog Tryz.f5 (OpenSpec.ofChange Rows.knitlogFindsSpec) false w args)
   (Rows.knitlogFindsSpec.post enc Tryz.prog Tryz.f5 false true false false):=by
 refine returnsInHanded_of_change_and (C:=Tryz.checked) (X:=fun w _=>laidMetH Tryz.prog listed w) (fun _ _ _ hh h=>h.of_heap hh) own started (by kernel_rfl) Tryz.func5
  (ChangeSpec.witness_shaped (enc:=enc) (C:=Tryz.checked) (os:=os) (X:=fun w _=>laidMetH Tryz.prog listed w) false (World.laidAll Tryz.prog os listed) #[.slice none 0 0,.int .i64 0,.agg #[.int .u8 0,.bool false,.int .u8 0,.int .i64 0,.int .i64 0,.int .i64 0,.int .i64 0]] 8 (World.laidAll_os _ _ _) (listed_shaped os) (by kernel_rfl) (by kernel_rfl) (by kernel_rfl) (listed_met os _)) ?_
 intro W base args ds gs before hval0 hW _ hsz0 hL _
 have hval:∀ (j:Nat) t v,Tryz.f5.params[j]? =some t→args[j]? =some v→Value.okWide Tryz.prog W .any base t v:=hval0
 have hW':=hW
 obtain ⟨p,q,hA0,hV,rfl,hfz,hnd⟩:=hW
 have hA:DataW.TrodAll enc Tryz.prog W 0 (fun _=>true) true Tryz.f5.params.toList args.toList ds p:=hA0
 have hsz:(DataW.weightsEach Tryz.prog (Tryz.f5.params.toList++Rows.knitlogFindsSpec.plain.varTypes Tryz.prog) (ds++gs)).all (· ≤reachBytes)=true:=hsz0
 rw[Tryz.params5] at hA hval hsz
 obtain ⟨v0,vs0,d0,ds0,p0,q0,hargs,rfl,rfl,h0,r0⟩:=trodAll_cons hA
 obtain ⟨v1,vs1,d1,ds1,p1,q1,rfl,rfl,rfl,h1,r1⟩:=trodAll_cons r0
 obtain ⟨v2,vs2,d2,ds2,p2,q2,rfl,rfl,rfl,h2,r2⟩:=trodAll_cons r1
 obtain ⟨rfl,rfl,rfl⟩:=trodAll_nil r2
 obtain rfl:args=#[v0,v1,v2]:=by cases args;simp_all
 have hr:=reach_lt
 obtain ⟨l0,hv0,hli0,hlr0⟩:=rd_structs' (α:=Ins) (g:=insC) (q:=7) (by decide) (fun a=>⟨rfl,fun c hc=>by simp[insC] at hc;rcases hc with rfl|rfl|rfl|rfl|rfl|rfl|rfl<;>rfl⟩) Tryz.underlying52 cellsJ (by rw[bytesJ];decide) (hval 0 52 v0 rfl rfl) h0 (weights_at (j:=0) hsz rfl rfl) (fun cs n y hl hy=>dec_instr cs n y hl hy)
 rw[bytesJ] at hlr0
 have hv0:VRep (wOld (oldOf W)) (.sl 3 l0.length (insD l0)) v0:=hv0
 obtain ⟨x1,rfl,hx1⟩:=open_num Tryz.underlying3 (hval 1 3 v1 rfl rfl) h1
 obtain ⟨x2,rfl,hv2,hli2⟩:=open_instr (hval 2 54 v2 rfl rfl) h2
 obtain ⟨s',hbody⟩:=law_v (old:=oldOf W) (rounds:=many) (fns:=fns) (prims:=PR W) (n:=12) (af:=c5) (xs:= [.sl 3 l0.length (insD l0),.sc (.int .i64 x1),insV x2]) (xsI:= [v0,.int .i64 x1,.agg (insC x2).toArray]) (x:= .bool true) (Nat.le_of_ble_eq_true rfl)
  (by simp only[VRepL];exact ⟨_,_,rfl,hv0,_,_,rfl,.mksc rfl,_,_,rfl,hv2,rfl⟩) fun C hC hn=>finds_g W l0 x1 x2 (by omega) hC hn
 have hfn:fns 5=some c5:=rfl
 have hrv:ids 0 (.bool true)= []:=rfl
 refine (law_of (f:=5) (af:=c5) hfn (xs:= [v0,.int .i64 x1,.agg (insC x2).toArray]) (by simp only[idsL_cons,hli0,hli2];rfl) _ hbody hrv).mono fun e W' ⟨he,hbe⟩=>?_
 exact ⟨_,he,law_post hW' rfl rfl (by kernel_rfl) (by kernel_rfl) Tryz.underlying4 hbe⟩
theorem finds_over:Rows.KnitlogFindsSaid:=
 OpenClaim.holds_of_wide 5 Tryz.f5 rfl rfl rfl rfl rfl rfl rfl ⟨rfl,rfl,rfl,rfl,rfl⟩ rfl rfl rfl rfl rfl (by kernel_rfl) Tryz.func5 (by kernel_rfl)
  (of_decide_eq_true (by kernel_rfl)) (by unfold Func.isWrapper;first|(rw[if_pos (by decide+kernel)];kernel_rfl)|(rw[if_neg (by decide+kernel)];exact ⟨rfl,rfl⟩))
  (fun os started H enc _=>finds_lifted os started H enc)
theorem finds_holds:Rows.KnitlogFindsCardSaid:=
 Claim7.holds_tied_plain_at .later [] [.data,.data,.data,.sentinel,.sentinel] true _ true
  finds_over (fun _ h=>by cases h) (by kernel_rfl) (fun _ h=>by cases h) knitlogFinds_row_tie rfl ⟨rfl,rfl⟩ (by kernel_rfl) rfl
  (fun f fn hf hfn=>by
   obtain rfl:f=5:=Option.some.inj ((show Tryz.prog.funcNamed "raddle/raddlelaw44.KnitlogFinds"=some 5 by kernel_rfl).symm.trans hf)|>.symm
   obtain rfl:fn=Tryz.f5:=(Option.some.inj (Tryz.func5.symm.trans hfn)).symm
   exact ⟨by kernel_rfl,fun j t ht=>stand_ins (l:= [52,3,54]) (by kernel_rfl) (by rw[Tryz.params5] at ht;simpa using Array.mem_of_getElem? ht)⟩)
  (by kernel_rfl)
#print axioms finds_holds
end Go.Proofs.YtgohenjcanfolaaGreatDoor
