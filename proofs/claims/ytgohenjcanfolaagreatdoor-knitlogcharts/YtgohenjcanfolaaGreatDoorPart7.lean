/- What is proved: the law KnitlogCharts returns true for every input.
   Texts: J45h.
-/
import Derived.Test.YtgohenjcanfolaaGreatDoorPart6
import Derived.Test.YtgohenjcanfolaaGreatDoorCards
import Derived.Test.YtgohenjcanfolaaGreatDoorTie
import Derived.SizedLaws
import Derived.ChangeAt
import Derived.SevenTiedAt
import Derived.Stop.Joined
import Derived.Lay
namespace Go.Proofs.YtgohenjcanfolaaGreatDoor
open Go Go.Itp
open Go.ChangeShapes Go.WideShapes Go.ChangeAt Go.RowKit
set_option linter.unusedVariables false
set_option maxRecDepth 100000
set_option maxHeartbeats 4000000
theorem NG:reachBytes≤140737488351232:=by decide
theorem YJ {H:Type} {enc:TypeId × Value→H} {W:World} {held:Bool} (cs:List Value) (n:Nat) (y:DataW H × List MemPlace) (hl:cs.length=7) (h:DataW.trod enc Tryz.prog W 0 (fun _=>true) held n 54 cs=some y):∃ i:B1,cs=kN i:=by
 obtain ⟨m,a0,a1,a2,a3,a4,a5,a6,rfl,⟨y0,h0⟩,⟨y1,h1⟩,⟨y2,h2⟩,⟨y3,h3⟩,⟨y4,h4⟩,⟨y5,h5⟩,y6,h6⟩:=YK Tryz.underlying54 rfl rfl rfl rfl rfl rfl rfl (by kernel_rfl) (by kernel_rfl) (by kernel_rfl) (by kernel_rfl) (by kernel_rfl) (by kernel_rfl) (by kernel_rfl) cs n y hl h
 obtain ⟨x0,k0,_,j0⟩:=DataW.trod_int Tryz.underlying5 h0
 obtain ⟨x1,k1⟩:=uT Tryz.underlying4 _ _ _ h1
 obtain ⟨x2,k2,_,j2⟩:=DataW.trod_int Tryz.underlying5 h2
 obtain ⟨x3,k3,_⟩:=DataW.trod_int Tryz.underlying3 h3
 obtain ⟨x4,k4,_⟩:=DataW.trod_int Tryz.underlying3 h4
 obtain ⟨x5,k5,_⟩:=DataW.trod_int Tryz.underlying3 h5
 obtain ⟨x6,k6,_⟩:=DataW.trod_int Tryz.underlying3 h6
 simp only[List.cons.injEq,and_true] at k0 k2 k3 k4 k5 k6
 have b0:=wf8 j0
 have b2:=wf8 j2
 obtain ⟨u0,rfl⟩:=Int.eq_ofNat_of_zero_le b0.1
 obtain ⟨u2,rfl⟩:=Int.eq_ofNat_of_zero_le b2.1
 exact ⟨⟨u0,x1,u2,x3,x4,x5,x6⟩,by rw[k0,k1,k2,k3,k4,k5,k6];rfl⟩
abbrev bD1:={x:o8 // x.kind<256}
instance:Inhabited bD1:=⟨⟨iS,by decide⟩⟩
def bL2 (x:bD1):List Value:= [.int .u8 x.1.kind,.bool x.1.purl,.int .i64 x.1.a,.int .i64 x.1.b]
theorem cA1:Tryz.prog.cellsOf 82=4:=by kernel_rfl
theorem aE8:Tryz.prog.bytesOf 82=24:=by kernel_rfl
theorem bF0 {H:Type} {enc:TypeId × Value→H} {W:World} {held:Bool} (cs:List Value) (n:Nat) (y:DataW H × List MemPlace) (hl:cs.length=4) (h:DataW.trod enc Tryz.prog W 0 (fun _=>true) held n 82 cs=some y):∃ x:bD1,cs=bL2 x:=by
 obtain ⟨m,a0,a1,a2,a3,rfl,⟨y0,h0⟩,⟨y1,h1⟩,⟨y2,h2⟩,y3,h3⟩:=aK6 Tryz.underlying82 rfl rfl rfl rfl (by kernel_rfl) (by kernel_rfl) (by kernel_rfl) (by kernel_rfl) cs n y hl h
 obtain ⟨x0,k0,_,j0⟩:=DataW.trod_int Tryz.underlying5 h0
 obtain ⟨x1,k1⟩:=uT Tryz.underlying4 _ _ _ h1
 obtain ⟨x2,k2,_⟩:=DataW.trod_int Tryz.underlying3 h2
 obtain ⟨x3,k3,_⟩:=DataW.trod_int Tryz.underlying3 h3
 simp only[List.cons.injEq,and_true] at k0 k2 k3
 have b0:=wf8 j0
 obtain ⟨u0,rfl⟩:=Int.eq_ofNat_of_zero_le b0.1
 exact ⟨⟨⟨u0,x1,x2,x3⟩,by simp only;omega⟩,by rw[k0,k1,k2,k3];rfl⟩
theorem bE6:Tryz.prog.cellsOf 80=2:=by kernel_rfl
theorem TJ:Tryz.prog.bytesOf 80=32:=by kernel_rfl
theorem bE9 {H:Type} {enc:TypeId × Value→H} {W:World} {held:Bool} (cs:List Value) (n:Nat) (y:DataW H × List MemPlace) (hl:cs.length=2) (h:DataW.trod enc Tryz.prog W 0 (fun _=>true) held n 80 cs=some y) (hsz:∀ m ∈ y.1.weights Tryz.prog 80,m≤reachBytes) (b o:Nat) (hc:∀ j,j<2→W.cell? ⟨b,o+j,none⟩=cs[j]?):
  ∃ a:Bool × List o8,(zQ a.2∧a.2.length≤140737488351232)∧∀ j,j<2→∃ d u,(zN 1 a)[j]? =some d∧F1 W b (o+j)=some u∧v4 (qZ (F1 W)) d u:=by
 obtain ⟨y0,y1,n,rfl,_,h0,h1⟩:=trod_struct2 Tryz.underlying80 h
 obtain ⟨a0,a1,rfl⟩:∃ a b,cs= [a,b]:=by
  rcases cs with _|⟨a,_|⟨b,_|⟨c,r⟩⟩⟩<;>simp at hl
  exact ⟨a,b,rfl⟩
 have h0:DataW.trod enc Tryz.prog W 0 (fun _=>true) held n 4 [a0]=some y0:=h0
 have h1:DataW.trod enc Tryz.prog W 0 (fun _=>true) held n 76 [a1]=some y1:=h1
 obtain ⟨x,rfl⟩:=uT Tryz.underlying4 _ _ _ h0
 have c0:=hc 0 (by decide)
 have c1:=hc 1 (by decide)
 obtain ⟨m,u,hu,hm,hlr⟩:=aV4 (α:=bD1) (g:=bL2) (q:=4) (by decide) (fun a=>⟨rfl,fun c hc=>by simp[bL2] at hc;rcases hc with rfl|rfl|rfl|rfl<;>rfl⟩) Tryz.underlying76 cA1 (by rw[aE8];decide) h1 (fun m hm=>hsz m (by simp only[DataW.weights,Tryz.underlying80,List.map_cons,List.map_nil,DataW.weightsEach,List.mem_append];exact .inr (.inl hm))) (fun cs n y hl hy=>bF0 cs n y hl hy) c1
 rw[aE8] at hlr
 have hr:=NG
 obtain ⟨l,hl,hK,hlen⟩:∃ l:List o8,s5 l=m.flatMap (fun a=>(bL2 a).map D.sc)∧zQ l∧l.length=m.length:=⟨m.map (·.1),by simp only[s5,List.flatMap_map];rfl,fun x hx=>by obtain ⟨a,_,rfl⟩:=List.mem_map.1 hx;exact a.2,by simp⟩
 rw[← hl,← hlen] at hm
 refine ⟨(x,l),⟨hK,by show l.length≤_;omega⟩,fun j hj=>?_⟩
 rcases (by omega:j=0∨j=1) with rfl|rfl
 ·exact ⟨_,_,rfl,lZ c0 rfl,by simp only[v4,C3,and_self]⟩
 ·exact ⟨_,_,rfl,hu,hm⟩
theorem RO {H:Type} {enc:TypeId × Value→H} {W:World} {b:Nat} {held:Bool} {v:Value} {d:DataW H} {ps:List MemPlace} (hv:Value.okWide Tryz.prog W .any b 24 v) (h:DataW.Trod enc Tryz.prog W 0 (fun _=>true) held 24 v d ps)
  (hsz:∀ n ∈ d.weights Tryz.prog 24,n≤reachBytes):
  ∃ c:PW,f8 (qZ (F1 W)) (T6 3 1 c) v∧p9 0 v= []∧T1 c.2∧c.2.length≤reachBytes:=by
 obtain ⟨n,a0,a1,y0,y1,rfl,e0,e1,h0,h1,w0,w1⟩:=aS6 Tryz.underlying24 rfl rfl (by kernel_rfl) (by kernel_rfl) (by kernel_rfl) hv h hsz
 obtain ⟨z,k0,_,j0⟩:=DataW.trod_int Tryz.underlying3 h0
 simp only[List.cons.injEq,and_true] at k0
 subst k0
 obtain ⟨R,hR,hli,hlr,hP⟩:=NF (α:=Bool × List o8) (g:=zN 1) (q:=2) (by decide) (fun _=>rfl) Tryz.underlying22 bE6 (by rw[TJ];decide) (fun a n c e=>by subst e;obtain ⟨u,hu⟩:=ZN Tryz.underlying24 (i:=1) hv rfl;exact hZ hu) h1 w1 (fun cs n y hl hy hw b o hc=>bE9 cs n y hl hy hw b o hc)
 rw[TJ] at hlr
 refine ⟨(z,R),?_,?_,hP,by show R.length≤_;omega⟩
 ·rw[f8]
  refine ⟨[.int .i64 z,a1],rfl,?_⟩
  simp only[j6]
  exact ⟨_,_,rfl,.mksc rfl,_,_,rfl,hR,rfl⟩
 ·rw[bG4,jM,jM,hli]
  rfl
theorem cA2:Tryz.prog.cellsOf 54=7:=by kernel_rfl
theorem aE9:Tryz.prog.bytesOf 54=40:=by kernel_rfl
def lX:List (String × DataW Unit):= [("math/bits.deBruijn32tab",Rows.laid_math_bits_deBruijn32tab),("math/bits.deBruijn64tab",Rows.laid_math_bits_deBruijn64tab),("internal/strconv.uint64pow10",Rows.laid_internal_strconv_uint64pow10),("strconv.ErrRange",Rows.laid_strconv_ErrRange),("strconv.ErrSyntax",Rows.laid_strconv_ErrSyntax)]
theorem RH (os:Os) (args:Array Value):laidMetH Tryz.prog lX ((World.laidAll Tryz.prog os lX).forCall (fun _ _=>0) ⟨#[],args,[]⟩).memory:=by
 rw[MakeChecks.laidMetH_plain _ _ _ (by kernel_rfl)]
 exact laidMet_laidAll _ (by kernel_rfl) (by kernel_rfl)
theorem zG (os:Os):(World.laidAll Tryz.prog os lX).Shaped Tryz.prog:=World.shaped_of_ZipB (by kernel_rfl) (by kernel_rfl)
theorem aA7 {l:List TypeId} {t:TypeId} (hall:(l.all fun u=> !Tryz.prog.wantsStandIn u)=true) (h:t ∈ l):Tryz.prog.wantsStandIn t=false:=by
 have:=List.all_eq_true.1 hall t h
 simpa using this
theorem zC (os:Os) (started:os.Started) (H:Type) (enc:TypeId × Value→H):
  ReturnsInHanded {} Tryz.checked os 6 .any (fun w args=>(Rows.knitlogChartsSpec.pre enc Tryz.prog Tryz.f6 [] false w args∧laidMetH Tryz.prog lX w)∧sizedMet enc Tryz.prog Tryz.f6 (OpenSpec.ofChange Rows.knitlogChartsSpec) false w args)
   (Rows.knitlogChartsSpec.post enc Tryz.prog Tryz.f6 false true false false):=by
 refine returnsInHanded_of_change_and (C:=Tryz.checked) (X:=fun w _=>laidMetH Tryz.prog lX w) (fun _ _ _ hh h=>h.of_heap hh) own started (by kernel_rfl) Tryz.func6
  (ChangeSpec.witness_shaped (enc:=enc) (C:=Tryz.checked) (os:=os) (X:=fun w _=>laidMetH Tryz.prog lX w) false (World.laidAll Tryz.prog os lX) #[.agg #[.int .i64 0,.slice none 0 0],.slice none 0 0] 8 (World.laidAll_os _ _ _) (zG os) (by kernel_rfl) (by kernel_rfl) (by kernel_rfl) (RH os _)) ?_
 intro W base args ds gs before hval0 hW _ hsz0 hL _
 have hval:∀ (j:Nat) t v,Tryz.f6.params[j]? =some t→args[j]? =some v→Value.okWide Tryz.prog W .any base t v:=hval0
 have hW':=hW
 obtain ⟨p,q,hA0,hV,rfl,hfz,hnd⟩:=hW
 have hA:DataW.TrodAll enc Tryz.prog W 0 (fun _=>true) true Tryz.f6.params.toList args.toList ds p:=hA0
 have hsz:(DataW.weightsEach Tryz.prog (Tryz.f6.params.toList++Rows.knitlogChartsSpec.plain.varTypes Tryz.prog) (ds++gs)).all (· ≤reachBytes)=true:=hsz0
 rw[Tryz.params6] at hA hval hsz
 obtain ⟨v0,vs0,d0,ds0,p0,q0,hargs,rfl,rfl,h0,r0⟩:=trodAll_cons hA
 obtain ⟨v1,vs1,d1,ds1,p1,q1,rfl,rfl,rfl,h1,r1⟩:=trodAll_cons r0
 obtain ⟨rfl,rfl,rfl⟩:=trodAll_nil r1
 obtain rfl:args=#[v0,v1]:=by cases args;simp_all
 have hr:=NG
 obtain ⟨c0,hv0,hli0,hKc0,hl0⟩:=RO (hval 0 24 v0 rfl rfl) h0 (yT (j:=0) hsz rfl rfl)
 obtain ⟨l1,hv1,hli1,hlr1⟩:=NE (α:=B1) (g:=kN) (q:=7) (by decide) (fun a=>⟨rfl,fun c hc=>by simp[kN] at hc;rcases hc with rfl|rfl|rfl|rfl|rfl|rfl|rfl<;>rfl⟩) Tryz.underlying52 cA2 (by rw[aE9];decide) (hval 1 52 v1 rfl rfl) h1 (yT (j:=1) hsz rfl rfl) (fun cs n y hl hy=>YJ cs n y hl hy)
 rw[aE9] at hlr1
 have hv1:f8 (qZ (F1 W)) (.sl 3 l1.length (B9 l1)) v1:=hv1
 obtain ⟨s',hbody⟩:=cN7 (old:=F1 W) (rounds:=C7) (fns:=fns) (prims:=PR W) (n:=12) (af:=c6) (xs:= [T6 3 1 c0,.sl 3 l1.length (B9 l1)]) (xsI:= [v0,v1]) (x:= .bool true) (Nat.le_of_ble_eq_true rfl)
  (by simp only[j6];exact ⟨_,_,rfl,hv0,_,_,rfl,hv1,rfl⟩) fun C hC hn=>aJ1 W c0 hKc0 l1 (by omega) (by omega) hC hn
 have hfn:fns 6=some c6:=rfl
 have hrv:p9 0 (.bool true)= []:=rfl
 refine (cB9 (f:=6) (af:=c6) hfn (xs:= [v0,v1]) (by simp only[jM,hli0,hli1];rfl) _ hbody hrv).mono fun e W' ⟨he,hbe⟩=>?_
 exact ⟨_,he,aQ7 hW' rfl rfl (by kernel_rfl) (by kernel_rfl) Tryz.underlying4 hbe⟩
theorem JQ:Rows.KnitlogChartsSaid:=
 OpenClaim.holds_of_wide 6 Tryz.f6 rfl rfl rfl rfl rfl rfl rfl ⟨rfl,rfl,rfl,rfl,rfl⟩ rfl rfl rfl rfl rfl (by kernel_rfl) Tryz.func6 (by kernel_rfl)
  (of_decide_eq_true (by kernel_rfl)) (by unfold Func.isWrapper;first|(rw[if_pos (by decide+kernel)];kernel_rfl)|(rw[if_neg (by decide+kernel)];exact ⟨rfl,rfl⟩))
  (fun os started H enc _=>zC os started H enc)
theorem charts_holds:Rows.KnitlogChartsCardSaid:=
 Claim7.holds_tied_plain_at .later [] [.data,.data,.data,.sentinel,.sentinel] true _ true
  JQ (fun _ h=>by cases h) (by kernel_rfl) (fun _ h=>by cases h) knitlogCharts_row_tie rfl ⟨rfl,rfl⟩ (by kernel_rfl) rfl
  (fun f fn hf hfn=>by
   obtain rfl:f=6:=Option.some.inj ((show Tryz.prog.funcNamed "raddle/raddlelaw44.KnitlogCharts"=some 6 by kernel_rfl).symm.trans hf)|>.symm
   obtain rfl:fn=Tryz.f6:=(Option.some.inj (Tryz.func6.symm.trans hfn)).symm
   exact ⟨by kernel_rfl,fun j t ht=>aA7 (l:= [24,52]) (by kernel_rfl) (by rw[Tryz.params6] at ht;simpa using Array.mem_of_getElem? ht)⟩)
  (by kernel_rfl)
#print axioms charts_holds
end Go.Proofs.YtgohenjcanfolaaGreatDoor
