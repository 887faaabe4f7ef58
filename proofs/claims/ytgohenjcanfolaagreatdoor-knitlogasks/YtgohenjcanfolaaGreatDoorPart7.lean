/- What is proved: the law KnitlogAsks returns true for every input.
   Texts: E44z.
-/
import Derived.Test.YtgohenjcanfolaaGreatDoorPart6
import Derived.Test.YtgohenjcanfolaaGreatDoorCards
import Derived.Test.YtgohenjcanfolaaGreatDoorTie
import Derived.SizedLaws
import Derived.ChangeAt
import Derived.SevenTiedAt
import Derived.Stop.Joined
import Derived.Lay
namespace Go.Proofs.YtgohenjcanfolaaGreatDoor
open Go Go.Itp
open Go.ChangeShapes Go.WideShapes Go.ChangeAt Go.RowKit
set_option linter.unusedVariables false
set_option maxRecDepth 100000
set_option maxHeartbeats 4000000
set_option linter.unusedSimpArgs false
theorem UW:reachBytes<=140737488351232:=by decide
theorem aS0 {H:Type} {enc:TypeId × Value->H} {W:World} {h7:Bool} (cs:List Value) (n:Nat) (y:DataW H × List MemPlace) (hl:cs.length=7) (h:DataW.trod enc Tryz.prog W 0 (fun _=>true) h7 n 54 cs=some y):∃ i:E5,cs=EZ i:=by
 obtain ⟨m,a0,a1,a2,a3,a4,a5,a6,rfl,⟨y0,h0⟩,⟨y1,h1⟩,⟨y2,h2⟩,⟨y3,h3⟩,⟨y4,h4⟩,⟨y5,h5⟩,y6,h6⟩:=aS1 Tryz.underlying54 rfl rfl rfl rfl rfl rfl rfl (by kernel_rfl) (by kernel_rfl) (by kernel_rfl) (by kernel_rfl) (by kernel_rfl) (by kernel_rfl) (by kernel_rfl) cs n y hl h
 obtain ⟨x0,k0,_,j0⟩:=DataW.trod_int Tryz.underlying5 h0
 obtain ⟨x1,k1⟩:=zL Tryz.underlying4 _ _ _ h1
 obtain ⟨x2,k2,_,j2⟩:=DataW.trod_int Tryz.underlying5 h2
 obtain ⟨x3,k3,_⟩:=DataW.trod_int Tryz.underlying3 h3
 obtain ⟨x4,k4,_⟩:=DataW.trod_int Tryz.underlying3 h4
 obtain ⟨x5,k5,_⟩:=DataW.trod_int Tryz.underlying3 h5
 obtain ⟨x6,k6,_⟩:=DataW.trod_int Tryz.underlying3 h6
 simp only[dI9,and_true] at k0 k2 k3 k4 k5 k6
 have b0:=wf8 j0
 have b2:=wf8 j2
 obtain ⟨u0,rfl⟩:=cZ4 b0.1
 obtain ⟨u2,rfl⟩:=cZ4 b2.1
 exact ⟨⟨u0,x1,u2,x3,x4,x5,x6⟩,by rw[k0,k1,k2,k3,k4,k5,k6];rfl⟩
abbrev EvU:={x:Ev // x.kind<256}
instance:Inhabited EvU:=⟨⟨ev0,by decide⟩⟩
theorem cR5:Tryz.prog.cellsOf 56=9:=by kernel_rfl
theorem bC8:Tryz.prog.bytesOf 56=56:=by kernel_rfl
theorem cS0 {H:Type} {enc:TypeId × Value->H} {W:World} {h7:Bool} (cs:List Value) (n:Nat) (y:DataW H × List MemPlace) (hl:cs.length=9) (h:DataW.trod enc Tryz.prog W 0 (fun _=>true) h7 n 56 cs=some y):∃ x:EvU,cs=evC x.1:=by
 obtain ⟨a0,a1,a2,a3,a4,a5,a6,a7,a8,rfl⟩:∃ a0 a1 a2 a3 a4 a5 a6 a7 a8,cs= [a0,a1,a2,a3,a4,a5,a6,a7,a8]:=by
  rcases cs with _|⟨a0,_|⟨a1,_|⟨a2,_|⟨a3,_|⟨a4,_|⟨a5,_|⟨a6,_|⟨a7,_|⟨a8,_|⟨x,l⟩⟩⟩⟩⟩⟩⟩⟩⟩⟩<;>simp at hl
  exact ⟨_,_,_,_,_,_,_,_,_,rfl⟩
 obtain ⟨m,ys,hm,_⟩:=aC3 Tryz.underlying56 h
 obtain ⟨y0,s1,p0,hi,rfl⟩:=dL hm
 obtain ⟨y1,s2,p1,ha,rfl⟩:=dL hi
 obtain ⟨y2,s3,p2,gi,rfl⟩:=dL ha
 have p0:DataW.trod enc Tryz.prog W 0 (fun _=>true) h7 m 5 [a0]=some y0:=p0
 have p1:DataW.trod enc Tryz.prog W 0 (fun _=>true) h7 m 54 [a1,a2,a3,a4,a5,a6,a7]=some y1:=p1
 have p2:DataW.trod enc Tryz.prog W 0 (fun _=>true) h7 m 3 [a8]=some y2:=p2
 obtain ⟨x0,k0,_,j0⟩:=DataW.trod_int Tryz.underlying5 p0
 obtain ⟨i,k1⟩:=aS0 _ _ _ rfl p1
 obtain ⟨x2,k2,_⟩:=DataW.trod_int Tryz.underlying3 p2
 simp only[EZ,dI9,and_true] at k0 k1 k2
 have b0:=wf8 j0
 obtain ⟨u0,rfl⟩:=cZ4 b0.1
 obtain ⟨e1,e2,e3,e4,e5,e6,e7⟩:=k1
 exact ⟨⟨⟨u0,i,x2⟩,by simp only;omega⟩,by rw[k0,k2,e1,e2,e3,e4,e5,e6,e7];rfl⟩
abbrev bY1:={x:u6 // x.kind<256}
instance:Inhabited bY1:=⟨⟨sC,by decide⟩⟩
def cG0 (x:bY1):List Value:= [.int .u8 x.1.kind,.bool x.1.purl,.int .i64 x.1.a,.int .i64 x.1.b]
theorem cR4:Tryz.prog.cellsOf 82=4:=by kernel_rfl
theorem bC7:Tryz.prog.bytesOf 82=24:=by kernel_rfl
theorem cA3 {H:Type} {enc:TypeId × Value->H} {W:World} {h7:Bool} (cs:List Value) (n:Nat) (y:DataW H × List MemPlace) (hl:cs.length=4) (h:DataW.trod enc Tryz.prog W 0 (fun _=>true) h7 n 82 cs=some y):∃ x:bY1,cs=cG0 x:=by
 obtain ⟨m,a0,a1,a2,a3,rfl,⟨y0,h0⟩,⟨y1,h1⟩,⟨y2,h2⟩,y3,h3⟩:=bF7 Tryz.underlying82 rfl rfl rfl rfl (by kernel_rfl) (by kernel_rfl) (by kernel_rfl) (by kernel_rfl) cs n y hl h
 obtain ⟨x0,k0,_,j0⟩:=DataW.trod_int Tryz.underlying5 h0
 obtain ⟨x1,k1⟩:=zL Tryz.underlying4 _ _ _ h1
 obtain ⟨x2,k2,_⟩:=DataW.trod_int Tryz.underlying3 h2
 obtain ⟨x3,k3,_⟩:=DataW.trod_int Tryz.underlying3 h3
 simp only[dI9,and_true] at k0 k2 k3
 have b0:=wf8 j0
 obtain ⟨u0,rfl⟩:=cZ4 b0.1
 exact ⟨⟨⟨u0,x1,x2,x3⟩,by simp only;omega⟩,by rw[k0,k1,k2,k3];rfl⟩
theorem bZ8:Tryz.prog.cellsOf 80=2:=by kernel_rfl
theorem aE2:Tryz.prog.bytesOf 80=32:=by kernel_rfl
theorem cA2 {H:Type} {enc:TypeId × Value->H} {W:World} {h7:Bool} (cs:List Value) (n:Nat) (y:DataW H × List MemPlace) (hl:cs.length=2) (h:DataW.trod enc Tryz.prog W 0 (fun _=>true) h7 n 80 cs=some y) (h8:∀ m ∈ y.1.weights Tryz.prog 80,m<=reachBytes) (b o:Nat) (hc:∀ j,j<2->W.cell? ⟨b,o+j,none⟩=cs[j]?):
  ∃ a:Bool × List u6,(PD a.2/\a.2.length<=140737488351232)/\∀ j,j<2->∃ d u,(xF 1 a)[j]? =some d/\J2 W b (o+j)=some u/\A1 (uX (J2 W)) d u:=by
 obtain ⟨y0,y1,n,rfl,_,h0,h1⟩:=trod_struct2 Tryz.underlying80 h
 obtain ⟨a0,a1,rfl⟩:∃ a b,cs= [a,b]:=by
  rcases cs with _|⟨a,_|⟨b,_|⟨c,r⟩⟩⟩<;>simp at hl
  exact ⟨a,b,rfl⟩
 have h0:DataW.trod enc Tryz.prog W 0 (fun _=>true) h7 n 4 [a0]=some y0:=h0
 have h1:DataW.trod enc Tryz.prog W 0 (fun _=>true) h7 n 76 [a1]=some y1:=h1
 obtain ⟨x,rfl⟩:=zL Tryz.underlying4 _ _ _ h0
 have c0:=hc 0 (by decide)
 have c1:=hc 1 (by decide)
 obtain ⟨m,u,hu,hm,hb⟩:=bP8 (α:=bY1) (g:=cG0) (q:=4) (by decide) (fun a=>⟨rfl,fun c hc=>by simp[cG0] at hc;rcases hc with rfl|rfl|rfl|rfl<;>rfl⟩) Tryz.underlying76 cR4 (by rw[bC7];decide) h1 (fun m hm=>h8 m (by simp only[DataW.weights,Tryz.underlying80,cJ1,dL9,DataW.weightsEach,cB1];exact .inr (.inl hm))) (fun cs n y hl hy=>cA3 cs n y hl hy) c1
 rw[bC7] at hb
 have hr:=UW
 obtain ⟨l,hl,hK,hk⟩:∃ l:List u6,I5 l=m.flatMap (fun a=>(cG0 a).map D.sc)/\PD l/\l.length=m.length:=⟨m.map (·.1),by simp only[I5,List.flatMap_map];rfl,fun x hx=>by obtain ⟨a,_,rfl⟩:=dK4.1 hx;exact a.2,by simp⟩
 rw[<- hl,<- hk] at hm
 refine ⟨(x,l),⟨hK,by show l.length<=_;omega⟩,fun j hj=>?_⟩
 rcases (by omega:j=0\/j=1) with rfl|rfl
 ·exact ⟨_,_,rfl,pJ c0 rfl,by simp only[A1,D2,and_self]⟩
 ·exact ⟨_,_,rfl,hu,hm⟩
theorem aA0 {H:Type} {enc:TypeId × Value->H} {W:World} {b:Nat} {h7:Bool} {v:Value} {d:DataW H} {ps:List MemPlace} (hv:Value.okWide Tryz.prog W .any b 24 v) (h:DataW.Trod enc Tryz.prog W 0 (fun _=>true) h7 24 v d ps)
  (h8:∀ n ∈ d.weights Tryz.prog 24,n<=reachBytes):
  ∃ c:ChT,f9 (uX (J2 W)) (O2 3 1 c) v/\x9 0 v= []/\fB c.2/\c.2.length<=reachBytes:=by
 obtain ⟨n,a0,a1,y0,y1,rfl,e0,e1,h0,h1,w0,w1⟩:=bN2 Tryz.underlying24 rfl rfl (by kernel_rfl) (by kernel_rfl) (by kernel_rfl) hv h h8
 obtain ⟨z,k0,_,j0⟩:=DataW.trod_int Tryz.underlying3 h0
 simp only[dI9,and_true] at k0
 subst k0
 obtain ⟨R,hR,ho,hb,hP⟩:=UV (α:=Bool × List u6) (g:=xF 1) (q:=2) (by decide) (fun _=>rfl) Tryz.underlying22 bZ8 (by rw[aE2];decide) (fun a n c e=>by subst e;obtain ⟨u,hu⟩:=aU8 Tryz.underlying24 (i:=1) hv rfl;exact lI hu) h1 w1 (fun cs n y hl hy hw b o hc=>cA2 cs n y hl hy hw b o hc)
 rw[aE2] at hb
 refine ⟨(z,R),?_,?_,hP,by show R.length<=_;omega⟩
 ·rw[f9]
  refine ⟨[.int .i64 z,a1],rfl,?_⟩
  simp only[i6]
  exact ⟨_,_,rfl,.mksc rfl,_,_,rfl,hR,rfl⟩
 ·rw[cB9,mT,mT,ho]
  rfl
def lG:List (String × DataW Unit):= [("math/bits.deBruijn32tab",Rows.laid_math_bits_deBruijn32tab),("math/bits.deBruijn64tab",Rows.laid_math_bits_deBruijn64tab),("internal/strconv.uint64pow10",Rows.laid_internal_strconv_uint64pow10),("strconv.ErrRange",Rows.laid_strconv_ErrRange),("strconv.ErrSyntax",Rows.laid_strconv_ErrSyntax)]
theorem ZU (os:Os) (args:Array Value):laidMetH Tryz.prog lG ((World.laidAll Tryz.prog os lG).forCall (fun _ _=>0) ⟨#[],args,[]⟩).memory:=by
 rw[MakeChecks.laidMetH_plain _ _ _ (by kernel_rfl)]
 exact laidMet_laidAll _ (by kernel_rfl) (by kernel_rfl)
theorem FA (os:Os):(World.laidAll Tryz.prog os lG).Shaped Tryz.prog:=World.shaped_of_ZipB (by kernel_rfl) (by kernel_rfl)
theorem aX9 {l:List TypeId} {t:TypeId} (hp:(l.all fun u=> !Tryz.prog.wantsStandIn u)=true) (h:t ∈ l):Tryz.prog.wantsStandIn t=false:=by
 have:=bB3.1 hp t h
 simpa using this
theorem PQ (os:Os) (started:os.Started) (H:Type) (enc:TypeId × Value->H):
  ReturnsInHanded {} Tryz.checked os 3 .any (fun w args=>(Rows.knitlogAsksSpec.pre enc Tryz.prog Tryz.f3 [] false w args/\laidMetH Tryz.prog lG w)/\sizedMet enc Tryz.prog Tryz.f3 (OpenSpec.ofChange Rows.knitlogAsksSpec) false w args)
   (Rows.knitlogAsksSpec.post enc Tryz.prog Tryz.f3 false true false false):=by
 refine returnsInHanded_of_change_and (C:=Tryz.checked) (X:=fun w _=>laidMetH Tryz.prog lG w) (fun _ _ _ hh h=>h.of_heap hh) own started (by kernel_rfl) Tryz.func3
  (ChangeSpec.witness_shaped (enc:=enc) (C:=Tryz.checked) (os:=os) (X:=fun w _=>laidMetH Tryz.prog lG w) false (World.laidAll Tryz.prog os lG) #[.agg #[.int .i64 0,.slice none 0 0],.int .i64 0,.slice none 0 0,.string .empty] 8 (World.laidAll_os _ _ _) (FA os) (by kernel_rfl) (by kernel_rfl) (by kernel_rfl) (ZU os _)) ?_
 intro W base args ds gs before hq hW _ hs hL _
 have h9:∀ (j:Nat) t v,Tryz.f3.params[j]? =some t->args[j]? =some v->Value.okWide Tryz.prog W .any base t v:=hq
 have hz:=hW
 obtain ⟨p,q,g0,hV,rfl,gj,gk⟩:=hW
 have hA:DataW.TrodAll enc Tryz.prog W 0 (fun _=>true) true Tryz.f3.params.toList args.toList ds p:=g0
 have h8:(DataW.weightsEach Tryz.prog (Tryz.f3.params.toList++Rows.knitlogAsksSpec.plain.varTypes Tryz.prog) (ds++gs)).all (· <=reachBytes)=true:=hs
 rw[Tryz.params3] at hA h9 h8
 obtain ⟨v0,vs0,d0,ds0,p0,q0,gl,rfl,rfl,h0,r0⟩:=trodAll_cons hA
 obtain ⟨v1,vs1,d1,ds1,p1,q1,rfl,rfl,rfl,h1,r1⟩:=trodAll_cons r0
 obtain ⟨v2,vs2,d2,ds2,p2,q2,rfl,rfl,rfl,h2,r2⟩:=trodAll_cons r1
 obtain ⟨v3,vs3,d3,ds3,p3,q3,rfl,rfl,rfl,h3,r3⟩:=trodAll_cons r2
 obtain ⟨rfl,rfl,rfl⟩:=trodAll_nil r3
 obtain rfl:args=#[v0,v1,v2,v3]:=by cases args;simp_all
 have hr:=UW
 obtain ⟨c0,g1,g2,g3,gm⟩:=aA0 (h9 0 24 v0 rfl rfl) h0 (pS (j:=0) h8 rfl rfl)
 obtain ⟨x1,rfl,gn⟩:=bN0 Tryz.underlying3 (h9 1 3 v1 rfl rfl) h1
 obtain ⟨m2,ha,g4,g5⟩:=UU (α:=EvU) (g:=fun x:EvU=>evC x.1) (q:=9) (by decide) (fun a=>⟨rfl,fun c hc=>by simp[evC] at hc;rcases hc with rfl|rfl|rfl|rfl|rfl|rfl|rfl|rfl|rfl<;>rfl⟩) Tryz.underlying25 cR5 (by rw[bC8];decide) (h9 2 25 v2 rfl rfl) h2 (pS (j:=2) h8 rfl rfl) (fun cs n y hl hy=>cS0 cs n y hl hy)
 rw[bC8] at g5
 obtain ⟨l2,g6,g7,g8⟩:∃ l:List Ev,PA l=m2.flatMap (fun a=>(evC a.1).map D.sc)/\KE l/\l.length=m2.length:=⟨m2.map (·.1),by simp only[PA,List.flatMap_map],fun x hx=>by obtain ⟨a,_,rfl⟩:=dK4.1 hx;exact a.2,by simp⟩
 have g9:f9 (uX (J2 W)) (.sl 3 l2.length (PA l2)) v2:=by rw[g6,g8];exact ha
 obtain ⟨s3,rfl,ga⟩:=bN1 Tryz.underlying9 (h9 3 9 v3 rfl rfl) h3 (pS (j:=3) h8 rfl rfl)
 obtain ⟨x3,rfl⟩:∃ x:List UInt8,s3=⟨x.toArray⟩:=⟨s3.data.toList,by simp⟩
 rw[B1] at ga
 have hd:laidMet Tryz.prog lG W:=by rw[<- MakeChecks.laidMetH_plain _ _ _ (by kernel_rfl)];exact hL
 have gb:Tab W:=bL0 hd 2 rfl (g:=1) (t:=270) (e:=241) (k:= .u64) (m:=20) (by kernel_rfl) (by kernel_rfl) Tryz.underlying270 Tryz.underlying241 (by kernel_rfl) (by kernel_rfl) rfl
 have gc:(X1 Tryz.prog W "strconv.ErrSyntax").isSome=true:=IB hd 4 rfl (g:=2) (t:=104) (by kernel_rfl) (by kernel_rfl) Tryz.underlying104
 have gd:(X1 Tryz.prog W "strconv.ErrRange").isSome=true:=IB hd 3 rfl (g:=3) (t:=104) (by kernel_rfl) (by kernel_rfl) Tryz.underlying104
 obtain ⟨s',gf⟩:=dE3 (old:=J2 W) (rounds:=B6) (fns:=fns) (prims:=PR W) (n:=12) (af:=c3) (xs:= [O2 3 1 c0,.sc (.int .i64 x1),.sl 3 l2.length (PA l2),.sc (.string ⟨x3.toArray⟩)]) (xsI:= [v0,.int .i64 x1,v2,.string ⟨x3.toArray⟩]) (x:= .bool true) (cJ5 rfl)
  (by simp only[i6];exact ⟨_,_,rfl,g1,_,_,rfl,.mksc rfl,_,_,rfl,g9,_,_,rfl,.mksc rfl,rfl⟩) fun C hC hn=>cO8 W c0 g3 x1 l2 g7 x3 (by omega) (by omega) (by omega) gc gd hC hn
 have hg:fns 3=some c3:=rfl
 have gg:x9 0 (.bool true)= []:=rfl
 refine (cT2 gb (f:=3) (af:=c3) hg (xs:= [v0,.int .i64 x1,v2,.string ⟨x3.toArray⟩]) (by simp only[mT,g2,g4];rfl) _ gf gg).mono fun e W' ⟨he,gh⟩=>?_
 exact ⟨_,he,bL1 hz rfl rfl (by kernel_rfl) (by kernel_rfl) Tryz.underlying4 gh⟩
theorem aR0:Rows.KnitlogAsksSaid:=
 OpenClaim.holds_of_wide 3 Tryz.f3 rfl rfl rfl rfl rfl rfl rfl ⟨rfl,rfl,rfl,rfl,rfl⟩ rfl rfl rfl rfl rfl (by kernel_rfl) Tryz.func3 (by kernel_rfl)
  (of_decide_eq_true (by kernel_rfl)) (by unfold Func.isWrapper;first|(rw[aO9 (by decide+kernel)];kernel_rfl)|(rw[aQ4 (by decide+kernel)];exact ⟨rfl,rfl⟩))
  (fun os started H enc _=>PQ os started H enc)
theorem asks_holds:Rows.KnitlogAsksCardSaid:=
 Claim7.holds_tied_plain_at .later [] [.data,.data,.data,.sentinel,.sentinel] true _ true
  aR0 (fun _ h=>by cases h) (by kernel_rfl) (fun _ h=>by cases h) knitlogAsks_row_tie rfl ⟨rfl,rfl⟩ (by kernel_rfl) rfl
  (fun f fn hf hg=>by
   obtain rfl:f=3:=Option.some.inj ((show Tryz.prog.funcNamed "raddle/raddlelaw44.KnitlogAsks"=some 3 by kernel_rfl).symm.trans hf)|>.symm
   obtain rfl:fn=Tryz.f3:=(Option.some.inj (Tryz.func3.symm.trans hg)).symm
   exact ⟨by kernel_rfl,fun j t ht=>aX9 (l:= [24,3,25,9]) (by kernel_rfl) (by rw[Tryz.params3] at ht;simpa using Array.mem_of_getElem? ht)⟩)
  (by kernel_rfl)
#print axioms asks_holds
end Go.Proofs.YtgohenjcanfolaaGreatDoor
