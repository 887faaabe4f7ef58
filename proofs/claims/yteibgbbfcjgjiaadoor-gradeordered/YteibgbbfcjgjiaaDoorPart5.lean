/- What is proved: the law GradeOrdered returns true for every input. Conditions: none beyond the card's own.
   Texts: C40VA, R40V, H40V, G40a, G40b, G40c, G40d, O40s, O40a, O40b, O40c, O40d, O40e, O40f, O40g, O40h, O40i, O40j, O40k, O40l, O40m, O40n.
-/
import Derived.Test.YteibgbbfcjgjiaaDoorPart4
import Derived.KernelRfl
import Derived.Test.YteibgbbfcjgjiaaDoorProg
import Derived.Test.YteibgbbfcjgjiaaDoorRows
namespace Go.Proofs.YteibgbbfcjgjiaaDoor
open Go Go.Itp
set_option maxRecDepth 100000
set_option maxHeartbeats 40000000
noncomputable section
abbrev gzI:List Nat:= [29,31,34,49,50,51,52,60,64,78,79]
theorem gk {n:Nat} {f:Func} {a:AFun} (h1:Tryd.prog.funcs[n]? =some f) (h2:(f.name== "runtime.NumGoroutine")=false:=by kernel_rfl) (h:gzT Tryd.prog f a.code=some (a.code,a.n,a.res):=by kernel_rfl):FunOK Tryd.prog n a:=gok h1 h2 h
def c6r:AFun:=gzx Tryd.prog gzI true Tryd.f6
def c6l0:AC:=gzl c6r 1 []
attribute [local irreducible] c6l0
def c6l1:AC:=gzl c6r 0 [c6l0]
attribute [local irreducible] c6l1
def c6:AFun:=gzn c6r [c6l1,c6l0]
def c9r:AFun:=gzx Tryd.prog gzI true Tryd.f9
def c9l0:AC:=gzl c9r 2 []
attribute [local irreducible] c9l0
def c9l1:AC:=gzl c9r 1 []
attribute [local irreducible] c9l1
def c9l2:AC:=gzl c9r 0 []
attribute [local irreducible] c9l2
def c9:AFun:=gzn c9r [c9l2,c9l1,c9l0]
def c10r:AFun:=gzx Tryd.prog gzI true Tryd.f10
def c10l0:AC:=gzl c10r 1 []
attribute [local irreducible] c10l0
def c10l1:AC:=gzl c10r 0 [c10l0]
attribute [local irreducible] c10l1
def c10:AFun:=gzn c10r [c10l1,c10l0]
def c12r:AFun:=gzx Tryd.prog gzI true Tryd.f12
def c12l0:AC:=gzl c12r 1 []
attribute [local irreducible] c12l0
def c12l1:AC:=gzl c12r 0 [c12l0]
attribute [local irreducible] c12l1
def c12:AFun:=gzn c12r [c12l1,c12l0]
def c14r:AFun:=gzx Tryd.prog gzI true Tryd.f14
def c14l0:AC:=gzl c14r 2 []
attribute [local irreducible] c14l0
def c14l1:AC:=gzl c14r 1 []
attribute [local irreducible] c14l1
def c14l2:AC:=gzl c14r 0 []
attribute [local irreducible] c14l2
def c14:AFun:=gzn c14r [c14l2,c14l1,c14l0]
def c15:AFun:=gzx Tryd.prog gzI true Tryd.f15
def c16r:AFun:=gzx Tryd.prog gzI true Tryd.f16
def c16l0:AC:=gzl c16r 0 []
attribute [local irreducible] c16l0
def c16:AFun:=gzn c16r [c16l0]
def c17r:AFun:=gzx Tryd.prog gzI true Tryd.f17
def c17l0:AC:=gzl c17r 0 []
attribute [local irreducible] c17l0
def c17:AFun:=gzn c17r [c17l0]
def c18:AFun:=gzx Tryd.prog gzI true Tryd.f18
def c19r:AFun:=gzx Tryd.prog gzI true Tryd.f19
def c19l0:AC:=gzl c19r 1 []
attribute [local irreducible] c19l0
def c19l1:AC:=gzl c19r 0 [c19l0]
attribute [local irreducible] c19l1
def c19:AFun:=gzn c19r [c19l1,c19l0]
def c20r:AFun:=gzx Tryd.prog gzI true Tryd.f20
def c20l0:AC:=gzl c20r 0 []
attribute [local irreducible] c20l0
def c20:AFun:=gzn c20r [c20l0]
def c21r:AFun:=gzx Tryd.prog gzI true Tryd.f21
def c21l0:AC:=gzl c21r 0 []
attribute [local irreducible] c21l0
def c21:AFun:=gzn c21r [c21l0]
def c22:AFun:=gzx Tryd.prog gzI true Tryd.f22
def c23r:AFun:=gzx Tryd.prog gzI true Tryd.f23
def c23l0:AC:=gzl c23r 0 []
attribute [local irreducible] c23l0
def c23:AFun:=gzn c23r [c23l0]
def c24r:AFun:=gzx Tryd.prog gzI true Tryd.f24
def c24l0:AC:=gzl c24r 0 []
attribute [local irreducible] c24l0
def c24:AFun:=gzn c24r [c24l0]
def c28r:AFun:=gzx Tryd.prog gzI true Tryd.f28
def c28l0:AC:=gzl c28r 0 []
attribute [local irreducible] c28l0
def c28:AFun:=gzn c28r [c28l0]
def c29:AFun:=gzx Tryd.prog gzI false Tryd.f29
def c30r:AFun:=gzx Tryd.prog gzI true Tryd.f30
def c30l0:AC:=gzl c30r 1 []
attribute [local irreducible] c30l0
def c30l1:AC:=gzl c30r 0 []
attribute [local irreducible] c30l1
def c30:AFun:=gzn c30r [c30l1,c30l0]
def c31:AFun:=gzx Tryd.prog gzI false Tryd.f31
def c32:AFun:=gzx Tryd.prog gzI true Tryd.f32
def c33:AFun:=gzx Tryd.prog gzI true Tryd.f33
def c34:AFun:=gzx Tryd.prog gzI false Tryd.f34
def c36:AFun:=gzx Tryd.prog gzI true Tryd.f36
def c37:AFun:=gzx Tryd.prog gzI true Tryd.f37
def c38:AFun:=gzx Tryd.prog gzI true Tryd.f38
def c41:AFun:=gzx Tryd.prog gzI true Tryd.f41
def c42r:AFun:=gzx Tryd.prog gzI true Tryd.f42
def c42l0:AC:=gzl c42r 0 []
attribute [local irreducible] c42l0
def c42:AFun:=gzn c42r [c42l0]
def c43r:AFun:=gzx Tryd.prog gzI true Tryd.f43
def c43l0:AC:=gzl c43r 0 []
attribute [local irreducible] c43l0
def c43:AFun:=gzn c43r [c43l0]
def c44r:AFun:=gzx Tryd.prog gzI true Tryd.f44
def c44l0:AC:=gzl c44r 0 []
attribute [local irreducible] c44l0
def c44:AFun:=gzn c44r [c44l0]
def c45:AFun:=gzx Tryd.prog gzI true Tryd.f45
def c46:AFun:=gzx Tryd.prog gzI true Tryd.f46
def c47r:AFun:=gzx Tryd.prog gzI true Tryd.f47
def c47l0:AC:=gzl c47r 0 []
attribute [local irreducible] c47l0
def c47:AFun:=gzn c47r [c47l0]
def c48r:AFun:=gzx Tryd.prog gzI true Tryd.f48
def c48l0:AC:=gzl c48r 0 []
attribute [local irreducible] c48l0
def c48:AFun:=gzn c48r [c48l0]
def c49r:AFun:=gzx Tryd.prog gzI false Tryd.f49
def c49l0:AC:=gzl c49r 0 []
attribute [local irreducible] c49l0
def c49:AFun:=gzn c49r [c49l0]
def c50r:AFun:=gzx Tryd.prog gzI false Tryd.f50
def c50l0:AC:=gzl c50r 0 []
attribute [local irreducible] c50l0
def c50:AFun:=gzn c50r [c50l0]
def c51:AFun:=gzx Tryd.prog gzI false Tryd.f51
def c52:AFun:=gzx Tryd.prog gzI false Tryd.f52
def c53:AFun:=gzx Tryd.prog gzI true Tryd.f53
def c54r:AFun:=gzx Tryd.prog gzI true Tryd.f54
def c54l0:AC:=gzl c54r 0 []
attribute [local irreducible] c54l0
def c54:AFun:=gzn c54r [c54l0]
def c55:AFun:=gzx Tryd.prog gzI true Tryd.f55
def c56r:AFun:=gzx Tryd.prog gzI true Tryd.f56
def c56l0:AC:=gzl c56r 0 []
attribute [local irreducible] c56l0
def c56:AFun:=gzn c56r [c56l0]
def c57:AFun:=gzx Tryd.prog gzI true Tryd.f57
def c58r:AFun:=gzx Tryd.prog gzI true Tryd.f58
def c58l0:AC:=gzl c58r 0 []
attribute [local irreducible] c58l0
def c58:AFun:=gzn c58r [c58l0]
def c59r:AFun:=gzx Tryd.prog gzI true Tryd.f59
def c59l0:AC:=gzl c59r 0 []
attribute [local irreducible] c59l0
def c59:AFun:=gzn c59r [c59l0]
def c60:AFun:=gzx Tryd.prog gzI false Tryd.f60
def c61:AFun:=gzx Tryd.prog gzI true Tryd.f61
def c62:AFun:=gzx Tryd.prog gzI true Tryd.f62
def c64:AFun:=gzx Tryd.prog gzI false Tryd.f64
def c65:AFun:=gzx Tryd.prog gzI true Tryd.f65
def c66r:AFun:=gzx Tryd.prog gzI true Tryd.f66
def c66l0:AC:=gzl c66r 0 []
attribute [local irreducible] c66l0
def c66:AFun:=gzn c66r [c66l0]
def c67r:AFun:=gzx Tryd.prog gzI true Tryd.f67
def c67l0:AC:=gzl c67r 0 []
attribute [local irreducible] c67l0
def c67:AFun:=gzn c67r [c67l0]
def c68:AFun:=gzx Tryd.prog gzI true Tryd.f68
def c69:AFun:=gzx Tryd.prog gzI true Tryd.f69
def c70:AFun:=gzx Tryd.prog gzI true Tryd.f70
def c71:AFun:=gzx Tryd.prog gzI true Tryd.f71
def c72:AFun:=gzx Tryd.prog gzI true Tryd.f72
def c73:AFun:=gzx Tryd.prog gzI true Tryd.f73
def c74:AFun:=gzx Tryd.prog gzI true Tryd.f74
def c76:AFun:=gzx Tryd.prog gzI true Tryd.f76
def c77:AFun:=gzx Tryd.prog gzI true Tryd.f77
def c78r:AFun:=gzx Tryd.prog gzI false Tryd.f78
def c78l0:AC:=gzl c78r 0 []
attribute [local irreducible] c78l0
def c78:AFun:=gzn c78r [c78l0]
def c79r:AFun:=gzx Tryd.prog gzI false Tryd.f79
def c79l0:AC:=gzl c79r 1 []
attribute [local irreducible] c79l0
def c79l1:AC:=gzl c79r 0 []
attribute [local irreducible] c79l1
def c79:AFun:=gzn c79r [c79l1,c79l0]
def c80r:AFun:=gzx Tryd.prog gzI true Tryd.f80
def c80l0:AC:=gzl c80r 0 []
attribute [local irreducible] c80l0
def c80:AFun:=gzn c80r [c80l0]
def c81:AFun:=gzx Tryd.prog gzI true Tryd.f81
def c83r:AFun:=gzx Tryd.prog gzI true Tryd.f83
def c83l0:AC:=gzl c83r 0 []
attribute [local irreducible] c83l0
def c83:AFun:=gzn c83r [c83l0]
def c84r:AFun:=gzx Tryd.prog gzI true Tryd.f84
def c84l0:AC:=gzl c84r 0 []
attribute [local irreducible] c84l0
def c84:AFun:=gzn c84r [c84l0]
def c85:AFun:=gzx Tryd.prog gzI true Tryd.f85
def c86:AFun:=gzx Tryd.prog gzI true Tryd.f86
def c87:AFun:=gzx Tryd.prog gzI true Tryd.f87
def c88:AFun:=gzx Tryd.prog gzI true Tryd.f88
def c89:AFun:=gzx Tryd.prog gzI true Tryd.f89
def c90:AFun:=gzx Tryd.prog gzI true Tryd.f90
def c91:AFun:=gzx Tryd.prog gzI true Tryd.f91
def c92:AFun:=gzx Tryd.prog gzI true Tryd.f92
def c93:AFun:=gzx Tryd.prog gzI true Tryd.f93
def c95:AFun:=gzx Tryd.prog gzI true Tryd.f95
def c96r:AFun:=gzx Tryd.prog gzI true Tryd.f96
def c96l0:AC:=gzl c96r 1 []
attribute [local irreducible] c96l0
def c96l1:AC:=gzl c96r 0 []
attribute [local irreducible] c96l1
def c96:AFun:=gzn c96r [c96l1,c96l0]
def c97:AFun:=gzx Tryd.prog gzI true Tryd.f97
def c98r:AFun:=gzx Tryd.prog gzI true Tryd.f98
def c98l0:AC:=gzl c98r 0 []
attribute [local irreducible] c98l0
def c98:AFun:=gzn c98r [c98l0]
def c99:AFun:=gzx Tryd.prog gzI true Tryd.f99
def c100:AFun:=gzx Tryd.prog gzI true Tryd.f100
def c102r:AFun:=gzx Tryd.prog gzI true Tryd.f102
def c102l0:AC:=gzl c102r 1 []
attribute [local irreducible] c102l0
def c102l1:AC:=gzl c102r 0 []
attribute [local irreducible] c102l1
def c102:AFun:=gzn c102r [c102l1,c102l0]
def fns:FuncId→Option AFun
 |6=>some c6
 |9=>some c9
 |10=>some c10
 |12=>some c12
 |14=>some c14
 |15=>some c15
 |16=>some c16
 |17=>some c17
 |18=>some c18
 |19=>some c19
 |20=>some c20
 |21=>some c21
 |22=>some c22
 |23=>some c23
 |24=>some c24
 |28=>some c28
 |29=>some c29
 |30=>some c30
 |31=>some c31
 |32=>some c32
 |33=>some c33
 |34=>some c34
 |36=>some c36
 |37=>some c37
 |38=>some c38
 |41=>some c41
 |42=>some c42
 |43=>some c43
 |44=>some c44
 |45=>some c45
 |46=>some c46
 |47=>some c47
 |48=>some c48
 |49=>some c49
 |50=>some c50
 |51=>some c51
 |52=>some c52
 |53=>some c53
 |54=>some c54
 |55=>some c55
 |56=>some c56
 |57=>some c57
 |58=>some c58
 |59=>some c59
 |60=>some c60
 |61=>some c61
 |62=>some c62
 |64=>some c64
 |65=>some c65
 |66=>some c66
 |67=>some c67
 |68=>some c68
 |69=>some c69
 |70=>some c70
 |71=>some c71
 |72=>some c72
 |73=>some c73
 |74=>some c74
 |76=>some c76
 |77=>some c77
 |78=>some c78
 |79=>some c79
 |80=>some c80
 |81=>some c81
 |83=>some c83
 |84=>some c84
 |85=>some c85
 |86=>some c86
 |87=>some c87
 |88=>some c88
 |89=>some c89
 |90=>some c90
 |91=>some c91
 |92=>some c92
 |93=>some c93
 |95=>some c95
 |96=>some c96
 |97=>some c97
 |98=>some c98
 |99=>some c99
 |100=>some c100
 |102=>some c102
 |_=>none
theorem fns_ok:FunsOK Tryd.prog fns:=by
 intro f af h
 unfold fns at h
 split at h
 ·cases h;exact gk Tryd.func6
 ·cases h;exact gk Tryd.func9
 ·cases h;exact gk Tryd.func10
 ·cases h;exact gk Tryd.func12
 ·cases h;exact gk Tryd.func14
 ·cases h;exact gk Tryd.func15
 ·cases h;exact gk Tryd.func16
 ·cases h;exact gk Tryd.func17
 ·cases h;exact gk Tryd.func18
 ·cases h;exact gk Tryd.func19
 ·cases h;exact gk Tryd.func20
 ·cases h;exact gk Tryd.func21
 ·cases h;exact gk Tryd.func22
 ·cases h;exact gk Tryd.func23
 ·cases h;exact gk Tryd.func24
 ·cases h;exact gk Tryd.func28
 ·cases h;exact gk Tryd.func29
 ·cases h;exact gk Tryd.func30
 ·cases h;exact gk Tryd.func31
 ·cases h;exact gk Tryd.func32
 ·cases h;exact gk Tryd.func33
 ·cases h;exact gk Tryd.func34
 ·cases h;exact gk Tryd.func36
 ·cases h;exact gk Tryd.func37
 ·cases h;exact gk Tryd.func38
 ·cases h;exact gk Tryd.func41
 ·cases h;exact gk Tryd.func42
 ·cases h;exact gk Tryd.func43
 ·cases h;exact gk Tryd.func44
 ·cases h;exact gk Tryd.func45
 ·cases h;exact gk Tryd.func46
 ·cases h;exact gk Tryd.func47
 ·cases h;exact gk Tryd.func48
 ·cases h;exact gk Tryd.func49
 ·cases h;exact gk Tryd.func50
 ·cases h;exact gk Tryd.func51
 ·cases h;exact gk Tryd.func52
 ·cases h;exact gk Tryd.func53
 ·cases h;exact gk Tryd.func54
 ·cases h;exact gk Tryd.func55
 ·cases h;exact gk Tryd.func56
 ·cases h;exact gk Tryd.func57
 ·cases h;exact gk Tryd.func58
 ·cases h;exact gk Tryd.func59
 ·cases h;exact gk Tryd.func60
 ·cases h;exact gk Tryd.func61
 ·cases h;exact gk Tryd.func62
 ·cases h;exact gk Tryd.func64
 ·cases h;exact gk Tryd.func65
 ·cases h;exact gk Tryd.func66
 ·cases h;exact gk Tryd.func67
 ·cases h;exact gk Tryd.func68
 ·cases h;exact gk Tryd.func69
 ·cases h;exact gk Tryd.func70
 ·cases h;exact gk Tryd.func71
 ·cases h;exact gk Tryd.func72
 ·cases h;exact gk Tryd.func73
 ·cases h;exact gk Tryd.func74
 ·cases h;exact gk Tryd.func76
 ·cases h;exact gk Tryd.func77
 ·cases h;exact gk Tryd.func78
 ·cases h;exact gk Tryd.func79
 ·cases h;exact gk Tryd.func80
 ·cases h;exact gk Tryd.func81
 ·cases h;exact gk Tryd.func83
 ·cases h;exact gk Tryd.func84
 ·cases h;exact gk Tryd.func85
 ·cases h;exact gk Tryd.func86
 ·cases h;exact gk Tryd.func87
 ·cases h;exact gk Tryd.func88
 ·cases h;exact gk Tryd.func89
 ·cases h;exact gk Tryd.func90
 ·cases h;exact gk Tryd.func91
 ·cases h;exact gk Tryd.func92
 ·cases h;exact gk Tryd.func93
 ·cases h;exact gk Tryd.func95
 ·cases h;exact gk Tryd.func96
 ·cases h;exact gk Tryd.func97
 ·cases h;exact gk Tryd.func98
 ·cases h;exact gk Tryd.func99
 ·cases h;exact gk Tryd.func100
 ·cases h;exact gk Tryd.func102
 ·cases h
end
end Go.Proofs.YteibgbbfcjgjiaaDoor
namespace Go.Proofs.YteibgbbfcjgjiaaDoor
open Go Go.Itp
set_option maxRecDepth 100000
def prims0:List (FuncId × Prim × TypeId):= [(63,.same,0),(101,.indexByte,0),(82,.count,0),(75,.makeNoZero,5)]
theorem prims_all:AllPrims Tryd.prog prims0:=
 ⟨⟨⟨Tryd.f63,Tryd.func63,by kernel_rfl,by kernel_rfl,by kernel_rfl,rfl⟩⟩,⟨⟨Tryd.f101,Tryd.func101,by kernel_rfl,by kernel_rfl,by kernel_rfl,rfl⟩⟩,⟨⟨Tryd.f82,Tryd.func82,by kernel_rfl,by kernel_rfl,by kernel_rfl,rfl⟩⟩,
  ⟨⟨Tryd.f75,Tryd.func75,by kernel_rfl,by kernel_rfl,#[3],59,by kernel_rfl,rfl,Tryd.underlying59⟩⟩,trivial⟩
def oldP:Nat→Nat→Option Value:=fun b o=>if Nat.beq b 3 then lget (dInts (Rows.laid_internal_strconv_uint64pow10 (H:=Unit))) o else none
theorem run_alive:runsTo true (body (callP oldP many fns (primsOf prims0) 40) c15 [] St.empty)=true:=by kernel_rfl
end Go.Proofs.YteibgbbfcjgjiaaDoor
namespace Go.Proofs.YteibgbbfcjgjiaaDoor
open Go Go.Itp
open Go.RowKit (Below)
set_option linter.unusedVariables false
set_option maxRecDepth 100000
theorem own:ownKnob Tryd.prog.godebug=none:=by kernel_rfl
theorem mixed:Tryd.prog.follows .mixedOrders=true:=by kernel_rfl
def known:List (FuncId × List Value × Bool):= [(15,[],true)]
theorem has_alive:∃ fn c,Tryd.prog.funcs[(15:Nat)]? =some fn∧fn.body=some c∧(fn.name== "runtime.NumGoroutine")=false:=⟨Tryd.f15,_,Tryd.func15,rfl,by kernel_rfl⟩
theorem known_ok:Answers Tryd.prog oldP known:=
 ⟨answer_of mixed fns_ok (fun w _=>primsOf_ok prims0 prims_all w) (f:=15) (af:=c15) rfl rfl run_alive,has_alive,trivial⟩
abbrev PR (w:World):FuncId→List Value→St→Option (Value × List Blk):=orElseP (primT known) (primsOf prims0)
noncomputable abbrev EN (w:World) (n:Nat):Env:=callP (oldOf w) many fns (PR w) n
abbrev Tab (w:World):Prop:=OldIs oldP w
theorem prims_ok (W:World) (ht:Tab W):PrimsOK Tryd.prog (PR W) W:=
 orElse_ok (primT_ok ht known known_ok) (primsOf_ok prims0 prims_all W)
theorem law_of {W:World} (ht:Tab W) {f:FuncId} {af:AFun} (hf:fns f=some af) {xs:List Value} (hxs:idsL 0 xs= []) (n:Nat) {v:Value} {s':St} (hb:body (EN W n) af xs St.empty=some (v,s')) (hv:ids 0 v= []):
  Calls Tryd.prog f xs.toArray W fun e w'=>e= .returned v∧Below W.heap.size W w':=
 law_at mixed fns_ok (oldOf_ok W) (prims_ok W ht) hf hxs n hb hv
theorem alive_o (w:World) (n:Nat) (st:VSt):VSpecO (EN w (n+1)) 15 st [] (.sc (.bool true)):=by
 intro s μ F xsI w0 hsr hx
 have:xsI= []:=by simpa [VRepL] using hx
 subst this
 exact ⟨.bool true,rfl,fun w=> .mksc rfl⟩
end Go.Proofs.YteibgbbfcjgjiaaDoor
namespace Go.Proofs.YteibgbbfcjgjiaaDoor
open Go Go.Itp
set_option maxRecDepth 100000
set_option maxHeartbeats 1000000
set_option linter.unusedSimpArgs false
set_option linter.unusedVariables false
abbrev strV (l:List UInt8):V:= .sc (.string ⟨l.toArray⟩)
abbrev strs (s:Nat) (l:List (List UInt8)):V:= .sl s l.length (l.map sD)
theorem lt_succ_cases {P:Nat→Prop} {k:Nat} (h:∀ j,j<k→P j) (hk:P k):∀ j,j<k+1→P j:=fun j hj=>by
 rcases Nat.lt_or_eq_of_le (Nat.le_of_lt_succ hj) with h1|h1
 ·exact h j h1
 ·subst h1;exact hk
def wch (b:UInt8):Bool:=decide (¬ (((b.toNat:Nat):Int) ≠ 45∧(((b.toNat:Nat):Int)<97∨122<((b.toNat:Nat):Int))∧(((b.toNat:Nat):Int)<48∨57<((b.toNat:Nat):Int))))
def wordS (s:List UInt8):Bool:=decide (1≤s.length∧s.length≤40∧∀ j,j<s.length→wch s[j]! =true)
theorem wch_def (b:UInt8):wch b=true↔¬ (((b.toNat:Nat):Int) ≠ 45∧(((b.toNat:Nat):Int)<97∨122<((b.toNat:Nat):Int))∧(((b.toNat:Nat):Int)<48∨57<((b.toNat:Nat):Int))):=decide_eq_true_iff
def s2bV (nx:Nat) (t:TypeId):V→VO
 | .sc (.string b)=>if Nat.ble b.size room then some (.ref nx 0 b.size (big+b.size),some (.row t 1 true false (b.data.toList.map fun b=> .sc (.int .u8 b.toNat))),[]) else none
 |_=>none
theorem pv_s2b {old:Nat→Nat→Option Value} {fr:VFr} {H:VHp} {nx:Nat} (t:TypeId) (x:Operand):vpstep old fr H nx (.s2b t x)=op1 (s2bV nx t) (vev fr x):=by
 simp only[vpstep,op1]
 cases vev fr x with
 |none=>rfl
 |some v=>cases v<;>first|rfl|(rename_i c;cases c<;>rfl)
theorem s2bV_str (nx t:Nat) (l:List UInt8) (h:l.length≤1000000000):s2bV nx t (strV l)=some (.ref nx 0 l.length (big+l.length),some (.row t 1 true false (l.map Itp.bD)),[]):=by
 have h1:=mk_size l
 show (if Nat.ble (ByteArray.mk l.toArray).size room then _ else _)=_
 rw[if_pos (by rw[Nat.ble_eq,h1];unfold room;omega),h1]
 rfl
theorem bD8_dv (b:UInt8):dv (Itp.bD b)= .sc (.int .u8 b.toNat):=(rfl)
def placeG (l:List (List UInt8)) (x:List UInt8):Nat→Int
 |0=> -1
 |k+1=>if 0≤placeG l x k then placeG l x k else if l[k]! =x then k else -1
theorem placeG_range (l:List (List UInt8)) (x:List UInt8):∀ k,-1≤placeG l x k∧placeG l x k<k
 |0=>by simp[placeG]
 |k+1=>by
  have:=placeG_range l x k
  rw[placeG]
  split
  ·omega
  ·split<;>omega
theorem placeG_none {l:List (List UInt8)} {x:List UInt8}:∀ k,(∀ j,j<k→¬ l[j]! =x)→placeG l x k= -1
 |0,_=>rfl
 |k+1,h=>by rw[placeG,placeG_none k (fun j hj=>h j (by omega)),if_neg (by omega),if_neg (h k (by omega))]
theorem placeG_some {l:List (List UInt8)} {x:List UInt8} {i:Nat} (hi:l[i]! =x) (h:∀ j,j<i→¬ l[j]! =x):∀ k,i<k→placeG l x k=i
 |0,h=>by omega
 |k+1,hk=>by
  rw[placeG]
  by_cases e:i=k
  ·subst e;rw[placeG_none i h,if_neg (by omega),if_pos hi]
  ·rw[placeG_some hi h k (by omega),if_pos (by omega)]
section
variable (w:World) (n:Nat)
theorem word_p (s:List UInt8) (hs:s.length≤100000000):VSpec (EN w (n+1)) 59 [strV s] (.sc (.bool (wordS s))) ⟨[],0,0⟩:=by
 refine vspec_flat rfl rfl (fun _ _=>rfl) (Nat.le_of_ble_eq_true rfl) (oldVals w) rfl fun C hC h0=>?_
 have hsz:=mk_size s
 by_cases hl0:s.length=0
 ·have e:wordS s=false:=decide_eq_false (by omega)
  rw[e]
  repeat' (first|(simp (disch:=first|omega|assumption|exact bd (by with_unfolding_all rfl)|exact Or.inl rfl|exact Or.inl trivial|exact okL_map _ (fun _=>rfl) _|(simp only[VVlen]<;>omega)|fail) only[VV0,VV1,VV2,VV3,VV4,VV5,VV6,VV7,VV8,VV9,mkFnV,vargs,slotsL,opdsA,Nat.reduceEqDiff,Nat.reduceLT,Nat.reduceAdd,Nat.reduceBEq,Int.reduceAdd,Int.reduceSub,Int.reduceLT,Int.reduceLE,Int.reduceEq,Int.reduceNeg,↓reduceIte,reduceCtorEq,scL,scD,expand,List.replicate,c59])|apply gC_drawW|((first|apply gI_dec|apply gG_dec|apply gPG_dec|apply gI_var|apply gG_var|apply gPG_var)<;>intro _))
  all_goals try (exfalso;omega)
  exact weak_flat rfl h0 rfl
 by_cases hl4:40<s.length
 ·have e:wordS s=false:=decide_eq_false (by omega)
  rw[e]
  repeat' (first|(simp (disch:=first|omega|assumption|exact bd (by with_unfolding_all rfl)|exact Or.inl rfl|exact Or.inl trivial|exact okL_map _ (fun _=>rfl) _|(simp only[VVlen]<;>omega)|fail) only[VV0,VV1,VV2,VV3,VV4,VV5,VV6,VV7,VV8,VV9,mkFnV,vargs,slotsL,opdsA,Nat.reduceEqDiff,Nat.reduceLT,Nat.reduceAdd,Nat.reduceBEq,Int.reduceAdd,Int.reduceSub,Int.reduceLT,Int.reduceLE,Int.reduceEq,Int.reduceNeg,↓reduceIte,reduceCtorEq,scL,scD,expand,List.replicate,c59])|apply gC_drawW|((first|apply gI_dec|apply gG_dec|apply gPG_dec|apply gI_var|apply gG_var|apply gPG_var)<;>intro _))
  all_goals try (exfalso;omega)
  exact weak_flat rfl h0 rfl
 have hsb:=fun nx t=>s2bV_str nx t s (by omega)
 have hsm:(s.map Itp.bD).length=s.length:=by rw[List.length_map]
 repeat' (first|(simp (disch:=first|omega|assumption|exact bd (by with_unfolding_all rfl)|exact Or.inl rfl|exact Or.inl trivial|exact okL_map _ (fun _=>rfl) _|(simp only[VVlen]<;>omega)|fail) only[VV0,VV1,VV2,VV3,VV4,VV5,VV6,VV7,VV8,VV9,mkFnV,vargs,slotsL,opdsA,Nat.reduceEqDiff,Nat.reduceLT,Nat.reduceAdd,Nat.reduceBEq,Int.reduceAdd,Int.reduceSub,Int.reduceLT,Int.reduceLE,Int.reduceEq,Int.reduceNeg,↓reduceIte,reduceCtorEq,scL,scD,expand,List.replicate,c59,pv_s2b,hsb])|apply gC_drawW|((first|apply gI_dec|apply gG_dec|apply gPG_dec|apply gI_var|apply gG_var|apply gPG_var)<;>intro _))
 all_goals try (exfalso;omega)
 refine g_while (fun m fr st=>∃ k:Nat,m=s.length - k∧k≤s.length∧fr= [(14,.ref 0 0 s.length (big+s.length)),(15,.sc (.int .i64 s.length)),(16,.sc (.int .i64 k))]∧st=⟨[(0,.row 5 1 true false (s.map Itp.bD))],1,0⟩∧∀ j,j<k→wch s[j]! =true) s.length ?_ ⟨_,_,.refl _ _,0,by omega,Nat.zero_le _,rfl,rfl,by omega⟩ ?_
 ·rw[hC,callP_rounds];unfold many;omega
 rintro m fr st ⟨k,rfl,hk,rfl,rfl,hj⟩
 by_cases hlt:k<s.length
 ·have hd:=wch_def s[k]!
  by_cases hw:wch s[k]! =true
  ·have hj2:=lt_succ_cases hj hw
   have hd:=hd.1 hw
   generalize hB:s[k]! =B at*
   repeat' (first|(simp (disch:=first|omega|assumption|exact bd (by with_unfolding_all rfl)|exact Or.inl rfl|exact Or.inl trivial|exact okL_map _ (fun _=>rfl) _|(simp only[VVlen]<;>omega)|fail) only[VV0,VV1,VV2,VV3,VV4,VV5,VV6,VV7,VV8,VV9,mkFnV,vargs,slotsL,opdsA,Nat.reduceEqDiff,Nat.reduceLT,Nat.reduceAdd,Nat.reduceBEq,Int.reduceAdd,Int.reduceSub,Int.reduceLT,Int.reduceLE,Int.reduceEq,Int.reduceNeg,↓reduceIte,reduceCtorEq,scL,scD,expand,List.replicate,c59l0,bD8_dv,hB])|apply gC_drawW|((first|apply gI_dec|apply gG_dec|apply gPG_dec|apply gI_var|apply gG_var|apply gPG_var)<;>intro _))
   all_goals try (exfalso;omega)
   all_goals exact ⟨_,_,_,by omega,.refl _ _,k+1,rfl,hlt,rfl,rfl,hj2⟩
  ·have e:wordS s=false:=decide_eq_false fun h=>hw (h.2.2 k hlt)
   have hd:=mt hd.2 hw
   rw[e]
   generalize hB:s[k]! =B at*
   repeat' (first|(simp (disch:=first|omega|assumption|exact bd (by with_unfolding_all rfl)|exact Or.inl rfl|exact Or.inl trivial|exact okL_map _ (fun _=>rfl) _|(simp only[VVlen]<;>omega)|fail) only[VV0,VV1,VV2,VV3,VV4,VV5,VV6,VV7,VV8,VV9,mkFnV,vargs,slotsL,opdsA,Nat.reduceEqDiff,Nat.reduceLT,Nat.reduceAdd,Nat.reduceBEq,Int.reduceAdd,Int.reduceSub,Int.reduceLT,Int.reduceLE,Int.reduceEq,Int.reduceNeg,↓reduceIte,reduceCtorEq,scL,scD,expand,List.replicate,c59l0,bD8_dv,hB])|apply gC_drawW|((first|apply gI_dec|apply gG_dec|apply gPG_dec|apply gI_var|apply gG_var|apply gPG_var)<;>intro _))
   all_goals try (exfalso;omega)
   all_goals exact weak_flat rfl h0 rfl
 ·have:k=s.length:=by omega
  subst this
  have e:wordS s=true:=decide_eq_true ⟨by omega,by omega,hj⟩
  rw[e]
  repeat' (first|(simp (disch:=first|omega|assumption|exact bd (by with_unfolding_all rfl)|exact Or.inl rfl|exact Or.inl trivial|exact okL_map _ (fun _=>rfl) _|(simp only[VVlen]<;>omega)|fail) only[VV0,VV1,VV2,VV3,VV4,VV5,VV6,VV7,VV8,VV9,mkFnV,vargs,slotsL,opdsA,Nat.reduceEqDiff,Nat.reduceLT,Nat.reduceAdd,Nat.reduceBEq,Int.reduceAdd,Int.reduceSub,Int.reduceLT,Int.reduceLE,Int.reduceEq,Int.reduceNeg,↓reduceIte,reduceCtorEq,scL,scD,expand,List.replicate,c59l0])|apply gC_drawW|((first|apply gI_dec|apply gG_dec|apply gPG_dec|apply gI_var|apply gG_var|apply gPG_var)<;>intro _))
  exact weak_flat rfl h0 rfl
theorem rword_p (s:List UInt8) (hs:s.length≤100000000):VSpec (EN w (n+1)) 58 [strV s] (.sc (.bool (wordS s))) ⟨[],0,0⟩:=by
 refine vspec_flat rfl rfl (fun _ _=>rfl) (Nat.le_of_ble_eq_true rfl) (oldVals w) rfl fun C hC h0=>?_
 have hsz:=mk_size s
 repeat' (first|(simp (disch:=first|omega|assumption|exact bd (by with_unfolding_all rfl)|exact Or.inl rfl|exact Or.inl trivial|exact okL_map _ (fun _=>rfl) _|(simp only[VVlen]<;>omega)|fail) only[VV0,VV1,VV2,VV3,VV4,VV5,VV6,VV7,VV8,VV9,mkFnV,vargs,slotsL,opdsA,Nat.reduceEqDiff,Nat.reduceLT,Nat.reduceAdd,Nat.reduceBEq,Int.reduceAdd,Int.reduceSub,Int.reduceLT,Int.reduceLE,Int.reduceEq,Int.reduceNeg,↓reduceIte,reduceCtorEq,scL,scD,expand,List.replicate,c58])|apply gC_drawW|((first|apply gI_dec|apply gG_dec|apply gPG_dec|apply gI_var|apply gG_var|apply gPG_var)<;>intro _))
 refine g_while (fun m fr st=>∃ k:Nat,m=s.length - k∧k≤s.length∧fr= [(0,strV s),(3,.sc (.int .i64 k))]∧st=⟨[],0,0⟩∧∀ j,j<k→wch s[j]! =true) s.length ?_ ⟨_,_,.refl _ _,0,by omega,Nat.zero_le _,rfl,rfl,by omega⟩ ?_
 ·rw[hC,callP_rounds];unfold many;omega
 rintro m fr st ⟨k,rfl,hk,rfl,rfl,hj⟩
 by_cases hlt:k<s.length
 ·have hd:=wch_def s[k]!
  have hb:=idxStr_l s .i64 k (by omega) (by omega)
  rw[Int.toNat_natCast] at hb
  by_cases hw:wch s[k]! =true
  ·have hj2:=lt_succ_cases hj hw
   have hd:=hd.1 hw
   generalize s[k]!.toNat=b at*
   repeat' (first|(simp (disch:=first|omega|assumption|exact bd (by with_unfolding_all rfl)|exact Or.inl rfl|exact Or.inl trivial|exact okL_map _ (fun _=>rfl) _|(simp only[VVlen]<;>omega)|fail) only[VV0,VV1,VV2,VV3,VV4,VV5,VV6,VV7,VV8,VV9,mkFnV,vargs,slotsL,opdsA,Nat.reduceEqDiff,Nat.reduceLT,Nat.reduceAdd,Nat.reduceBEq,Int.reduceAdd,Int.reduceSub,Int.reduceLT,Int.reduceLE,Int.reduceEq,Int.reduceNeg,↓reduceIte,reduceCtorEq,scL,scD,expand,List.replicate,c58l0,hb])|apply gC_drawW|((first|apply gI_dec|apply gG_dec|apply gPG_dec|apply gI_var|apply gG_var|apply gPG_var)<;>intro _))
   all_goals try (exfalso;omega)
   all_goals exact ⟨_,_,_,by omega,.refl _ _,k+1,rfl,hlt,rfl,rfl,hj2⟩
  ·have e:wordS s=false:=decide_eq_false fun h=>hw (h.2.2 k hlt)
   have hd:=mt hd.2 hw
   rw[e]
   generalize s[k]!.toNat=b at*
   repeat' (first|(simp (disch:=first|omega|assumption|exact bd (by with_unfolding_all rfl)|exact Or.inl rfl|exact Or.inl trivial|exact okL_map _ (fun _=>rfl) _|(simp only[VVlen]<;>omega)|fail) only[VV0,VV1,VV2,VV3,VV4,VV5,VV6,VV7,VV8,VV9,mkFnV,vargs,slotsL,opdsA,Nat.reduceEqDiff,Nat.reduceLT,Nat.reduceAdd,Nat.reduceBEq,Int.reduceAdd,Int.reduceSub,Int.reduceLT,Int.reduceLE,Int.reduceEq,Int.reduceNeg,↓reduceIte,reduceCtorEq,scL,scD,expand,List.replicate,c58l0,hb])|apply gC_drawW|((first|apply gI_dec|apply gG_dec|apply gPG_dec|apply gI_var|apply gG_var|apply gPG_var)<;>intro _))
   all_goals try (exfalso;omega)
   all_goals exact weak_flat rfl h0 rfl
 ·have:k=s.length:=by omega
  subst this
  by_cases h1:1≤s.length∧s.length≤40
  ·have e:wordS s=true:=decide_eq_true ⟨h1.1,h1.2,hj⟩
   rw[e]
   repeat' (first|(simp (disch:=first|omega|assumption|exact bd (by with_unfolding_all rfl)|exact Or.inl rfl|exact Or.inl trivial|exact okL_map _ (fun _=>rfl) _|(simp only[VVlen]<;>omega)|fail) only[VV0,VV1,VV2,VV3,VV4,VV5,VV6,VV7,VV8,VV9,mkFnV,vargs,slotsL,opdsA,Nat.reduceEqDiff,Nat.reduceLT,Nat.reduceAdd,Nat.reduceBEq,Int.reduceAdd,Int.reduceSub,Int.reduceLT,Int.reduceLE,Int.reduceEq,Int.reduceNeg,↓reduceIte,reduceCtorEq,scL,scD,expand,List.replicate,c58l0])|apply gC_drawW|((first|apply gI_dec|apply gG_dec|apply gPG_dec|apply gI_var|apply gG_var|apply gPG_var)<;>intro _))
   all_goals try (exfalso;omega)
   exact weak_flat rfl h0 rfl
  ·have e:wordS s=false:=decide_eq_false fun h=>h1 ⟨h.1,h.2.1⟩
   rw[e]
   repeat' (first|(simp (disch:=first|omega|assumption|exact bd (by with_unfolding_all rfl)|exact Or.inl rfl|exact Or.inl trivial|exact okL_map _ (fun _=>rfl) _|(simp only[VVlen]<;>omega)|fail) only[VV0,VV1,VV2,VV3,VV4,VV5,VV6,VV7,VV8,VV9,mkFnV,vargs,slotsL,opdsA,Nat.reduceEqDiff,Nat.reduceLT,Nat.reduceAdd,Nat.reduceBEq,Int.reduceAdd,Int.reduceSub,Int.reduceLT,Int.reduceLE,Int.reduceEq,Int.reduceNeg,↓reduceIte,reduceCtorEq,scL,scD,expand,List.replicate,c58l0])|apply gC_drawW|((first|apply gI_dec|apply gG_dec|apply gPG_dec|apply gI_var|apply gG_var|apply gPG_var)<;>intro _))
   all_goals try (exfalso;omega)
   all_goals exact weak_flat rfl h0 rfl
theorem gix_p (s:Nat) (l:List (List UInt8)) (x:List UInt8) (hl:l.length≤100000000):VSpec (EN w (n+1)) 48 [strs s l,strV x] (.sc (.int .i64 (placeG l x l.length))) ⟨[],0,0⟩:=by
 refine vspec_flat rfl rfl (fun _ _=>rfl) (Nat.le_of_ble_eq_true rfl) (oldVals w) rfl fun C hC h0=>?_
 repeat' (first|(simp (disch:=first|omega|assumption|exact bd (by with_unfolding_all rfl)|exact Or.inl rfl|exact Or.inl trivial|exact okL_map _ (fun _=>rfl) _|(simp only[VVlen]<;>omega)|fail) only[VV0,VV1,VV2,VV3,VV4,VV5,VV6,VV7,VV8,VV9,mkFnV,vargs,slotsL,opdsA,Nat.reduceEqDiff,Nat.reduceLT,Nat.reduceAdd,Nat.reduceBEq,Int.reduceAdd,Int.reduceSub,Int.reduceLT,Int.reduceLE,Int.reduceEq,Int.reduceNeg,↓reduceIte,reduceCtorEq,scL,scD,expand,List.replicate,c48])|apply gC_drawW|((first|apply gI_dec|apply gG_dec|apply gPG_dec|apply gI_var|apply gG_var|apply gPG_var)<;>intro _))
 refine g_while (fun m fr st=>∃ k:Nat,m=l.length - k∧k≤l.length∧fr= [(1,strV x),(7,strs s l),(8,.sc (.int .i64 l.length)),(9,.sc (.int .i64 k))]∧st=⟨[],0,0⟩∧∀ j,j<k→¬ l[j]! =x) l.length ?_ ⟨_,_,.refl _ _,0,by omega,Nat.zero_le _,rfl,rfl,by omega⟩ ?_
 ·rw[hC,callP_rounds];unfold many;omega
 rintro m fr st ⟨k,rfl,hk,rfl,rfl,hj⟩
 by_cases hlt:k<l.length
 ·by_cases hx:l[k]! =x
  ·rw[placeG_some hx hj l.length hlt]
   have hx2:x=l[k]! :=hx.symm
   repeat' (first|(simp (disch:=first|omega|assumption|exact bd (by with_unfolding_all rfl)|exact Or.inl rfl|exact Or.inl trivial|exact okL_map _ (fun _=>rfl) _|(simp only[VVlen]<;>omega)|fail) only[VV0,VV1,VV2,VV3,VV4,VV5,VV6,VV7,VV8,VV9,mkFnV,vargs,slotsL,opdsA,Nat.reduceEqDiff,Nat.reduceLT,Nat.reduceAdd,Nat.reduceBEq,Int.reduceAdd,Int.reduceSub,Int.reduceLT,Int.reduceLE,Int.reduceEq,Int.reduceNeg,↓reduceIte,reduceCtorEq,scL,scD,expand,List.replicate,c48l0,sD_dv,mk_inj,hx])|apply gC_drawW|((first|apply gI_dec|apply gG_dec|apply gPG_dec|apply gI_var|apply gG_var|apply gPG_var)<;>intro _))
   all_goals try (exfalso;omega)
   all_goals exact weak_flat rfl h0 rfl
  ·have hx2:¬ x=l[k]! :=fun h=>hx h.symm
   repeat' (first|(simp (disch:=first|omega|assumption|exact bd (by with_unfolding_all rfl)|exact Or.inl rfl|exact Or.inl trivial|exact okL_map _ (fun _=>rfl) _|(simp only[VVlen]<;>omega)|fail) only[VV0,VV1,VV2,VV3,VV4,VV5,VV6,VV7,VV8,VV9,mkFnV,vargs,slotsL,opdsA,Nat.reduceEqDiff,Nat.reduceLT,Nat.reduceAdd,Nat.reduceBEq,Int.reduceAdd,Int.reduceSub,Int.reduceLT,Int.reduceLE,Int.reduceEq,Int.reduceNeg,↓reduceIte,reduceCtorEq,scL,scD,expand,List.replicate,c48l0,sD_dv,mk_inj,hx,hx2])|apply gC_drawW|((first|apply gI_dec|apply gG_dec|apply gPG_dec|apply gI_var|apply gG_var|apply gPG_var)<;>intro _))
   all_goals try (exfalso;omega)
   all_goals exact ⟨_,_,_,by omega,.refl _ _,k+1,rfl,hlt,rfl,rfl,lt_succ_cases hj hx⟩
 ·have:k=l.length:=by omega
  subst this
  rw[placeG_none l.length hj]
  repeat' (first|(simp (disch:=first|omega|assumption|exact bd (by with_unfolding_all rfl)|exact Or.inl rfl|exact Or.inl trivial|exact okL_map _ (fun _=>rfl) _|(simp only[VVlen]<;>omega)|fail) only[VV0,VV1,VV2,VV3,VV4,VV5,VV6,VV7,VV8,VV9,mkFnV,vargs,slotsL,opdsA,Nat.reduceEqDiff,Nat.reduceLT,Nat.reduceAdd,Nat.reduceBEq,Int.reduceAdd,Int.reduceSub,Int.reduceLT,Int.reduceLE,Int.reduceEq,Int.reduceNeg,↓reduceIte,reduceCtorEq,scL,scD,expand,List.replicate,c48l0])|apply gC_drawW|((first|apply gI_dec|apply gG_dec|apply gPG_dec|apply gI_var|apply gG_var|apply gPG_var)<;>intro _))
  exact weak_flat rfl h0 rfl
theorem rindex_p (s:Nat) (l:List (List UInt8)) (x:List UInt8) (hl:l.length≤100000000):VSpec (EN w (n+1)) 24 [strs s l,strV x] (.sc (.int .i64 (placeG l x l.length))) ⟨[],0,0⟩:=by
 refine vspec_flat rfl rfl (fun _ _=>rfl) (Nat.le_of_ble_eq_true rfl) (oldVals w) rfl fun C hC h0=>?_
 repeat' (first|(simp (disch:=first|omega|assumption|exact bd (by with_unfolding_all rfl)|exact Or.inl rfl|exact Or.inl trivial|exact okL_map _ (fun _=>rfl) _|(simp only[VVlen]<;>omega)|fail) only[VV0,VV1,VV2,VV3,VV4,VV5,VV6,VV7,VV8,VV9,mkFnV,vargs,slotsL,opdsA,Nat.reduceEqDiff,Nat.reduceLT,Nat.reduceAdd,Nat.reduceBEq,Int.reduceAdd,Int.reduceSub,Int.reduceLT,Int.reduceLE,Int.reduceEq,Int.reduceNeg,↓reduceIte,reduceCtorEq,scL,scD,expand,List.replicate,c24])|apply gC_drawW|((first|apply gI_dec|apply gG_dec|apply gPG_dec|apply gI_var|apply gG_var|apply gPG_var)<;>intro _))
 refine g_while (fun m fr st=>∃ k:Nat,m=l.length - k∧k≤l.length∧fr= [(0,strs s l),(1,strV x),(5,.sc (.int .i64 k))]∧st=⟨[],0,0⟩∧∀ j,j<k→¬ l[j]! =x) l.length ?_ ⟨_,_,.refl _ _,0,by omega,Nat.zero_le _,rfl,rfl,by omega⟩ ?_
 ·rw[hC,callP_rounds];unfold many;omega
 rintro m fr st ⟨k,rfl,hk,rfl,rfl,hj⟩
 by_cases hlt:k<l.length
 ·by_cases hx:l[k]! =x
  ·rw[placeG_some hx hj l.length hlt]
   repeat' (first|(simp (disch:=first|omega|assumption|exact bd (by with_unfolding_all rfl)|exact Or.inl rfl|exact Or.inl trivial|exact okL_map _ (fun _=>rfl) _|(simp only[VVlen]<;>omega)|fail) only[VV0,VV1,VV2,VV3,VV4,VV5,VV6,VV7,VV8,VV9,mkFnV,vargs,slotsL,opdsA,Nat.reduceEqDiff,Nat.reduceLT,Nat.reduceAdd,Nat.reduceBEq,Int.reduceAdd,Int.reduceSub,Int.reduceLT,Int.reduceLE,Int.reduceEq,Int.reduceNeg,↓reduceIte,reduceCtorEq,scL,scD,expand,List.replicate,c24l0,sD_dv,mk_inj,hx])|apply gC_drawW|((first|apply gI_dec|apply gG_dec|apply gPG_dec|apply gI_var|apply gG_var|apply gPG_var)<;>intro _))
   all_goals try (exfalso;omega)
   all_goals exact weak_flat rfl h0 rfl
  ·have hx2:¬ x=l[k]! :=fun h=>hx h.symm
   repeat' (first|(simp (disch:=first|omega|assumption|exact bd (by with_unfolding_all rfl)|exact Or.inl rfl|exact Or.inl trivial|exact okL_map _ (fun _=>rfl) _|(simp only[VVlen]<;>omega)|fail) only[VV0,VV1,VV2,VV3,VV4,VV5,VV6,VV7,VV8,VV9,mkFnV,vargs,slotsL,opdsA,Nat.reduceEqDiff,Nat.reduceLT,Nat.reduceAdd,Nat.reduceBEq,Int.reduceAdd,Int.reduceSub,Int.reduceLT,Int.reduceLE,Int.reduceEq,Int.reduceNeg,↓reduceIte,reduceCtorEq,scL,scD,expand,List.replicate,c24l0,sD_dv,mk_inj,hx,hx2])|apply gC_drawW|((first|apply gI_dec|apply gG_dec|apply gPG_dec|apply gI_var|apply gG_var|apply gPG_var)<;>intro _))
   all_goals try (exfalso;omega)
   all_goals exact ⟨_,_,_,by omega,.refl _ _,k+1,rfl,hlt,rfl,rfl,lt_succ_cases hj hx⟩
 ·have:k=l.length:=by omega
  subst this
  rw[placeG_none l.length hj]
  repeat' (first|(simp (disch:=first|omega|assumption|exact bd (by with_unfolding_all rfl)|exact Or.inl rfl|exact Or.inl trivial|exact okL_map _ (fun _=>rfl) _|(simp only[VVlen]<;>omega)|fail) only[VV0,VV1,VV2,VV3,VV4,VV5,VV6,VV7,VV8,VV9,mkFnV,vargs,slotsL,opdsA,Nat.reduceEqDiff,Nat.reduceLT,Nat.reduceAdd,Nat.reduceBEq,Int.reduceAdd,Int.reduceSub,Int.reduceLT,Int.reduceLE,Int.reduceEq,Int.reduceNeg,↓reduceIte,reduceCtorEq,scL,scD,expand,List.replicate,c24l0])|apply gC_drawW|((first|apply gI_dec|apply gG_dec|apply gPG_dec|apply gI_var|apply gG_var|apply gPG_var)<;>intro _))
  exact weak_flat rfl h0 rfl
end
def wF (l:List (List UInt8)):Nat→Bool
 |0=>decide (0<l.length)
 |k+1=>wF l k && wordS l[k]!
def tF (l:List (List UInt8)):Nat→Bool
 |0=>false
 |k+1=>tF l k||decide (placeG l l[k]! l.length<k)
def wordsS (l:List (List UInt8)):Bool:=wF l l.length
def twiceS (l:List (List UInt8)):Bool:=tF l l.length
theorem wF_iff (l:List (List UInt8)):∀ k,wF l k=true↔0<l.length∧∀ j,j<k→wordS l[j]! =true
 |0=>by simp[wF]
 |k+1=>by
  rw[wF,Bool.and_eq_true,wF_iff l k]
  constructor
  ·rintro ⟨⟨h1,h2⟩,h3⟩;exact ⟨h1,lt_succ_cases h2 h3⟩
  ·rintro ⟨h1,h2⟩;exact ⟨⟨h1,fun j hj=>h2 j (by omega)⟩,h2 k (by omega)⟩
theorem tF_iff (l:List (List UInt8)):∀ k,tF l k=true↔∃ j,j<k∧placeG l l[j]! l.length<j
 |0=>by simp[tF]
 |k+1=>by
  rw[tF,Bool.or_eq_true,tF_iff l k,decide_eq_true_eq]
  constructor
  ·rintro (⟨j,h1,h2⟩|h)
   ·exact ⟨j,by omega,h2⟩
   ·exact ⟨k,by omega,h⟩
  ·rintro ⟨j,h1,h2⟩
   by_cases e:j=k
   ·subst e;exact .inr h2
   ·exact .inl ⟨j,by omega,h2⟩
def rowTo (l:List Int) (k:Nat):Prop:=∀ j,j<k→0≤l[j]! ∧l[j]! ≤1000000∧(0<j→l[j - 1]! ≤l[j]!)
def rowS (l:List Int) (n:Nat):Bool:=decide (l.length=n∧∀ j,j<l.length→0≤l[j]! ∧l[j]! ≤1000000∧(0<j→l[j - 1]! ≤l[j]!))
abbrev intsV (s:Nat) (l:List Int):V:= .sl s l.length (l.map iD)
section
variable (w:World) (n:Nat)
theorem words_p (s:Nat) (l:List (List UInt8)) (hl:l.length≤100000000) (hs:∀ j,j<l.length→l[j]!.length≤100000000):VSpec (EN w (n+2)) 47 [strs s l] (.tup [.sc (.bool (wordsS l)),.sc (.bool (twiceS l))]) ⟨[],0,0⟩:=by
 refine vspec_flat rfl rfl (fun _ _=>rfl) (Nat.le_of_ble_eq_true rfl) (oldVals w) rfl fun C hC h0=>?_
 have h00:decide ((0:Int)<l.length)=wF l 0:=by rw[wF];congr 1;apply propext;omega
 repeat' (first|(simp (disch:=first|omega|assumption|exact bd (by with_unfolding_all rfl)|exact Or.inl rfl|exact Or.inl trivial|exact okL_map _ (fun _=>rfl) _|(simp only[VVlen]<;>omega)|fail) only[VV0,VV1,VV2,VV3,VV4,VV5,VV6,VV7,VV8,VV9,mkFnV,vargs,slotsL,opdsA,Nat.reduceEqDiff,Nat.reduceLT,Nat.reduceAdd,Nat.reduceBEq,Int.reduceAdd,Int.reduceSub,Int.reduceLT,Int.reduceLE,Int.reduceEq,Int.reduceNeg,↓reduceIte,reduceCtorEq,scL,scD,expand,List.replicate,c47])|apply gC_drawW|((first|apply gI_dec|apply gG_dec|apply gPG_dec|apply gI_var|apply gG_var|apply gPG_var)<;>intro _))
 all_goals try rw[h00]
 refine g_while (fun m fr st=>∃ k:Nat,m=l.length - k∧k≤l.length∧fr= [(0,strs s l),(2,.sc (.bool (wF l k))),(3,.sc (.bool (tF l k))),(9,strs s l),(10,.sc (.int .i64 l.length)),(11,.sc (.int .i64 k))]∧st=⟨[],0,0⟩) l.length ?_ ⟨_,_,.refl _ _,0,by omega,Nat.zero_le _,rfl,rfl⟩ ?_
 ·rw[hC,callP_rounds];unfold many;omega
 rintro m fr st ⟨k,rfl,hk,rfl,rfl⟩
 by_cases hlt:k<l.length
 ·have e1:wF l (k+1)=(wF l k && wordS l[k]!):=rfl
  have e2:tF l (k+1)=(tF l k||decide (placeG l l[k]! l.length<k)):=rfl
  have hw:=fun st=>(word_p w n l[k]! (hs k hlt)).of hC rfl st rfl
  have hi:=fun st=>(gix_p w n s l l[k]! hl).of hC rfl st rfl
  generalize hX:l[k]! =X at*
  generalize wordS X=b at*
  have hp:decide (placeG l X l.length<(k:Int))=decide (placeG l X l.length<k):=rfl
  generalize placeG l X l.length=p at*
  generalize wF l k=f at*
  generalize tF l k=g at*
  cases f<;>cases g
  ·repeat' (first|(simp (disch:=first|omega|assumption|exact bd (by with_unfolding_all rfl)|exact Or.inl rfl|exact Or.inl trivial|exact okL_map _ (fun _=>rfl) _|(simp only[VVlen]<;>omega)|fail) only[VV0,VV1,VV2,VV3,VV4,VV5,VV6,VV7,VV8,VV9,mkFnV,vargs,slotsL,opdsA,Nat.reduceEqDiff,Nat.reduceLT,Nat.reduceAdd,Nat.reduceBEq,Int.reduceAdd,Int.reduceSub,Int.reduceLT,Int.reduceLE,Int.reduceEq,Int.reduceNeg,↓reduceIte,reduceCtorEq,scL,scD,expand,List.replicate,c47l0,sD_dv,hX])|apply gC_drawW|((first|apply gI_dec|apply gG_dec|apply gPG_dec|apply gI_var|apply gG_var|apply gPG_var)<;>intro _))
   refine callV_flat (hi _) ?_
   repeat' (first|(simp (disch:=first|omega|assumption|exact bd (by with_unfolding_all rfl)|exact Or.inl rfl|exact Or.inl trivial|exact okL_map _ (fun _=>rfl) _|(simp only[VVlen]<;>omega)|fail) only[VV0,VV1,VV2,VV3,VV4,VV5,VV6,VV7,VV8,VV9,mkFnV,vargs,slotsL,opdsA,Nat.reduceEqDiff,Nat.reduceLT,Nat.reduceAdd,Nat.reduceBEq,Int.reduceAdd,Int.reduceSub,Int.reduceLT,Int.reduceLE,Int.reduceEq,Int.reduceNeg,↓reduceIte,reduceCtorEq,scL,scD,expand,List.replicate])|apply gC_drawW|((first|apply gI_dec|apply gG_dec|apply gPG_dec|apply gI_var|apply gG_var|apply gPG_var)<;>intro _))
   exact ⟨_,_,_,by omega,.refl _ _,k+1,rfl,hlt,by rw[e1,e2];rfl,rfl⟩
  ·repeat' (first|(simp (disch:=first|omega|assumption|exact bd (by with_unfolding_all rfl)|exact Or.inl rfl|exact Or.inl trivial|exact okL_map _ (fun _=>rfl) _|(simp only[VVlen]<;>omega)|fail) only[VV0,VV1,VV2,VV3,VV4,VV5,VV6,VV7,VV8,VV9,mkFnV,vargs,slotsL,opdsA,Nat.reduceEqDiff,Nat.reduceLT,Nat.reduceAdd,Nat.reduceBEq,Int.reduceAdd,Int.reduceSub,Int.reduceLT,Int.reduceLE,Int.reduceEq,Int.reduceNeg,↓reduceIte,reduceCtorEq,scL,scD,expand,List.replicate,c47l0,sD_dv,hX])|apply gC_drawW|((first|apply gI_dec|apply gG_dec|apply gPG_dec|apply gI_var|apply gG_var|apply gPG_var)<;>intro _))
   exact ⟨_,_,_,by omega,.refl _ _,k+1,rfl,hlt,by rw[e1,e2];rfl,rfl⟩
  ·repeat' (first|(simp (disch:=first|omega|assumption|exact bd (by with_unfolding_all rfl)|exact Or.inl rfl|exact Or.inl trivial|exact okL_map _ (fun _=>rfl) _|(simp only[VVlen]<;>omega)|fail) only[VV0,VV1,VV2,VV3,VV4,VV5,VV6,VV7,VV8,VV9,mkFnV,vargs,slotsL,opdsA,Nat.reduceEqDiff,Nat.reduceLT,Nat.reduceAdd,Nat.reduceBEq,Int.reduceAdd,Int.reduceSub,Int.reduceLT,Int.reduceLE,Int.reduceEq,Int.reduceNeg,↓reduceIte,reduceCtorEq,scL,scD,expand,List.replicate,c47l0,sD_dv,hX])|apply gC_drawW|((first|apply gI_dec|apply gG_dec|apply gPG_dec|apply gI_var|apply gG_var|apply gPG_var)<;>intro _))
   refine callV_flat (hw _) ?_
   repeat' (first|(simp (disch:=first|omega|assumption|exact bd (by with_unfolding_all rfl)|exact Or.inl rfl|exact Or.inl trivial|exact okL_map _ (fun _=>rfl) _|(simp only[VVlen]<;>omega)|fail) only[VV0,VV1,VV2,VV3,VV4,VV5,VV6,VV7,VV8,VV9,mkFnV,vargs,slotsL,opdsA,Nat.reduceEqDiff,Nat.reduceLT,Nat.reduceAdd,Nat.reduceBEq,Int.reduceAdd,Int.reduceSub,Int.reduceLT,Int.reduceLE,Int.reduceEq,Int.reduceNeg,↓reduceIte,reduceCtorEq,scL,scD,expand,List.replicate])|apply gC_drawW|((first|apply gI_dec|apply gG_dec|apply gPG_dec|apply gI_var|apply gG_var|apply gPG_var)<;>intro _))
   refine callV_flat (hi _) ?_
   repeat' (first|(simp (disch:=first|omega|assumption|exact bd (by with_unfolding_all rfl)|exact Or.inl rfl|exact Or.inl trivial|exact okL_map _ (fun _=>rfl) _|(simp only[VVlen]<;>omega)|fail) only[VV0,VV1,VV2,VV3,VV4,VV5,VV6,VV7,VV8,VV9,mkFnV,vargs,slotsL,opdsA,Nat.reduceEqDiff,Nat.reduceLT,Nat.reduceAdd,Nat.reduceBEq,Int.reduceAdd,Int.reduceSub,Int.reduceLT,Int.reduceLE,Int.reduceEq,Int.reduceNeg,↓reduceIte,reduceCtorEq,scL,scD,expand,List.replicate])|apply gC_drawW|((first|apply gI_dec|apply gG_dec|apply gPG_dec|apply gI_var|apply gG_var|apply gPG_var)<;>intro _))
   exact ⟨_,_,_,by omega,.refl _ _,k+1,rfl,hlt,by rw[e1,e2];rfl,rfl⟩
  ·repeat' (first|(simp (disch:=first|omega|assumption|exact bd (by with_unfolding_all rfl)|exact Or.inl rfl|exact Or.inl trivial|exact okL_map _ (fun _=>rfl) _|(simp only[VVlen]<;>omega)|fail) only[VV0,VV1,VV2,VV3,VV4,VV5,VV6,VV7,VV8,VV9,mkFnV,vargs,slotsL,opdsA,Nat.reduceEqDiff,Nat.reduceLT,Nat.reduceAdd,Nat.reduceBEq,Int.reduceAdd,Int.reduceSub,Int.reduceLT,Int.reduceLE,Int.reduceEq,Int.reduceNeg,↓reduceIte,reduceCtorEq,scL,scD,expand,List.replicate,c47l0,sD_dv,hX])|apply gC_drawW|((first|apply gI_dec|apply gG_dec|apply gPG_dec|apply gI_var|apply gG_var|apply gPG_var)<;>intro _))
   refine callV_flat (hw _) ?_
   repeat' (first|(simp (disch:=first|omega|assumption|exact bd (by with_unfolding_all rfl)|exact Or.inl rfl|exact Or.inl trivial|exact okL_map _ (fun _=>rfl) _|(simp only[VVlen]<;>omega)|fail) only[VV0,VV1,VV2,VV3,VV4,VV5,VV6,VV7,VV8,VV9,mkFnV,vargs,slotsL,opdsA,Nat.reduceEqDiff,Nat.reduceLT,Nat.reduceAdd,Nat.reduceBEq,Int.reduceAdd,Int.reduceSub,Int.reduceLT,Int.reduceLE,Int.reduceEq,Int.reduceNeg,↓reduceIte,reduceCtorEq,scL,scD,expand,List.replicate])|apply gC_drawW|((first|apply gI_dec|apply gG_dec|apply gPG_dec|apply gI_var|apply gG_var|apply gPG_var)<;>intro _))
   exact ⟨_,_,_,by omega,.refl _ _,k+1,rfl,hlt,by rw[e1,e2];rfl,rfl⟩
 ·have:k=l.length:=by omega
  subst this
  repeat' (first|(simp (disch:=first|omega|assumption|exact bd (by with_unfolding_all rfl)|exact Or.inl rfl|exact Or.inl trivial|exact okL_map _ (fun _=>rfl) _|(simp only[VVlen]<;>omega)|fail) only[VV0,VV1,VV2,VV3,VV4,VV5,VV6,VV7,VV8,VV9,mkFnV,vargs,slotsL,opdsA,Nat.reduceEqDiff,Nat.reduceLT,Nat.reduceAdd,Nat.reduceBEq,Int.reduceAdd,Int.reduceSub,Int.reduceLT,Int.reduceLE,Int.reduceEq,Int.reduceNeg,↓reduceIte,reduceCtorEq,scL,scD,expand,List.replicate,c47l0])|apply gC_drawW|((first|apply gI_dec|apply gG_dec|apply gPG_dec|apply gI_var|apply gG_var|apply gPG_var)<;>intro _))
  exact weak_flat rfl h0 rfl
theorem rwords_p (s:Nat) (l:List (List UInt8)) (hl:l.length≤100000000) (hs:∀ j,j<l.length→l[j]!.length≤100000000):VSpec (EN w (n+2)) 42 [strs s l] (.sc (.bool (wordsS l))) ⟨[],0,0⟩:=by
 refine vspec_flat rfl rfl (fun _ _=>rfl) (Nat.le_of_ble_eq_true rfl) (oldVals w) rfl fun C hC h0=>?_
 repeat' (first|(simp (disch:=first|omega|assumption|exact bd (by with_unfolding_all rfl)|exact Or.inl rfl|exact Or.inl trivial|exact okL_map _ (fun _=>rfl) _|(simp only[VVlen]<;>omega)|fail) only[VV0,VV1,VV2,VV3,VV4,VV5,VV6,VV7,VV8,VV9,mkFnV,vargs,slotsL,opdsA,Nat.reduceEqDiff,Nat.reduceLT,Nat.reduceAdd,Nat.reduceBEq,Int.reduceAdd,Int.reduceSub,Int.reduceLT,Int.reduceLE,Int.reduceEq,Int.reduceNeg,↓reduceIte,reduceCtorEq,scL,scD,expand,List.replicate,c42])|apply gC_drawW|((first|apply gI_dec|apply gG_dec|apply gPG_dec|apply gI_var|apply gG_var|apply gPG_var)<;>intro _))
 refine g_while (fun m fr st=>∃ k:Nat,m=l.length - k∧k≤l.length∧fr= [(0,strs s l),(3,.sc (.int .i64 k))]∧st=⟨[],0,0⟩∧∀ j,j<k→wordS l[j]! =true) l.length ?_ ⟨_,_,.refl _ _,0,by omega,Nat.zero_le _,rfl,rfl,by omega⟩ ?_
 ·rw[hC,callP_rounds];unfold many;omega
 rintro m fr st ⟨k,rfl,hk,rfl,rfl,hj⟩
 by_cases hlt:k<l.length
 ·have hw:=fun st=>(rword_p w n l[k]! (hs k hlt)).of hC rfl st rfl
  cases hb:wordS l[k]! with
  |true=>
   have hj2:=lt_succ_cases hj hb
   rw[hb] at hw
   generalize hX:l[k]! =X at*
   repeat' (first|(simp (disch:=first|omega|assumption|exact bd (by with_unfolding_all rfl)|exact Or.inl rfl|exact Or.inl trivial|exact okL_map _ (fun _=>rfl) _|(simp only[VVlen]<;>omega)|fail) only[VV0,VV1,VV2,VV3,VV4,VV5,VV6,VV7,VV8,VV9,mkFnV,vargs,slotsL,opdsA,Nat.reduceEqDiff,Nat.reduceLT,Nat.reduceAdd,Nat.reduceBEq,Int.reduceAdd,Int.reduceSub,Int.reduceLT,Int.reduceLE,Int.reduceEq,Int.reduceNeg,↓reduceIte,reduceCtorEq,scL,scD,expand,List.replicate,c42l0,sD_dv,hX])|apply gC_drawW|((first|apply gI_dec|apply gG_dec|apply gPG_dec|apply gI_var|apply gG_var|apply gPG_var)<;>intro _))
   refine callV_flat (hw _) ?_
   repeat' (first|(simp (disch:=first|omega|assumption|exact bd (by with_unfolding_all rfl)|exact Or.inl rfl|exact Or.inl trivial|exact okL_map _ (fun _=>rfl) _|(simp only[VVlen]<;>omega)|fail) only[VV0,VV1,VV2,VV3,VV4,VV5,VV6,VV7,VV8,VV9,mkFnV,vargs,slotsL,opdsA,Nat.reduceEqDiff,Nat.reduceLT,Nat.reduceAdd,Nat.reduceBEq,Int.reduceAdd,Int.reduceSub,Int.reduceLT,Int.reduceLE,Int.reduceEq,Int.reduceNeg,↓reduceIte,reduceCtorEq,scL,scD,expand,List.replicate])|apply gC_drawW|((first|apply gI_dec|apply gG_dec|apply gPG_dec|apply gI_var|apply gG_var|apply gPG_var)<;>intro _))
   exact ⟨_,_,_,by omega,.refl _ _,k+1,rfl,hlt,rfl,rfl,hj2⟩
  |false=>
   have e:wordsS l=false:=Bool.eq_false_iff.2 fun h=>by
    have:=((wF_iff l l.length).1 h).2 k hlt
    rw[hb] at this;cases this
   rw[e]
   rw[hb] at hw
   generalize hX:l[k]! =X at*
   repeat' (first|(simp (disch:=first|omega|assumption|exact bd (by with_unfolding_all rfl)|exact Or.inl rfl|exact Or.inl trivial|exact okL_map _ (fun _=>rfl) _|(simp only[VVlen]<;>omega)|fail) only[VV0,VV1,VV2,VV3,VV4,VV5,VV6,VV7,VV8,VV9,mkFnV,vargs,slotsL,opdsA,Nat.reduceEqDiff,Nat.reduceLT,Nat.reduceAdd,Nat.reduceBEq,Int.reduceAdd,Int.reduceSub,Int.reduceLT,Int.reduceLE,Int.reduceEq,Int.reduceNeg,↓reduceIte,reduceCtorEq,scL,scD,expand,List.replicate,c42l0,sD_dv,hX])|apply gC_drawW|((first|apply gI_dec|apply gG_dec|apply gPG_dec|apply gI_var|apply gG_var|apply gPG_var)<;>intro _))
   refine callV_flat (hw _) ?_
   repeat' (first|(simp (disch:=first|omega|assumption|exact bd (by with_unfolding_all rfl)|exact Or.inl rfl|exact Or.inl trivial|exact okL_map _ (fun _=>rfl) _|(simp only[VVlen]<;>omega)|fail) only[VV0,VV1,VV2,VV3,VV4,VV5,VV6,VV7,VV8,VV9,mkFnV,vargs,slotsL,opdsA,Nat.reduceEqDiff,Nat.reduceLT,Nat.reduceAdd,Nat.reduceBEq,Int.reduceAdd,Int.reduceSub,Int.reduceLT,Int.reduceLE,Int.reduceEq,Int.reduceNeg,↓reduceIte,reduceCtorEq,scL,scD,expand,List.replicate])|apply gC_drawW|((first|apply gI_dec|apply gG_dec|apply gPG_dec|apply gI_var|apply gG_var|apply gPG_var)<;>intro _))
   exact weak_flat rfl h0 rfl
 ·have:k=l.length:=by omega
  subst this
  have e:wordsS l=decide ((0:Int)<l.length):=by
   rw[Bool.eq_iff_iff,decide_eq_true_eq]
   exact (wF_iff l l.length).trans ⟨fun h=>by have:=h.1;omega,fun h=>⟨by omega,hj⟩⟩
  rw[e]
  repeat' (first|(simp (disch:=first|omega|assumption|exact bd (by with_unfolding_all rfl)|exact Or.inl rfl|exact Or.inl trivial|exact okL_map _ (fun _=>rfl) _|(simp only[VVlen]<;>omega)|fail) only[VV0,VV1,VV2,VV3,VV4,VV5,VV6,VV7,VV8,VV9,mkFnV,vargs,slotsL,opdsA,Nat.reduceEqDiff,Nat.reduceLT,Nat.reduceAdd,Nat.reduceBEq,Int.reduceAdd,Int.reduceSub,Int.reduceLT,Int.reduceLE,Int.reduceEq,Int.reduceNeg,↓reduceIte,reduceCtorEq,scL,scD,expand,List.replicate,c42l0])|apply gC_drawW|((first|apply gI_dec|apply gG_dec|apply gPG_dec|apply gI_var|apply gG_var|apply gPG_var)<;>intro _))
  exact weak_flat rfl h0 rfl
theorem twice_p (s:Nat) (l:List (List UInt8)) (hl:l.length≤100000000):VSpec (EN w (n+2)) 44 [strs s l] (.sc (.bool (twiceS l))) ⟨[],0,0⟩:=by
 refine vspec_flat rfl rfl (fun _ _=>rfl) (Nat.le_of_ble_eq_true rfl) (oldVals w) rfl fun C hC h0=>?_
 repeat' (first|(simp (disch:=first|omega|assumption|exact bd (by with_unfolding_all rfl)|exact Or.inl rfl|exact Or.inl trivial|exact okL_map _ (fun _=>rfl) _|(simp only[VVlen]<;>omega)|fail) only[VV0,VV1,VV2,VV3,VV4,VV5,VV6,VV7,VV8,VV9,mkFnV,vargs,slotsL,opdsA,Nat.reduceEqDiff,Nat.reduceLT,Nat.reduceAdd,Nat.reduceBEq,Int.reduceAdd,Int.reduceSub,Int.reduceLT,Int.reduceLE,Int.reduceEq,Int.reduceNeg,↓reduceIte,reduceCtorEq,scL,scD,expand,List.replicate,c44])|apply gC_drawW|((first|apply gI_dec|apply gG_dec|apply gPG_dec|apply gI_var|apply gG_var|apply gPG_var)<;>intro _))
 refine g_while (fun m fr st=>∃ k:Nat,m=l.length - k∧k≤l.length∧fr= [(0,strs s l),(3,.sc (.int .i64 k))]∧st=⟨[],0,0⟩∧∀ j,j<k→¬ placeG l l[j]! l.length<j) l.length ?_ ⟨_,_,.refl _ _,0,by omega,Nat.zero_le _,rfl,rfl,by omega⟩ ?_
 ·rw[hC,callP_rounds];unfold many;omega
 rintro m fr st ⟨k,rfl,hk,rfl,rfl,hj⟩
 by_cases hlt:k<l.length
 ·have hi:=fun st=>(rindex_p w n s l l[k]! hl).of hC rfl st rfl
  by_cases hp:placeG l l[k]! l.length<k
  ·have e:twiceS l=true:=(tF_iff l l.length).2 ⟨k,hlt,hp⟩
   rw[e]
   generalize hX:l[k]! =X at*
   generalize placeG l X l.length=p at*
   repeat' (first|(simp (disch:=first|omega|assumption|exact bd (by with_unfolding_all rfl)|exact Or.inl rfl|exact Or.inl trivial|exact okL_map _ (fun _=>rfl) _|(simp only[VVlen]<;>omega)|fail) only[VV0,VV1,VV2,VV3,VV4,VV5,VV6,VV7,VV8,VV9,mkFnV,vargs,slotsL,opdsA,Nat.reduceEqDiff,Nat.reduceLT,Nat.reduceAdd,Nat.reduceBEq,Int.reduceAdd,Int.reduceSub,Int.reduceLT,Int.reduceLE,Int.reduceEq,Int.reduceNeg,↓reduceIte,reduceCtorEq,scL,scD,expand,List.replicate,c44l0,sD_dv,hX])|apply gC_drawW|((first|apply gI_dec|apply gG_dec|apply gPG_dec|apply gI_var|apply gG_var|apply gPG_var)<;>intro _))
   refine callV_flat (hi _) ?_
   repeat' (first|(simp (disch:=first|omega|assumption|exact bd (by with_unfolding_all rfl)|exact Or.inl rfl|exact Or.inl trivial|exact okL_map _ (fun _=>rfl) _|(simp only[VVlen]<;>omega)|fail) only[VV0,VV1,VV2,VV3,VV4,VV5,VV6,VV7,VV8,VV9,mkFnV,vargs,slotsL,opdsA,Nat.reduceEqDiff,Nat.reduceLT,Nat.reduceAdd,Nat.reduceBEq,Int.reduceAdd,Int.reduceSub,Int.reduceLT,Int.reduceLE,Int.reduceEq,Int.reduceNeg,↓reduceIte,reduceCtorEq,scL,scD,expand,List.replicate])|apply gC_drawW|((first|apply gI_dec|apply gG_dec|apply gPG_dec|apply gI_var|apply gG_var|apply gPG_var)<;>intro _))
   all_goals try (exfalso;omega)
   exact weak_flat rfl h0 rfl
  ·have hj2:=lt_succ_cases hj hp
   generalize hX:l[k]! =X at*
   generalize placeG l X l.length=p at*
   repeat' (first|(simp (disch:=first|omega|assumption|exact bd (by with_unfolding_all rfl)|exact Or.inl rfl|exact Or.inl trivial|exact okL_map _ (fun _=>rfl) _|(simp only[VVlen]<;>omega)|fail) only[VV0,VV1,VV2,VV3,VV4,VV5,VV6,VV7,VV8,VV9,mkFnV,vargs,slotsL,opdsA,Nat.reduceEqDiff,Nat.reduceLT,Nat.reduceAdd,Nat.reduceBEq,Int.reduceAdd,Int.reduceSub,Int.reduceLT,Int.reduceLE,Int.reduceEq,Int.reduceNeg,↓reduceIte,reduceCtorEq,scL,scD,expand,List.replicate,c44l0,sD_dv,hX])|apply gC_drawW|((first|apply gI_dec|apply gG_dec|apply gPG_dec|apply gI_var|apply gG_var|apply gPG_var)<;>intro _))
   refine callV_flat (hi _) ?_
   repeat' (first|(simp (disch:=first|omega|assumption|exact bd (by with_unfolding_all rfl)|exact Or.inl rfl|exact Or.inl trivial|exact okL_map _ (fun _=>rfl) _|(simp only[VVlen]<;>omega)|fail) only[VV0,VV1,VV2,VV3,VV4,VV5,VV6,VV7,VV8,VV9,mkFnV,vargs,slotsL,opdsA,Nat.reduceEqDiff,Nat.reduceLT,Nat.reduceAdd,Nat.reduceBEq,Int.reduceAdd,Int.reduceSub,Int.reduceLT,Int.reduceLE,Int.reduceEq,Int.reduceNeg,↓reduceIte,reduceCtorEq,scL,scD,expand,List.replicate])|apply gC_drawW|((first|apply gI_dec|apply gG_dec|apply gPG_dec|apply gI_var|apply gG_var|apply gPG_var)<;>intro _))
   all_goals try (exfalso;omega)
   exact ⟨_,_,_,by omega,.refl _ _,k+1,rfl,hlt,rfl,rfl,hj2⟩
 ·have:k=l.length:=by omega
  subst this
  have e:twiceS l=false:=Bool.eq_false_iff.2 fun h=>by
   obtain ⟨j,h1,h2⟩:=(tF_iff l l.length).1 h
   exact hj j h1 h2
  rw[e]
  repeat' (first|(simp (disch:=first|omega|assumption|exact bd (by with_unfolding_all rfl)|exact Or.inl rfl|exact Or.inl trivial|exact okL_map _ (fun _=>rfl) _|(simp only[VVlen]<;>omega)|fail) only[VV0,VV1,VV2,VV3,VV4,VV5,VV6,VV7,VV8,VV9,mkFnV,vargs,slotsL,opdsA,Nat.reduceEqDiff,Nat.reduceLT,Nat.reduceAdd,Nat.reduceBEq,Int.reduceAdd,Int.reduceSub,Int.reduceLT,Int.reduceLE,Int.reduceEq,Int.reduceNeg,↓reduceIte,reduceCtorEq,scL,scD,expand,List.replicate,c44l0])|apply gC_drawW|((first|apply gI_dec|apply gG_dec|apply gPG_dec|apply gI_var|apply gG_var|apply gPG_var)<;>intro _))
  exact weak_flat rfl h0 rfl
theorem row_p (s:Nat) (l:List Int) (hl:l.length≤100000000) (q:Nat) (hq:q≤100000000):VSpec (EN w (n+1)) 43 [intsV s l,.sc (.int .i64 q)] (.sc (.bool (rowS l q))) ⟨[],0,0⟩:=by
 refine vspec_flat rfl rfl (fun _ _=>rfl) (Nat.le_of_ble_eq_true rfl) (oldVals w) rfl fun C hC h0=>?_
 repeat' (first|(simp (disch:=first|omega|assumption|exact bd (by with_unfolding_all rfl)|exact Or.inl rfl|exact Or.inl trivial|exact okL_map _ (fun _=>rfl) _|(simp only[VVlen]<;>omega)|fail) only[VV0,VV1,VV2,VV3,VV4,VV5,VV6,VV7,VV8,VV9,mkFnV,vargs,slotsL,opdsA,Nat.reduceEqDiff,Nat.reduceLT,Nat.reduceAdd,Nat.reduceBEq,Int.reduceAdd,Int.reduceSub,Int.reduceLT,Int.reduceLE,Int.reduceEq,Int.reduceNeg,↓reduceIte,reduceCtorEq,scL,scD,expand,List.replicate,c43])|apply gC_drawW|((first|apply gI_dec|apply gG_dec|apply gPG_dec|apply gI_var|apply gG_var|apply gPG_var)<;>intro _))
 refine g_while (fun m fr st=>∃ k:Nat,m=l.length - k∧k≤l.length∧fr= [(0,intsV s l),(1,.sc (.int .i64 q)),(5,.sc (.int .i64 k))]∧st=⟨[],0,0⟩∧rowTo l k) l.length ?_ ⟨_,_,.refl _ _,0,by omega,Nat.zero_le _,rfl,rfl,fun j hj=>by omega⟩ ?_
 ·rw[hC,callP_rounds];unfold many;omega
 rintro m fr st ⟨k,rfl,hk,rfl,rfl,hj⟩
 by_cases hlt:k<l.length
 ·have hk1:((k:Int) - 1).toNat=k - 1:=by omega
  have e0:rowS l q=true→0≤l[k]! ∧l[k]! ≤1000000∧(0<k→l[k - 1]! ≤l[k]!):=fun hh=>(of_decide_eq_true hh).2 k hlt
  by_cases hok:0≤l[k]! ∧l[k]! ≤1000000∧(0<k→l[k - 1]! ≤l[k]!)
  ·have hj2:rowTo l (k+1):=lt_succ_cases hj hok
   obtain ⟨a1,a2,a3⟩:=hok
   generalize hY:l[k - 1]! =Y at*
   generalize hX:l[k]! =X at*
   repeat' (first|(simp (disch:=first|omega|assumption|exact bd (by with_unfolding_all rfl)|exact Or.inl rfl|exact Or.inl trivial|exact okL_map _ (fun _=>rfl) _|(simp only[VVlen]<;>omega)|fail) only[VV0,VV1,VV2,VV3,VV4,VV5,VV6,VV7,VV8,VV9,mkFnV,vargs,slotsL,opdsA,Nat.reduceEqDiff,Nat.reduceLT,Nat.reduceAdd,Nat.reduceBEq,Int.reduceAdd,Int.reduceSub,Int.reduceLT,Int.reduceLE,Int.reduceEq,Int.reduceNeg,↓reduceIte,reduceCtorEq,scL,scD,expand,List.replicate,c43l0,iD_dv,hX,hY,hk1])|apply gC_drawW|((first|apply gI_dec|apply gG_dec|apply gPG_dec|apply gI_var|apply gG_var|apply gPG_var)<;>intro _))
   all_goals try (exfalso;omega)
   all_goals exact ⟨_,_,_,by omega,.refl _ _,k+1,rfl,hlt,rfl,rfl,hj2⟩
  ·have e:rowS l q=false:=Bool.eq_false_iff.2 fun h=>hok (e0 h)
   rw[e]
   generalize hY:l[k - 1]! =Y at*
   generalize hX:l[k]! =X at*
   have hok2:X<0∨1000000<X∨(0<k∧X<Y):=by
    by_cases a1:X<0
    ·exact .inl a1
    by_cases a2:1000000<X
    ·exact .inr (.inl a2)
    ·refine .inr (.inr ?_)
     by_cases a3:0<k
     ·exact ⟨a3,by by_cases a4:X<Y;exact a4;exact absurd ⟨by omega,by omega,fun _=>by omega⟩ hok⟩
     ·exact absurd ⟨by omega,by omega,fun h=>absurd h a3⟩ hok
   by_cases a1:X<0
   ·repeat' (first|(simp (disch:=first|omega|assumption|exact bd (by with_unfolding_all rfl)|exact Or.inl rfl|exact Or.inl trivial|exact okL_map _ (fun _=>rfl) _|(simp only[VVlen]<;>omega)|fail) only[VV0,VV1,VV2,VV3,VV4,VV5,VV6,VV7,VV8,VV9,mkFnV,vargs,slotsL,opdsA,Nat.reduceEqDiff,Nat.reduceLT,Nat.reduceAdd,Nat.reduceBEq,Int.reduceAdd,Int.reduceSub,Int.reduceLT,Int.reduceLE,Int.reduceEq,Int.reduceNeg,↓reduceIte,reduceCtorEq,scL,scD,expand,List.replicate,c43l0,iD_dv,hX,hY,hk1])|apply gC_drawW|((first|apply gI_dec|apply gG_dec|apply gPG_dec|apply gI_var|apply gG_var|apply gPG_var)<;>intro _))
    all_goals try (exfalso;omega)
    all_goals exact weak_flat rfl h0 rfl
   by_cases a2:1000000<X
   ·repeat' (first|(simp (disch:=first|omega|assumption|exact bd (by with_unfolding_all rfl)|exact Or.inl rfl|exact Or.inl trivial|exact okL_map _ (fun _=>rfl) _|(simp only[VVlen]<;>omega)|fail) only[VV0,VV1,VV2,VV3,VV4,VV5,VV6,VV7,VV8,VV9,mkFnV,vargs,slotsL,opdsA,Nat.reduceEqDiff,Nat.reduceLT,Nat.reduceAdd,Nat.reduceBEq,Int.reduceAdd,Int.reduceSub,Int.reduceLT,Int.reduceLE,Int.reduceEq,Int.reduceNeg,↓reduceIte,reduceCtorEq,scL,scD,expand,List.replicate,c43l0,iD_dv,hX,hY,hk1])|apply gC_drawW|((first|apply gI_dec|apply gG_dec|apply gPG_dec|apply gI_var|apply gG_var|apply gPG_var)<;>intro _))
    all_goals try (exfalso;omega)
    all_goals exact weak_flat rfl h0 rfl
   ·have a3:0<k∧X<Y:=by omega
    obtain ⟨a3,a4⟩:=a3
    repeat' (first|(simp (disch:=first|omega|assumption|exact bd (by with_unfolding_all rfl)|exact Or.inl rfl|exact Or.inl trivial|exact okL_map _ (fun _=>rfl) _|(simp only[VVlen]<;>omega)|fail) only[VV0,VV1,VV2,VV3,VV4,VV5,VV6,VV7,VV8,VV9,mkFnV,vargs,slotsL,opdsA,Nat.reduceEqDiff,Nat.reduceLT,Nat.reduceAdd,Nat.reduceBEq,Int.reduceAdd,Int.reduceSub,Int.reduceLT,Int.reduceLE,Int.reduceEq,Int.reduceNeg,↓reduceIte,reduceCtorEq,scL,scD,expand,List.replicate,c43l0,iD_dv,hX,hY,hk1])|apply gC_drawW|((first|apply gI_dec|apply gG_dec|apply gPG_dec|apply gI_var|apply gG_var|apply gPG_var)<;>intro _))
    all_goals try (exfalso;omega)
    all_goals exact weak_flat rfl h0 rfl
 ·have:k=l.length:=by omega
  subst this
  by_cases hq':(l.length:Int)=q
  ·have e:rowS l q=true:=decide_eq_true ⟨by omega,hj⟩
   rw[e]
   repeat' (first|(simp (disch:=first|omega|assumption|exact bd (by with_unfolding_all rfl)|exact Or.inl rfl|exact Or.inl trivial|exact okL_map _ (fun _=>rfl) _|(simp only[VVlen]<;>omega)|fail) only[VV0,VV1,VV2,VV3,VV4,VV5,VV6,VV7,VV8,VV9,mkFnV,vargs,slotsL,opdsA,Nat.reduceEqDiff,Nat.reduceLT,Nat.reduceAdd,Nat.reduceBEq,Int.reduceAdd,Int.reduceSub,Int.reduceLT,Int.reduceLE,Int.reduceEq,Int.reduceNeg,↓reduceIte,reduceCtorEq,scL,scD,expand,List.replicate,c43l0])|apply gC_drawW|((first|apply gI_dec|apply gG_dec|apply gPG_dec|apply gI_var|apply gG_var|apply gPG_var)<;>intro _))
   all_goals try (exfalso;omega)
   all_goals exact weak_flat rfl h0 rfl
  ·have e:rowS l q=false:=decide_eq_false fun h=>by have:=h.1;omega
   rw[e]
   repeat' (first|(simp (disch:=first|omega|assumption|exact bd (by with_unfolding_all rfl)|exact Or.inl rfl|exact Or.inl trivial|exact okL_map _ (fun _=>rfl) _|(simp only[VVlen]<;>omega)|fail) only[VV0,VV1,VV2,VV3,VV4,VV5,VV6,VV7,VV8,VV9,mkFnV,vargs,slotsL,opdsA,Nat.reduceEqDiff,Nat.reduceLT,Nat.reduceAdd,Nat.reduceBEq,Int.reduceAdd,Int.reduceSub,Int.reduceLT,Int.reduceLE,Int.reduceEq,Int.reduceNeg,↓reduceIte,reduceCtorEq,scL,scD,expand,List.replicate,c43l0])|apply gC_drawW|((first|apply gI_dec|apply gG_dec|apply gPG_dec|apply gI_var|apply gG_var|apply gPG_var)<;>intro _))
   all_goals try (exfalso;omega)
   all_goals exact weak_flat rfl h0 rfl
end
set_option maxHeartbeats 2000000
abbrev rowsV (u r:Nat) (M:List (List Int)):V:= .sl u M.length (M.map (rowI r))
abbrev tableV (s t u r:Nat) (S N:List (List UInt8)) (M:List (List Int)):V:= .agg [strs s S,strs t N,rowsV u r M]
abbrev tabO (s t u r:Nat) (S N:List (List UInt8)) (M:List (List Int)):Itp.Obj:= .box 25 1 [strs s S,strs t N,rowsV u r M]
def sizeL:List UInt8:= [115,105,122,101]
def checkS (S N:List (List UInt8)) (M:List (List Int)):Int:=
 if 20<S.length∨30<N.length then 4
 else if ¬ wordsS S=true∨¬ wordsS N=true∨0≤placeG N sizeL N.length∨¬ M.length=N.length then 8
 else if ∀ k,k<M.length→rowS M[k]! S.length=true then (if twiceS S=true∨twiceS N=true then 14 else 0)
 else 8
structure Mod (S N:List (List UInt8)) (M:List (List Int)):Prop where
 s:S.length≤100000000
 n:N.length≤100000000
 m:M.length≤100000000
 zs:∀ j,j<S.length→S[j]!.length≤100000000
 zn:∀ j,j<N.length→N[j]!.length≤100000000
 zm:∀ j,j<M.length→M[j]!.length≤100000000
section
variable (w:World) (n:Nat)
theorem check_p (s t u r:Nat) (S N:List (List UInt8)) (M:List (List Int)) (hm:Mod S N M):VSpec (EN w (n+3)) 19 [tableV s t u r S N M] (.sc (.int .i64 (checkS S N M))) ⟨[],0,0⟩:=by
 refine vspec_flat rfl rfl (fun _ _=>rfl) (Nat.le_of_ble_eq_true rfl) (oldVals w) rfl fun C hC h0=>?_
 obtain ⟨m1,m2,m3,m4,m5,m6⟩:=hm
 by_cases h1:20<S.length∨30<N.length
 ·have e:checkS S N M=4:=if_pos h1
  rw[e]
  repeat' (first|(simp (disch:=first|omega|assumption|exact bd (by with_unfolding_all rfl)|exact Or.inl rfl|exact Or.inl trivial|exact okL_map _ (fun _=>rfl) _|(simp only[VVlen]<;>omega)|fail) only[VV0,VV1,VV2,VV3,VV4,VV5,VV6,VV7,VV8,VV9,mkFnV,vargs,slotsL,opdsA,Nat.reduceEqDiff,Nat.reduceLT,Nat.reduceAdd,Nat.reduceBEq,Int.reduceAdd,Int.reduceSub,Int.reduceLT,Int.reduceLE,Int.reduceEq,Int.reduceNeg,↓reduceIte,reduceCtorEq,scL,scD,expand,List.replicate,c19])|apply gC_drawW|((first|apply gI_dec|apply gG_dec|apply gPG_dec|apply gI_var|apply gG_var|apply gPG_var)<;>intro _))
  all_goals try (exfalso;omega)
  all_goals exact weak_flat rfl h0 rfl
 have w1:=words_p w n s S m1 m4
 have w2:=words_p w n t N m2 m5
 have ix:=gix_p w (n+1) t N sizeL m2
 by_cases hbad:(¬ wordsS S=true∨¬ wordsS N=true∨0≤placeG N sizeL N.length∨¬ M.length=N.length)
 ·have e:checkS S N M=8:=by unfold checkS;rw[if_neg h1,if_pos hbad]
  rw[e]
  generalize wordsS S=a at*
  generalize wordsS N=b at*
  generalize placeG N sizeL N.length=p at*
  generalize twiceS S=c at*
  generalize twiceS N=d at*
  cases a
  ·repeat' (first|(simp (disch:=first|omega|assumption|exact bd (by with_unfolding_all rfl)|exact Or.inl rfl|exact Or.inl trivial|exact okL_map _ (fun _=>rfl) _|(simp only[VVlen]<;>omega)|fail) only[VV0,VV1,VV2,VV3,VV4,VV5,VV6,VV7,VV8,VV9,mkFnV,vargs,slotsL,opdsA,Nat.reduceEqDiff,Nat.reduceLT,Nat.reduceAdd,Nat.reduceBEq,Int.reduceAdd,Int.reduceSub,Int.reduceLT,Int.reduceLE,Int.reduceEq,Int.reduceNeg,↓reduceIte,reduceCtorEq,scL,scD,expand,List.replicate,c19])|apply gC_drawW|((first|apply gI_dec|apply gG_dec|apply gPG_dec|apply gI_var|apply gG_var|apply gPG_var)<;>intro _))
   all_goals try (exfalso;omega)
   refine callV_flat (by rw[hC];exact w1.flat rfl rfl) ?_
   repeat' (first|(simp (disch:=first|omega|assumption|exact bd (by with_unfolding_all rfl)|exact Or.inl rfl|exact Or.inl trivial|exact okL_map _ (fun _=>rfl) _|(simp only[VVlen]<;>omega)|fail) only[VV0,VV1,VV2,VV3,VV4,VV5,VV6,VV7,VV8,VV9,mkFnV,vargs,slotsL,opdsA,Nat.reduceEqDiff,Nat.reduceLT,Nat.reduceAdd,Nat.reduceBEq,Int.reduceAdd,Int.reduceSub,Int.reduceLT,Int.reduceLE,Int.reduceEq,Int.reduceNeg,↓reduceIte,reduceCtorEq,scL,scD,expand,List.replicate])|apply gC_drawW|((first|apply gI_dec|apply gG_dec|apply gPG_dec|apply gI_var|apply gG_var|apply gPG_var)<;>intro _))
   refine callV_flat (by rw[hC];exact w2.flat rfl rfl) ?_
   repeat' (first|(simp (disch:=first|omega|assumption|exact bd (by with_unfolding_all rfl)|exact Or.inl rfl|exact Or.inl trivial|exact okL_map _ (fun _=>rfl) _|(simp only[VVlen]<;>omega)|fail) only[VV0,VV1,VV2,VV3,VV4,VV5,VV6,VV7,VV8,VV9,mkFnV,vargs,slotsL,opdsA,Nat.reduceEqDiff,Nat.reduceLT,Nat.reduceAdd,Nat.reduceBEq,Int.reduceAdd,Int.reduceSub,Int.reduceLT,Int.reduceLE,Int.reduceEq,Int.reduceNeg,↓reduceIte,reduceCtorEq,scL,scD,expand,List.replicate])|apply gC_drawW|((first|apply gI_dec|apply gG_dec|apply gPG_dec|apply gI_var|apply gG_var|apply gPG_var)<;>intro _))
   exact weak_flat rfl h0 rfl
  cases b
  ·repeat' (first|(simp (disch:=first|omega|assumption|exact bd (by with_unfolding_all rfl)|exact Or.inl rfl|exact Or.inl trivial|exact okL_map _ (fun _=>rfl) _|(simp only[VVlen]<;>omega)|fail) only[VV0,VV1,VV2,VV3,VV4,VV5,VV6,VV7,VV8,VV9,mkFnV,vargs,slotsL,opdsA,Nat.reduceEqDiff,Nat.reduceLT,Nat.reduceAdd,Nat.reduceBEq,Int.reduceAdd,Int.reduceSub,Int.reduceLT,Int.reduceLE,Int.reduceEq,Int.reduceNeg,↓reduceIte,reduceCtorEq,scL,scD,expand,List.replicate,c19])|apply gC_drawW|((first|apply gI_dec|apply gG_dec|apply gPG_dec|apply gI_var|apply gG_var|apply gPG_var)<;>intro _))
   all_goals try (exfalso;omega)
   refine callV_flat (by rw[hC];exact w1.flat rfl rfl) ?_
   repeat' (first|(simp (disch:=first|omega|assumption|exact bd (by with_unfolding_all rfl)|exact Or.inl rfl|exact Or.inl trivial|exact okL_map _ (fun _=>rfl) _|(simp only[VVlen]<;>omega)|fail) only[VV0,VV1,VV2,VV3,VV4,VV5,VV6,VV7,VV8,VV9,mkFnV,vargs,slotsL,opdsA,Nat.reduceEqDiff,Nat.reduceLT,Nat.reduceAdd,Nat.reduceBEq,Int.reduceAdd,Int.reduceSub,Int.reduceLT,Int.reduceLE,Int.reduceEq,Int.reduceNeg,↓reduceIte,reduceCtorEq,scL,scD,expand,List.replicate])|apply gC_drawW|((first|apply gI_dec|apply gG_dec|apply gPG_dec|apply gI_var|apply gG_var|apply gPG_var)<;>intro _))
   refine callV_flat (by rw[hC];exact w2.flat rfl rfl) ?_
   repeat' (first|(simp (disch:=first|omega|assumption|exact bd (by with_unfolding_all rfl)|exact Or.inl rfl|exact Or.inl trivial|exact okL_map _ (fun _=>rfl) _|(simp only[VVlen]<;>omega)|fail) only[VV0,VV1,VV2,VV3,VV4,VV5,VV6,VV7,VV8,VV9,mkFnV,vargs,slotsL,opdsA,Nat.reduceEqDiff,Nat.reduceLT,Nat.reduceAdd,Nat.reduceBEq,Int.reduceAdd,Int.reduceSub,Int.reduceLT,Int.reduceLE,Int.reduceEq,Int.reduceNeg,↓reduceIte,reduceCtorEq,scL,scD,expand,List.replicate])|apply gC_drawW|((first|apply gI_dec|apply gG_dec|apply gPG_dec|apply gI_var|apply gG_var|apply gPG_var)<;>intro _))
   exact weak_flat rfl h0 rfl
  have hb2:0≤p∨¬ M.length=N.length:=by simpa using hbad
  repeat' (first|(simp (disch:=first|omega|assumption|exact bd (by with_unfolding_all rfl)|exact Or.inl rfl|exact Or.inl trivial|exact okL_map _ (fun _=>rfl) _|(simp only[VVlen]<;>omega)|fail) only[VV0,VV1,VV2,VV3,VV4,VV5,VV6,VV7,VV8,VV9,mkFnV,vargs,slotsL,opdsA,Nat.reduceEqDiff,Nat.reduceLT,Nat.reduceAdd,Nat.reduceBEq,Int.reduceAdd,Int.reduceSub,Int.reduceLT,Int.reduceLE,Int.reduceEq,Int.reduceNeg,↓reduceIte,reduceCtorEq,scL,scD,expand,List.replicate,c19])|apply gC_drawW|((first|apply gI_dec|apply gG_dec|apply gPG_dec|apply gI_var|apply gG_var|apply gPG_var)<;>intro _))
  all_goals try (exfalso;omega)
  refine callV_flat (by rw[hC];exact w1.flat rfl rfl) ?_
  repeat' (first|(simp (disch:=first|omega|assumption|exact bd (by with_unfolding_all rfl)|exact Or.inl rfl|exact Or.inl trivial|exact okL_map _ (fun _=>rfl) _|(simp only[VVlen]<;>omega)|fail) only[VV0,VV1,VV2,VV3,VV4,VV5,VV6,VV7,VV8,VV9,mkFnV,vargs,slotsL,opdsA,Nat.reduceEqDiff,Nat.reduceLT,Nat.reduceAdd,Nat.reduceBEq,Int.reduceAdd,Int.reduceSub,Int.reduceLT,Int.reduceLE,Int.reduceEq,Int.reduceNeg,↓reduceIte,reduceCtorEq,scL,scD,expand,List.replicate])|apply gC_drawW|((first|apply gI_dec|apply gG_dec|apply gPG_dec|apply gI_var|apply gG_var|apply gPG_var)<;>intro _))
  refine callV_flat (by rw[hC];exact w2.flat rfl rfl) ?_
  repeat' (first|(simp (disch:=first|omega|assumption|exact bd (by with_unfolding_all rfl)|exact Or.inl rfl|exact Or.inl trivial|exact okL_map _ (fun _=>rfl) _|(simp only[VVlen]<;>omega)|fail) only[VV0,VV1,VV2,VV3,VV4,VV5,VV6,VV7,VV8,VV9,mkFnV,vargs,slotsL,opdsA,Nat.reduceEqDiff,Nat.reduceLT,Nat.reduceAdd,Nat.reduceBEq,Int.reduceAdd,Int.reduceSub,Int.reduceLT,Int.reduceLE,Int.reduceEq,Int.reduceNeg,↓reduceIte,reduceCtorEq,scL,scD,expand,List.replicate])|apply gC_drawW|((first|apply gI_dec|apply gG_dec|apply gPG_dec|apply gI_var|apply gG_var|apply gPG_var)<;>intro _))
  refine callV_flat (by rw[hC];exact ix.flat rfl rfl) ?_
  repeat' (first|(simp (disch:=first|omega|assumption|exact bd (by with_unfolding_all rfl)|exact Or.inl rfl|exact Or.inl trivial|exact okL_map _ (fun _=>rfl) _|(simp only[VVlen]<;>omega)|fail) only[VV0,VV1,VV2,VV3,VV4,VV5,VV6,VV7,VV8,VV9,mkFnV,vargs,slotsL,opdsA,Nat.reduceEqDiff,Nat.reduceLT,Nat.reduceAdd,Nat.reduceBEq,Int.reduceAdd,Int.reduceSub,Int.reduceLT,Int.reduceLE,Int.reduceEq,Int.reduceNeg,↓reduceIte,reduceCtorEq,scL,scD,expand,List.replicate])|apply gC_drawW|((first|apply gI_dec|apply gG_dec|apply gPG_dec|apply gI_var|apply gG_var|apply gPG_var)<;>intro _))
  all_goals try (exfalso;omega)
  all_goals exact weak_flat rfl h0 rfl
 have g3:wordsS S=true:=Decidable.byContradiction fun h=>hbad (.inl h)
 have g4:wordsS N=true:=Decidable.byContradiction fun h=>hbad (.inr (.inl h))
 have g5:¬ 0≤placeG N sizeL N.length:=fun h=>hbad (.inr (.inr (.inl h)))
 have g6:M.length=N.length:=Decidable.byContradiction fun h=>hbad (.inr (.inr (.inr h)))
 have echk:checkS S N M=if ∀ k,k<M.length→rowS M[k]! S.length=true then (if twiceS S=true∨twiceS N=true then 14 else 0) else 8:=by unfold checkS;rw[if_neg h1,if_neg hbad]
 rw[echk]
 rw[g3] at w1
 rw[g4] at w2
 clear hbad echk g3 g4
 generalize placeG N sizeL N.length=p at*
 generalize twiceS S=c at*
 generalize twiceS N=d at*
 repeat' (first|(simp (disch:=first|omega|assumption|exact bd (by with_unfolding_all rfl)|exact Or.inl rfl|exact Or.inl trivial|exact okL_map _ (fun _=>rfl) _|(simp only[VVlen]<;>omega)|fail) only[VV0,VV1,VV2,VV3,VV4,VV5,VV6,VV7,VV8,VV9,mkFnV,vargs,slotsL,opdsA,Nat.reduceEqDiff,Nat.reduceLT,Nat.reduceAdd,Nat.reduceBEq,Int.reduceAdd,Int.reduceSub,Int.reduceLT,Int.reduceLE,Int.reduceEq,Int.reduceNeg,↓reduceIte,reduceCtorEq,scL,scD,expand,List.replicate,c19])|apply gC_drawW|((first|apply gI_dec|apply gG_dec|apply gPG_dec|apply gI_var|apply gG_var|apply gPG_var)<;>intro _))
 all_goals try (exfalso;omega)
 refine callV_flat (by rw[hC];exact w1.flat rfl rfl) ?_
 repeat' (first|(simp (disch:=first|omega|assumption|exact bd (by with_unfolding_all rfl)|exact Or.inl rfl|exact Or.inl trivial|exact okL_map _ (fun _=>rfl) _|(simp only[VVlen]<;>omega)|fail) only[VV0,VV1,VV2,VV3,VV4,VV5,VV6,VV7,VV8,VV9,mkFnV,vargs,slotsL,opdsA,Nat.reduceEqDiff,Nat.reduceLT,Nat.reduceAdd,Nat.reduceBEq,Int.reduceAdd,Int.reduceSub,Int.reduceLT,Int.reduceLE,Int.reduceEq,Int.reduceNeg,↓reduceIte,reduceCtorEq,scL,scD,expand,List.replicate])|apply gC_drawW|((first|apply gI_dec|apply gG_dec|apply gPG_dec|apply gI_var|apply gG_var|apply gPG_var)<;>intro _))
 refine callV_flat (by rw[hC];exact w2.flat rfl rfl) ?_
 repeat' (first|(simp (disch:=first|omega|assumption|exact bd (by with_unfolding_all rfl)|exact Or.inl rfl|exact Or.inl trivial|exact okL_map _ (fun _=>rfl) _|(simp only[VVlen]<;>omega)|fail) only[VV0,VV1,VV2,VV3,VV4,VV5,VV6,VV7,VV8,VV9,mkFnV,vargs,slotsL,opdsA,Nat.reduceEqDiff,Nat.reduceLT,Nat.reduceAdd,Nat.reduceBEq,Int.reduceAdd,Int.reduceSub,Int.reduceLT,Int.reduceLE,Int.reduceEq,Int.reduceNeg,↓reduceIte,reduceCtorEq,scL,scD,expand,List.replicate])|apply gC_drawW|((first|apply gI_dec|apply gG_dec|apply gPG_dec|apply gI_var|apply gG_var|apply gPG_var)<;>intro _))
 refine callV_flat (by rw[hC];exact ix.flat rfl rfl) ?_
 repeat' (first|(simp (disch:=first|omega|assumption|exact bd (by with_unfolding_all rfl)|exact Or.inl rfl|exact Or.inl trivial|exact okL_map _ (fun _=>rfl) _|(simp only[VVlen]<;>omega)|fail) only[VV0,VV1,VV2,VV3,VV4,VV5,VV6,VV7,VV8,VV9,mkFnV,vargs,slotsL,opdsA,Nat.reduceEqDiff,Nat.reduceLT,Nat.reduceAdd,Nat.reduceBEq,Int.reduceAdd,Int.reduceSub,Int.reduceLT,Int.reduceLE,Int.reduceEq,Int.reduceNeg,↓reduceIte,reduceCtorEq,scL,scD,expand,List.replicate])|apply gC_drawW|((first|apply gI_dec|apply gG_dec|apply gPG_dec|apply gI_var|apply gG_var|apply gPG_var)<;>intro _))
 all_goals try (exfalso;omega)
 refine g_while (fun m fr st=>∃ k:Nat,m=M.length - k∧k≤M.length∧fr= [(1,.ptr 0 0),(4,.sc (.bool c)),(6,.sc (.bool d)),(56,rowsV u r M),(57,.sc (.int .i64 M.length)),(58,.sc (.int .i64 k))]∧st=⟨[(0,tabO s t u r S N M)],1,0⟩∧∀ j,j<k→rowS M[j]! S.length=true) M.length ?_ ⟨_,_,.refl _ _,0,by omega,Nat.zero_le _,rfl,rfl,by omega⟩ ?_
 ·rw[hC,callP_rounds];unfold many;omega
 rintro m fr st ⟨k,rfl,hk,rfl,rfl,hj⟩
 by_cases hlt:k<M.length
 case neg=>
  have:k=M.length:=by omega
  subst this
  rw[if_pos hj]
  cases c<;>cases d
  all_goals
   repeat' (first|(simp (disch:=first|omega|assumption|exact bd (by with_unfolding_all rfl)|exact Or.inl rfl|exact Or.inl trivial|exact okL_map _ (fun _=>rfl) _|(simp only[VVlen]<;>omega)|fail) only[VV0,VV1,VV2,VV3,VV4,VV5,VV6,VV7,VV8,VV9,mkFnV,vargs,slotsL,opdsA,Nat.reduceEqDiff,Nat.reduceLT,Nat.reduceAdd,Nat.reduceBEq,Int.reduceAdd,Int.reduceSub,Int.reduceLT,Int.reduceLE,Int.reduceEq,Int.reduceNeg,↓reduceIte,reduceCtorEq,scL,scD,expand,List.replicate,c19l1])|apply gC_drawW|((first|apply gI_dec|apply gG_dec|apply gPG_dec|apply gI_var|apply gG_var|apply gPG_var)<;>intro _))
   exact weak_flat rfl h0 rfl
 have hgo:=fun h=>lt_succ_cases hj (k:=k) h
 have hrow:rowS M[k]! S.length=true↔M[k]!.length=S.length∧rowTo M[k]! M[k]!.length:=by simp[rowS,rowTo]
 have fail:¬ rowS M[k]! S.length=true→(if ∀ k,k<M.length→rowS M[k]! S.length=true then (if c=true∨d=true then (14:Int) else 0) else 8)=8:=fun hw=>if_neg fun hh=>hw (hh k hlt)
 have hzl:=m6 k hlt
 by_cases hn:M[k]!.length=S.length
 case neg=>
  rw[fail (fun h=>hn (hrow.1 h).1)]
  generalize hX:M[k]! =X at*
  repeat' (first|(simp (disch:=first|omega|assumption|exact bd (by with_unfolding_all rfl)|exact Or.inl rfl|exact Or.inl trivial|exact okL_map _ (fun _=>rfl) _|(simp only[VVlen]<;>omega)|fail) only[VV0,VV1,VV2,VV3,VV4,VV5,VV6,VV7,VV8,VV9,mkFnV,vargs,slotsL,opdsA,Nat.reduceEqDiff,Nat.reduceLT,Nat.reduceAdd,Nat.reduceBEq,Int.reduceAdd,Int.reduceSub,Int.reduceLT,Int.reduceLE,Int.reduceEq,Int.reduceNeg,↓reduceIte,reduceCtorEq,scL,scD,expand,List.replicate,c19l1,rowI_dv,hX])|apply gC_drawW|((first|apply gI_dec|apply gG_dec|apply gPG_dec|apply gI_var|apply gG_var|apply gPG_var)<;>intro _))
  all_goals try (exfalso;omega)
  exact weak_flat rfl h0 rfl
 generalize hX:M[k]! =X at*
 repeat' (first|(simp (disch:=first|omega|assumption|exact bd (by with_unfolding_all rfl)|exact Or.inl rfl|exact Or.inl trivial|exact okL_map _ (fun _=>rfl) _|(simp only[VVlen]<;>omega)|fail) only[VV0,VV1,VV2,VV3,VV4,VV5,VV6,VV7,VV8,VV9,mkFnV,vargs,slotsL,opdsA,Nat.reduceEqDiff,Nat.reduceLT,Nat.reduceAdd,Nat.reduceBEq,Int.reduceAdd,Int.reduceSub,Int.reduceLT,Int.reduceLE,Int.reduceEq,Int.reduceNeg,↓reduceIte,reduceCtorEq,scL,scD,expand,List.replicate,c19l1,rowI_dv,hX])|apply gC_drawW|((first|apply gI_dec|apply gG_dec|apply gPG_dec|apply gI_var|apply gG_var|apply gPG_var)<;>intro _))
 all_goals try (exfalso;omega)
 refine g_while (fun m fr st=>∃ (i:Nat) (last:Int),m=X.length - i∧i≤X.length∧fr= [(1,.ptr 0 0),(4,.sc (.bool c)),(6,.sc (.bool d)),(9,.sc (.int .i64 last)),(56,rowsV u r M),(57,.sc (.int .i64 M.length)),(58,.sc (.int .i64 k)),(68,intsV r X),(69,.sc (.int .i64 X.length)),(70,.sc (.int .i64 i))]∧st=⟨[(0,tabO s t u r S N M)],1,0⟩∧rowTo X i∧last=if i=0 then 0 else X[i - 1]!) X.length ?_ ⟨_,_,.refl _ _,0,0,by omega,Nat.zero_le _,rfl,rfl,fun j hj=>absurd hj (Nat.not_lt_zero _),rfl⟩ ?_
 ·rw[hC,callP_rounds];unfold many;omega
 rintro m fr st ⟨i,last,rfl,hi,rfl,rfl,hrt,hla⟩
 by_cases hil:i<X.length
 ·have hlast:last=if i=0 then 0 else X[i - 1]! :=hla
  have hnx:X[i]! =if i+1=0 then 0 else X[i+1 - 1]! :=by rw[if_neg (by omega)];rfl
  by_cases hok:last≤X[i]! ∧X[i]! ≤1000000
  ·obtain ⟨ha,hb⟩:=hok
   have hrt2:rowTo X (i+1):=lt_succ_cases hrt ⟨by
    by_cases h0:i=0
    ·rw[if_pos h0] at hlast;omega
    ·rw[if_neg h0] at hlast
     have:=(hrt (i - 1) (by omega)).1
     omega,hb,fun h0=>by rw[if_neg (by omega)] at hlast;omega⟩
   clear hla
   generalize hY:X[i]! =Y at*
   repeat' (first|(simp (disch:=first|omega|assumption|exact bd (by with_unfolding_all rfl)|exact Or.inl rfl|exact Or.inl trivial|exact okL_map _ (fun _=>rfl) _|(simp only[VVlen]<;>omega)|fail) only[VV0,VV1,VV2,VV3,VV4,VV5,VV6,VV7,VV8,VV9,mkFnV,vargs,slotsL,opdsA,Nat.reduceEqDiff,Nat.reduceLT,Nat.reduceAdd,Nat.reduceBEq,Int.reduceAdd,Int.reduceSub,Int.reduceLT,Int.reduceLE,Int.reduceEq,Int.reduceNeg,↓reduceIte,reduceCtorEq,scL,scD,expand,List.replicate,c19l0,iD_dv,hY])|apply gC_drawW|((first|apply gI_dec|apply gG_dec|apply gPG_dec|apply gI_var|apply gG_var|apply gPG_var)<;>intro _))
   all_goals try (exfalso;omega)
   exact ⟨_,_,_,by omega,.refl _ _,i+1,Y,rfl,hil,rfl,rfl,hrt2,hnx⟩
  ·have hbad8:¬ rowS X S.length=true:=fun hh=>by
    have:=(hrow.1 hh).2 i hil
    apply hok
    by_cases h0:i=0
    ·rw[if_pos h0] at hlast;omega
    ·rw[if_neg h0] at hlast;have:=this.2.2 (by omega);omega
   rw[fail hbad8]
   generalize hY:X[i]! =Y at*
   by_cases ha:Y<last
   ·repeat' (first|(simp (disch:=first|omega|assumption|exact bd (by with_unfolding_all rfl)|exact Or.inl rfl|exact Or.inl trivial|exact okL_map _ (fun _=>rfl) _|(simp only[VVlen]<;>omega)|fail) only[VV0,VV1,VV2,VV3,VV4,VV5,VV6,VV7,VV8,VV9,mkFnV,vargs,slotsL,opdsA,Nat.reduceEqDiff,Nat.reduceLT,Nat.reduceAdd,Nat.reduceBEq,Int.reduceAdd,Int.reduceSub,Int.reduceLT,Int.reduceLE,Int.reduceEq,Int.reduceNeg,↓reduceIte,reduceCtorEq,scL,scD,expand,List.replicate,c19l0,iD_dv,hY])|apply gC_drawW|((first|apply gI_dec|apply gG_dec|apply gPG_dec|apply gI_var|apply gG_var|apply gPG_var)<;>intro _))
    all_goals try (exfalso;omega)
    all_goals exact weak_flat rfl h0 rfl
   ·have hb:1000000<Y:=by omega
    repeat' (first|(simp (disch:=first|omega|assumption|exact bd (by with_unfolding_all rfl)|exact Or.inl rfl|exact Or.inl trivial|exact okL_map _ (fun _=>rfl) _|(simp only[VVlen]<;>omega)|fail) only[VV0,VV1,VV2,VV3,VV4,VV5,VV6,VV7,VV8,VV9,mkFnV,vargs,slotsL,opdsA,Nat.reduceEqDiff,Nat.reduceLT,Nat.reduceAdd,Nat.reduceBEq,Int.reduceAdd,Int.reduceSub,Int.reduceLT,Int.reduceLE,Int.reduceEq,Int.reduceNeg,↓reduceIte,reduceCtorEq,scL,scD,expand,List.replicate,c19l0,iD_dv,hY])|apply gC_drawW|((first|apply gI_dec|apply gG_dec|apply gPG_dec|apply gI_var|apply gG_var|apply gPG_var)<;>intro _))
    all_goals try (exfalso;omega)
    all_goals exact weak_flat rfl h0 rfl
 ·have:i=X.length:=by omega
  subst this
  repeat' (first|(simp (disch:=first|omega|assumption|exact bd (by with_unfolding_all rfl)|exact Or.inl rfl|exact Or.inl trivial|exact okL_map _ (fun _=>rfl) _|(simp only[VVlen]<;>omega)|fail) only[VV0,VV1,VV2,VV3,VV4,VV5,VV6,VV7,VV8,VV9,mkFnV,vargs,slotsL,opdsA,Nat.reduceEqDiff,Nat.reduceLT,Nat.reduceAdd,Nat.reduceBEq,Int.reduceAdd,Int.reduceSub,Int.reduceLT,Int.reduceLE,Int.reduceEq,Int.reduceNeg,↓reduceIte,reduceCtorEq,scL,scD,expand,List.replicate,c19l0,iD_dv])|apply gC_drawW|((first|apply gI_dec|apply gG_dec|apply gPG_dec|apply gI_var|apply gG_var|apply gPG_var)<;>intro _))
  exact ⟨_,_,_,by omega,.refl _ _,k+1,rfl,hlt,rfl,rfl,hgo (hrow.2 ⟨hn,hrt⟩)⟩
theorem rcheck_p (s t u r:Nat) (S N:List (List UInt8)) (M:List (List Int)) (hm:Mod S N M):VSpec (EN w (n+3)) 16 [tableV s t u r S N M] (.sc (.int .i64 (checkS S N M))) ⟨[],0,0⟩:=by
 refine vspec_flat rfl rfl (fun _ _=>rfl) (Nat.le_of_ble_eq_true rfl) (oldVals w) rfl fun C hC h0=>?_
 obtain ⟨m1,m2,m3,m4,m5,m6⟩:=hm
 by_cases h1:20<S.length∨30<N.length
 ·have e:checkS S N M=4:=if_pos h1
  rw[e]
  repeat' (first|(simp (disch:=first|omega|assumption|exact bd (by with_unfolding_all rfl)|exact Or.inl rfl|exact Or.inl trivial|exact okL_map _ (fun _=>rfl) _|(simp only[VVlen]<;>omega)|fail) only[VV0,VV1,VV2,VV3,VV4,VV5,VV6,VV7,VV8,VV9,mkFnV,vargs,slotsL,opdsA,Nat.reduceEqDiff,Nat.reduceLT,Nat.reduceAdd,Nat.reduceBEq,Int.reduceAdd,Int.reduceSub,Int.reduceLT,Int.reduceLE,Int.reduceEq,Int.reduceNeg,↓reduceIte,reduceCtorEq,scL,scD,expand,List.replicate,c16])|apply gC_drawW|((first|apply gI_dec|apply gG_dec|apply gPG_dec|apply gI_var|apply gG_var|apply gPG_var)<;>intro _))
  all_goals try (exfalso;omega)
  all_goals exact weak_flat rfl h0 rfl
 have w1:=rwords_p w n s S m1 m4
 have w2:=rwords_p w n t N m2 m5
 have ix:=rindex_p w (n+1) t N sizeL m2
 by_cases hbad:(¬ wordsS S=true∨¬ wordsS N=true∨0≤placeG N sizeL N.length∨¬ M.length=N.length)
 ·have e:checkS S N M=8:=by unfold checkS;rw[if_neg h1,if_pos hbad]
  rw[e]
  generalize wordsS S=a at*
  generalize wordsS N=b at*
  generalize placeG N sizeL N.length=p at*
  cases a
  ·repeat' (first|(simp (disch:=first|omega|assumption|exact bd (by with_unfolding_all rfl)|exact Or.inl rfl|exact Or.inl trivial|exact okL_map _ (fun _=>rfl) _|(simp only[VVlen]<;>omega)|fail) only[VV0,VV1,VV2,VV3,VV4,VV5,VV6,VV7,VV8,VV9,mkFnV,vargs,slotsL,opdsA,Nat.reduceEqDiff,Nat.reduceLT,Nat.reduceAdd,Nat.reduceBEq,Int.reduceAdd,Int.reduceSub,Int.reduceLT,Int.reduceLE,Int.reduceEq,Int.reduceNeg,↓reduceIte,reduceCtorEq,scL,scD,expand,List.replicate,c16])|apply gC_drawW|((first|apply gI_dec|apply gG_dec|apply gPG_dec|apply gI_var|apply gG_var|apply gPG_var)<;>intro _))
   all_goals try (exfalso;omega)
   refine callV_flat (by rw[hC];exact w1.flat rfl rfl) ?_
   repeat' (first|(simp (disch:=first|omega|assumption|exact bd (by with_unfolding_all rfl)|exact Or.inl rfl|exact Or.inl trivial|exact okL_map _ (fun _=>rfl) _|(simp only[VVlen]<;>omega)|fail) only[VV0,VV1,VV2,VV3,VV4,VV5,VV6,VV7,VV8,VV9,mkFnV,vargs,slotsL,opdsA,Nat.reduceEqDiff,Nat.reduceLT,Nat.reduceAdd,Nat.reduceBEq,Int.reduceAdd,Int.reduceSub,Int.reduceLT,Int.reduceLE,Int.reduceEq,Int.reduceNeg,↓reduceIte,reduceCtorEq,scL,scD,expand,List.replicate])|apply gC_drawW|((first|apply gI_dec|apply gG_dec|apply gPG_dec|apply gI_var|apply gG_var|apply gPG_var)<;>intro _))
   exact weak_flat rfl h0 rfl
  cases b
  ·repeat' (first|(simp (disch:=first|omega|assumption|exact bd (by with_unfolding_all rfl)|exact Or.inl rfl|exact Or.inl trivial|exact okL_map _ (fun _=>rfl) _|(simp only[VVlen]<;>omega)|fail) only[VV0,VV1,VV2,VV3,VV4,VV5,VV6,VV7,VV8,VV9,mkFnV,vargs,slotsL,opdsA,Nat.reduceEqDiff,Nat.reduceLT,Nat.reduceAdd,Nat.reduceBEq,Int.reduceAdd,Int.reduceSub,Int.reduceLT,Int.reduceLE,Int.reduceEq,Int.reduceNeg,↓reduceIte,reduceCtorEq,scL,scD,expand,List.replicate,c16])|apply gC_drawW|((first|apply gI_dec|apply gG_dec|apply gPG_dec|apply gI_var|apply gG_var|apply gPG_var)<;>intro _))
   all_goals try (exfalso;omega)
   refine callV_flat (by rw[hC];exact w1.flat rfl rfl) ?_
   repeat' (first|(simp (disch:=first|omega|assumption|exact bd (by with_unfolding_all rfl)|exact Or.inl rfl|exact Or.inl trivial|exact okL_map _ (fun _=>rfl) _|(simp only[VVlen]<;>omega)|fail) only[VV0,VV1,VV2,VV3,VV4,VV5,VV6,VV7,VV8,VV9,mkFnV,vargs,slotsL,opdsA,Nat.reduceEqDiff,Nat.reduceLT,Nat.reduceAdd,Nat.reduceBEq,Int.reduceAdd,Int.reduceSub,Int.reduceLT,Int.reduceLE,Int.reduceEq,Int.reduceNeg,↓reduceIte,reduceCtorEq,scL,scD,expand,List.replicate])|apply gC_drawW|((first|apply gI_dec|apply gG_dec|apply gPG_dec|apply gI_var|apply gG_var|apply gPG_var)<;>intro _))
   refine callV_flat (by rw[hC];exact w2.flat rfl rfl) ?_
   repeat' (first|(simp (disch:=first|omega|assumption|exact bd (by with_unfolding_all rfl)|exact Or.inl rfl|exact Or.inl trivial|exact okL_map _ (fun _=>rfl) _|(simp only[VVlen]<;>omega)|fail) only[VV0,VV1,VV2,VV3,VV4,VV5,VV6,VV7,VV8,VV9,mkFnV,vargs,slotsL,opdsA,Nat.reduceEqDiff,Nat.reduceLT,Nat.reduceAdd,Nat.reduceBEq,Int.reduceAdd,Int.reduceSub,Int.reduceLT,Int.reduceLE,Int.reduceEq,Int.reduceNeg,↓reduceIte,reduceCtorEq,scL,scD,expand,List.replicate])|apply gC_drawW|((first|apply gI_dec|apply gG_dec|apply gPG_dec|apply gI_var|apply gG_var|apply gPG_var)<;>intro _))
   exact weak_flat rfl h0 rfl
  have hb2:0≤p∨¬ M.length=N.length:=by simpa using hbad
  repeat' (first|(simp (disch:=first|omega|assumption|exact bd (by with_unfolding_all rfl)|exact Or.inl rfl|exact Or.inl trivial|exact okL_map _ (fun _=>rfl) _|(simp only[VVlen]<;>omega)|fail) only[VV0,VV1,VV2,VV3,VV4,VV5,VV6,VV7,VV8,VV9,mkFnV,vargs,slotsL,opdsA,Nat.reduceEqDiff,Nat.reduceLT,Nat.reduceAdd,Nat.reduceBEq,Int.reduceAdd,Int.reduceSub,Int.reduceLT,Int.reduceLE,Int.reduceEq,Int.reduceNeg,↓reduceIte,reduceCtorEq,scL,scD,expand,List.replicate,c16])|apply gC_drawW|((first|apply gI_dec|apply gG_dec|apply gPG_dec|apply gI_var|apply gG_var|apply gPG_var)<;>intro _))
  all_goals try (exfalso;omega)
  refine callV_flat (by rw[hC];exact w1.flat rfl rfl) ?_
  repeat' (first|(simp (disch:=first|omega|assumption|exact bd (by with_unfolding_all rfl)|exact Or.inl rfl|exact Or.inl trivial|exact okL_map _ (fun _=>rfl) _|(simp only[VVlen]<;>omega)|fail) only[VV0,VV1,VV2,VV3,VV4,VV5,VV6,VV7,VV8,VV9,mkFnV,vargs,slotsL,opdsA,Nat.reduceEqDiff,Nat.reduceLT,Nat.reduceAdd,Nat.reduceBEq,Int.reduceAdd,Int.reduceSub,Int.reduceLT,Int.reduceLE,Int.reduceEq,Int.reduceNeg,↓reduceIte,reduceCtorEq,scL,scD,expand,List.replicate])|apply gC_drawW|((first|apply gI_dec|apply gG_dec|apply gPG_dec|apply gI_var|apply gG_var|apply gPG_var)<;>intro _))
  refine callV_flat (by rw[hC];exact w2.flat rfl rfl) ?_
  repeat' (first|(simp (disch:=first|omega|assumption|exact bd (by with_unfolding_all rfl)|exact Or.inl rfl|exact Or.inl trivial|exact okL_map _ (fun _=>rfl) _|(simp only[VVlen]<;>omega)|fail) only[VV0,VV1,VV2,VV3,VV4,VV5,VV6,VV7,VV8,VV9,mkFnV,vargs,slotsL,opdsA,Nat.reduceEqDiff,Nat.reduceLT,Nat.reduceAdd,Nat.reduceBEq,Int.reduceAdd,Int.reduceSub,Int.reduceLT,Int.reduceLE,Int.reduceEq,Int.reduceNeg,↓reduceIte,reduceCtorEq,scL,scD,expand,List.replicate])|apply gC_drawW|((first|apply gI_dec|apply gG_dec|apply gPG_dec|apply gI_var|apply gG_var|apply gPG_var)<;>intro _))
  refine callV_flat (by rw[hC];exact ix.flat rfl rfl) ?_
  repeat' (first|(simp (disch:=first|omega|assumption|exact bd (by with_unfolding_all rfl)|exact Or.inl rfl|exact Or.inl trivial|exact okL_map _ (fun _=>rfl) _|(simp only[VVlen]<;>omega)|fail) only[VV0,VV1,VV2,VV3,VV4,VV5,VV6,VV7,VV8,VV9,mkFnV,vargs,slotsL,opdsA,Nat.reduceEqDiff,Nat.reduceLT,Nat.reduceAdd,Nat.reduceBEq,Int.reduceAdd,Int.reduceSub,Int.reduceLT,Int.reduceLE,Int.reduceEq,Int.reduceNeg,↓reduceIte,reduceCtorEq,scL,scD,expand,List.replicate])|apply gC_drawW|((first|apply gI_dec|apply gG_dec|apply gPG_dec|apply gI_var|apply gG_var|apply gPG_var)<;>intro _))
  all_goals try (exfalso;omega)
  all_goals exact weak_flat rfl h0 rfl
 have g3:wordsS S=true:=Decidable.byContradiction fun h=>hbad (.inl h)
 have g4:wordsS N=true:=Decidable.byContradiction fun h=>hbad (.inr (.inl h))
 have g5:¬ 0≤placeG N sizeL N.length:=fun h=>hbad (.inr (.inr (.inl h)))
 have g6:M.length=N.length:=Decidable.byContradiction fun h=>hbad (.inr (.inr (.inr h)))
 have echk:checkS S N M=if ∀ k,k<M.length→rowS M[k]! S.length=true then (if twiceS S=true∨twiceS N=true then 14 else 0) else 8:=by unfold checkS;rw[if_neg h1,if_neg hbad]
 rw[echk]
 rw[g3] at w1
 rw[g4] at w2
 have t1:=fun st=>(twice_p w n s S m1).of hC rfl st rfl
 have t2:=fun st=>(twice_p w n t N m2).of hC rfl st rfl
 clear hbad echk g3 g4
 generalize placeG N sizeL N.length=p at*
 generalize twiceS S=c at*
 generalize twiceS N=d at*
 repeat' (first|(simp (disch:=first|omega|assumption|exact bd (by with_unfolding_all rfl)|exact Or.inl rfl|exact Or.inl trivial|exact okL_map _ (fun _=>rfl) _|(simp only[VVlen]<;>omega)|fail) only[VV0,VV1,VV2,VV3,VV4,VV5,VV6,VV7,VV8,VV9,mkFnV,vargs,slotsL,opdsA,Nat.reduceEqDiff,Nat.reduceLT,Nat.reduceAdd,Nat.reduceBEq,Int.reduceAdd,Int.reduceSub,Int.reduceLT,Int.reduceLE,Int.reduceEq,Int.reduceNeg,↓reduceIte,reduceCtorEq,scL,scD,expand,List.replicate,c16])|apply gC_drawW|((first|apply gI_dec|apply gG_dec|apply gPG_dec|apply gI_var|apply gG_var|apply gPG_var)<;>intro _))
 all_goals try (exfalso;omega)
 refine callV_flat (by rw[hC];exact w1.flat rfl rfl) ?_
 repeat' (first|(simp (disch:=first|omega|assumption|exact bd (by with_unfolding_all rfl)|exact Or.inl rfl|exact Or.inl trivial|exact okL_map _ (fun _=>rfl) _|(simp only[VVlen]<;>omega)|fail) only[VV0,VV1,VV2,VV3,VV4,VV5,VV6,VV7,VV8,VV9,mkFnV,vargs,slotsL,opdsA,Nat.reduceEqDiff,Nat.reduceLT,Nat.reduceAdd,Nat.reduceBEq,Int.reduceAdd,Int.reduceSub,Int.reduceLT,Int.reduceLE,Int.reduceEq,Int.reduceNeg,↓reduceIte,reduceCtorEq,scL,scD,expand,List.replicate])|apply gC_drawW|((first|apply gI_dec|apply gG_dec|apply gPG_dec|apply gI_var|apply gG_var|apply gPG_var)<;>intro _))
 refine callV_flat (by rw[hC];exact w2.flat rfl rfl) ?_
 repeat' (first|(simp (disch:=first|omega|assumption|exact bd (by with_unfolding_all rfl)|exact Or.inl rfl|exact Or.inl trivial|exact okL_map _ (fun _=>rfl) _|(simp only[VVlen]<;>omega)|fail) only[VV0,VV1,VV2,VV3,VV4,VV5,VV6,VV7,VV8,VV9,mkFnV,vargs,slotsL,opdsA,Nat.reduceEqDiff,Nat.reduceLT,Nat.reduceAdd,Nat.reduceBEq,Int.reduceAdd,Int.reduceSub,Int.reduceLT,Int.reduceLE,Int.reduceEq,Int.reduceNeg,↓reduceIte,reduceCtorEq,scL,scD,expand,List.replicate])|apply gC_drawW|((first|apply gI_dec|apply gG_dec|apply gPG_dec|apply gI_var|apply gG_var|apply gPG_var)<;>intro _))
 refine callV_flat (by rw[hC];exact ix.flat rfl rfl) ?_
 repeat' (first|(simp (disch:=first|omega|assumption|exact bd (by with_unfolding_all rfl)|exact Or.inl rfl|exact Or.inl trivial|exact okL_map _ (fun _=>rfl) _|(simp only[VVlen]<;>omega)|fail) only[VV0,VV1,VV2,VV3,VV4,VV5,VV6,VV7,VV8,VV9,mkFnV,vargs,slotsL,opdsA,Nat.reduceEqDiff,Nat.reduceLT,Nat.reduceAdd,Nat.reduceBEq,Int.reduceAdd,Int.reduceSub,Int.reduceLT,Int.reduceLE,Int.reduceEq,Int.reduceNeg,↓reduceIte,reduceCtorEq,scL,scD,expand,List.replicate])|apply gC_drawW|((first|apply gI_dec|apply gG_dec|apply gPG_dec|apply gI_var|apply gG_var|apply gPG_var)<;>intro _))
 all_goals try (exfalso;omega)
 refine g_while (fun m fr st=>∃ k:Nat,m=M.length - k∧k≤M.length∧fr= [(1,.ptr 0 0),(3,.sc (.int .i64 k))]∧st=⟨[(0,tabO s t u r S N M)],1,0⟩∧∀ j,j<k→rowS M[j]! S.length=true) M.length ?_ ⟨_,_,.refl _ _,0,by omega,Nat.zero_le _,rfl,rfl,by omega⟩ ?_
 ·rw[hC,callP_rounds];unfold many;omega
 rintro m fr st ⟨k,rfl,hk,rfl,rfl,hj⟩
 by_cases hlt:k<M.length
 case neg=>
  have:k=M.length:=by omega
  subst this
  rw[if_pos hj]
  cases c
  ·repeat' (first|(simp (disch:=first|omega|assumption|exact bd (by with_unfolding_all rfl)|exact Or.inl rfl|exact Or.inl trivial|exact okL_map _ (fun _=>rfl) _|(simp only[VVlen]<;>omega)|fail) only[VV0,VV1,VV2,VV3,VV4,VV5,VV6,VV7,VV8,VV9,mkFnV,vargs,slotsL,opdsA,Nat.reduceEqDiff,Nat.reduceLT,Nat.reduceAdd,Nat.reduceBEq,Int.reduceAdd,Int.reduceSub,Int.reduceLT,Int.reduceLE,Int.reduceEq,Int.reduceNeg,↓reduceIte,reduceCtorEq,scL,scD,expand,List.replicate,c16l0])|apply gC_drawW|((first|apply gI_dec|apply gG_dec|apply gPG_dec|apply gI_var|apply gG_var|apply gPG_var)<;>intro _))
   refine callV_flat (t1 _) ?_
   repeat' (first|(simp (disch:=first|omega|assumption|exact bd (by with_unfolding_all rfl)|exact Or.inl rfl|exact Or.inl trivial|exact okL_map _ (fun _=>rfl) _|(simp only[VVlen]<;>omega)|fail) only[VV0,VV1,VV2,VV3,VV4,VV5,VV6,VV7,VV8,VV9,mkFnV,vargs,slotsL,opdsA,Nat.reduceEqDiff,Nat.reduceLT,Nat.reduceAdd,Nat.reduceBEq,Int.reduceAdd,Int.reduceSub,Int.reduceLT,Int.reduceLE,Int.reduceEq,Int.reduceNeg,↓reduceIte,reduceCtorEq,scL,scD,expand,List.replicate])|apply gC_drawW|((first|apply gI_dec|apply gG_dec|apply gPG_dec|apply gI_var|apply gG_var|apply gPG_var)<;>intro _))
   refine callV_flat (t2 _) ?_
   cases d
   all_goals
    repeat' (first|(simp (disch:=first|omega|assumption|exact bd (by with_unfolding_all rfl)|exact Or.inl rfl|exact Or.inl trivial|exact okL_map _ (fun _=>rfl) _|(simp only[VVlen]<;>omega)|fail) only[VV0,VV1,VV2,VV3,VV4,VV5,VV6,VV7,VV8,VV9,mkFnV,vargs,slotsL,opdsA,Nat.reduceEqDiff,Nat.reduceLT,Nat.reduceAdd,Nat.reduceBEq,Int.reduceAdd,Int.reduceSub,Int.reduceLT,Int.reduceLE,Int.reduceEq,Int.reduceNeg,↓reduceIte,reduceCtorEq,scL,scD,expand,List.replicate])|apply gC_drawW|((first|apply gI_dec|apply gG_dec|apply gPG_dec|apply gI_var|apply gG_var|apply gPG_var)<;>intro _))
    exact weak_flat rfl h0 rfl
  ·repeat' (first|(simp (disch:=first|omega|assumption|exact bd (by with_unfolding_all rfl)|exact Or.inl rfl|exact Or.inl trivial|exact okL_map _ (fun _=>rfl) _|(simp only[VVlen]<;>omega)|fail) only[VV0,VV1,VV2,VV3,VV4,VV5,VV6,VV7,VV8,VV9,mkFnV,vargs,slotsL,opdsA,Nat.reduceEqDiff,Nat.reduceLT,Nat.reduceAdd,Nat.reduceBEq,Int.reduceAdd,Int.reduceSub,Int.reduceLT,Int.reduceLE,Int.reduceEq,Int.reduceNeg,↓reduceIte,reduceCtorEq,scL,scD,expand,List.replicate,c16l0])|apply gC_drawW|((first|apply gI_dec|apply gG_dec|apply gPG_dec|apply gI_var|apply gG_var|apply gPG_var)<;>intro _))
   refine callV_flat (t1 _) ?_
   repeat' (first|(simp (disch:=first|omega|assumption|exact bd (by with_unfolding_all rfl)|exact Or.inl rfl|exact Or.inl trivial|exact okL_map _ (fun _=>rfl) _|(simp only[VVlen]<;>omega)|fail) only[VV0,VV1,VV2,VV3,VV4,VV5,VV6,VV7,VV8,VV9,mkFnV,vargs,slotsL,opdsA,Nat.reduceEqDiff,Nat.reduceLT,Nat.reduceAdd,Nat.reduceBEq,Int.reduceAdd,Int.reduceSub,Int.reduceLT,Int.reduceLE,Int.reduceEq,Int.reduceNeg,↓reduceIte,reduceCtorEq,scL,scD,expand,List.replicate])|apply gC_drawW|((first|apply gI_dec|apply gG_dec|apply gPG_dec|apply gI_var|apply gG_var|apply gPG_var)<;>intro _))
   exact weak_flat rfl h0 rfl
 have hgo:=fun h=>lt_succ_cases hj (k:=k) h
 have hzl:=m6 k hlt
 have hrw:=fun st=>(row_p w (n+1) r M[k]! hzl S.length m1).of hC rfl st rfl
 cases hw:rowS M[k]! S.length with
 |false=>
  rw[if_neg fun hh=>by rw[hh k hlt] at hw;cases hw]
  rw[hw] at hrw
  generalize hX:M[k]! =X at*
  repeat' (first|(simp (disch:=first|omega|assumption|exact bd (by with_unfolding_all rfl)|exact Or.inl rfl|exact Or.inl trivial|exact okL_map _ (fun _=>rfl) _|(simp only[VVlen]<;>omega)|fail) only[VV0,VV1,VV2,VV3,VV4,VV5,VV6,VV7,VV8,VV9,mkFnV,vargs,slotsL,opdsA,Nat.reduceEqDiff,Nat.reduceLT,Nat.reduceAdd,Nat.reduceBEq,Int.reduceAdd,Int.reduceSub,Int.reduceLT,Int.reduceLE,Int.reduceEq,Int.reduceNeg,↓reduceIte,reduceCtorEq,scL,scD,expand,List.replicate,c16l0,rowI_dv,hX])|apply gC_drawW|((first|apply gI_dec|apply gG_dec|apply gPG_dec|apply gI_var|apply gG_var|apply gPG_var)<;>intro _))
  refine callV_flat (hrw _) ?_
  repeat' (first|(simp (disch:=first|omega|assumption|exact bd (by with_unfolding_all rfl)|exact Or.inl rfl|exact Or.inl trivial|exact okL_map _ (fun _=>rfl) _|(simp only[VVlen]<;>omega)|fail) only[VV0,VV1,VV2,VV3,VV4,VV5,VV6,VV7,VV8,VV9,mkFnV,vargs,slotsL,opdsA,Nat.reduceEqDiff,Nat.reduceLT,Nat.reduceAdd,Nat.reduceBEq,Int.reduceAdd,Int.reduceSub,Int.reduceLT,Int.reduceLE,Int.reduceEq,Int.reduceNeg,↓reduceIte,reduceCtorEq,scL,scD,expand,List.replicate])|apply gC_drawW|((first|apply gI_dec|apply gG_dec|apply gPG_dec|apply gI_var|apply gG_var|apply gPG_var)<;>intro _))
  exact weak_flat rfl h0 rfl
 |true=>
  have hgo2:=hgo hw
  rw[hw] at hrw
  generalize hX:M[k]! =X at*
  repeat' (first|(simp (disch:=first|omega|assumption|exact bd (by with_unfolding_all rfl)|exact Or.inl rfl|exact Or.inl trivial|exact okL_map _ (fun _=>rfl) _|(simp only[VVlen]<;>omega)|fail) only[VV0,VV1,VV2,VV3,VV4,VV5,VV6,VV7,VV8,VV9,mkFnV,vargs,slotsL,opdsA,Nat.reduceEqDiff,Nat.reduceLT,Nat.reduceAdd,Nat.reduceBEq,Int.reduceAdd,Int.reduceSub,Int.reduceLT,Int.reduceLE,Int.reduceEq,Int.reduceNeg,↓reduceIte,reduceCtorEq,scL,scD,expand,List.replicate,c16l0,rowI_dv,hX])|apply gC_drawW|((first|apply gI_dec|apply gG_dec|apply gPG_dec|apply gI_var|apply gG_var|apply gPG_var)<;>intro _))
  refine callV_flat (hrw _) ?_
  repeat' (first|(simp (disch:=first|omega|assumption|exact bd (by with_unfolding_all rfl)|exact Or.inl rfl|exact Or.inl trivial|exact okL_map _ (fun _=>rfl) _|(simp only[VVlen]<;>omega)|fail) only[VV0,VV1,VV2,VV3,VV4,VV5,VV6,VV7,VV8,VV9,mkFnV,vargs,slotsL,opdsA,Nat.reduceEqDiff,Nat.reduceLT,Nat.reduceAdd,Nat.reduceBEq,Int.reduceAdd,Int.reduceSub,Int.reduceLT,Int.reduceLE,Int.reduceEq,Int.reduceNeg,↓reduceIte,reduceCtorEq,scL,scD,expand,List.replicate])|apply gC_drawW|((first|apply gI_dec|apply gG_dec|apply gPG_dec|apply gI_var|apply gG_var|apply gPG_var)<;>intro _))
  exact ⟨_,_,_,by omega,.refl _ _,k+1,rfl,hlt,rfl,rfl,hgo2⟩
end
def greatS (S N:List (List UInt8)) (M:List (List Int)):Bool:=
 decide (30<S.length∨40<N.length∨40<M.length∨(∃ j,j<S.length∧60<S[j]!.length)∨(∃ j,j<N.length∧60<N[j]!.length)∨∃ j,j<M.length∧40<M[j]!.length)
section
variable (w:World) (n:Nat)
theorem great_p (s t u r:Nat) (S N:List (List UInt8)) (M:List (List Int)) (hm:S.length≤140737488351232∧N.length≤140737488351232∧M.length≤140737488351232) (zs:∀ j,j<S.length→S[j]!.length≤140737488351232) (zn:∀ j,j<N.length→N[j]!.length≤140737488351232) (zm:∀ j,j<M.length→M[j]!.length≤140737488351232):VSpec (EN w (n+1)) 9 [tableV s t u r S N M] (.sc (.bool (greatS S N M))) ⟨[],0,0⟩:=by
 refine vspec_flat rfl rfl (fun _ _=>rfl) (Nat.le_of_ble_eq_true rfl) (oldVals w) rfl fun C hC h0=>?_
 have yes:(30<S.length∨40<N.length∨40<M.length∨(∃ j,j<S.length∧60<S[j]!.length)∨(∃ j,j<N.length∧60<N[j]!.length)∨∃ j,j<M.length∧40<M[j]!.length)→greatS S N M=true:=fun h=>decide_eq_true h
 by_cases h1:30<S.length∨40<N.length∨40<M.length
 ·rw[yes (by omega)]
  repeat' (first|(simp (disch:=first|omega|assumption|exact bd (by with_unfolding_all rfl)|exact Or.inl rfl|exact Or.inl trivial|exact okL_map _ (fun _=>rfl) _|(simp only[VVlen]<;>omega)|fail) only[VV0,VV1,VV2,VV3,VV4,VV5,VV6,VV7,VV8,VV9,mkFnV,vargs,slotsL,opdsA,Nat.reduceEqDiff,Nat.reduceLT,Nat.reduceAdd,Nat.reduceBEq,Int.reduceAdd,Int.reduceSub,Int.reduceLT,Int.reduceLE,Int.reduceEq,Int.reduceNeg,↓reduceIte,reduceCtorEq,scL,scD,expand,List.replicate,c9])|apply gC_drawW|((first|apply gI_dec|apply gG_dec|apply gPG_dec|apply gI_var|apply gG_var|apply gPG_var)<;>intro _))
  all_goals try (exfalso;omega)
  all_goals exact weak_flat rfl h0 rfl
 repeat' (first|(simp (disch:=first|omega|assumption|exact bd (by with_unfolding_all rfl)|exact Or.inl rfl|exact Or.inl trivial|exact okL_map _ (fun _=>rfl) _|(simp only[VVlen]<;>omega)|fail) only[VV0,VV1,VV2,VV3,VV4,VV5,VV6,VV7,VV8,VV9,mkFnV,vargs,slotsL,opdsA,Nat.reduceEqDiff,Nat.reduceLT,Nat.reduceAdd,Nat.reduceBEq,Int.reduceAdd,Int.reduceSub,Int.reduceLT,Int.reduceLE,Int.reduceEq,Int.reduceNeg,↓reduceIte,reduceCtorEq,scL,scD,expand,List.replicate,c9])|apply gC_drawW|((first|apply gI_dec|apply gG_dec|apply gPG_dec|apply gI_var|apply gG_var|apply gPG_var)<;>intro _))
 all_goals try (exfalso;omega)
 refine g_while (fun m fr st=>∃ k:Nat,m=S.length - k∧k≤S.length∧fr= [(1,.ptr 0 0),(3,.sc (.int .i64 k))]∧st=⟨[(0,tabO s t u r S N M)],1,0⟩∧∀ j,j<k→¬ 60<S[j]!.length) S.length ?_ ⟨_,_,.refl _ _,0,by omega,Nat.zero_le _,rfl,rfl,by omega⟩ ?_
 ·rw[hC,callP_rounds];unfold many;omega
 rintro m fr st ⟨k,rfl,hk,rfl,rfl,hj⟩
 by_cases hlt:k<S.length
 ·have hz:=zs k hlt
  have hsz:=mk_size S[k]!
  by_cases hb:60<S[k]!.length
  ·rw[yes (.inr (.inr (.inr (.inl ⟨k,hlt,hb⟩))))]
   generalize hX:S[k]! =X at*
   repeat' (first|(simp (disch:=first|omega|assumption|exact bd (by with_unfolding_all rfl)|exact Or.inl rfl|exact Or.inl trivial|exact okL_map _ (fun _=>rfl) _|(simp only[VVlen]<;>omega)|fail) only[VV0,VV1,VV2,VV3,VV4,VV5,VV6,VV7,VV8,VV9,mkFnV,vargs,slotsL,opdsA,Nat.reduceEqDiff,Nat.reduceLT,Nat.reduceAdd,Nat.reduceBEq,Int.reduceAdd,Int.reduceSub,Int.reduceLT,Int.reduceLE,Int.reduceEq,Int.reduceNeg,↓reduceIte,reduceCtorEq,scL,scD,expand,List.replicate,c9l2,sD_dv,hX])|apply gC_drawW|((first|apply gI_dec|apply gG_dec|apply gPG_dec|apply gI_var|apply gG_var|apply gPG_var)<;>intro _))
   all_goals try (exfalso;omega)
   exact weak_flat rfl h0 rfl
  ·have hj:=lt_succ_cases hj hb
   generalize hX:S[k]! =X at*
   repeat' (first|(simp (disch:=first|omega|assumption|exact bd (by with_unfolding_all rfl)|exact Or.inl rfl|exact Or.inl trivial|exact okL_map _ (fun _=>rfl) _|(simp only[VVlen]<;>omega)|fail) only[VV0,VV1,VV2,VV3,VV4,VV5,VV6,VV7,VV8,VV9,mkFnV,vargs,slotsL,opdsA,Nat.reduceEqDiff,Nat.reduceLT,Nat.reduceAdd,Nat.reduceBEq,Int.reduceAdd,Int.reduceSub,Int.reduceLT,Int.reduceLE,Int.reduceEq,Int.reduceNeg,↓reduceIte,reduceCtorEq,scL,scD,expand,List.replicate,c9l2,sD_dv,hX])|apply gC_drawW|((first|apply gI_dec|apply gG_dec|apply gPG_dec|apply gI_var|apply gG_var|apply gPG_var)<;>intro _))
   all_goals try (exfalso;omega)
   exact ⟨_,_,_,by omega,.refl _ _,k+1,rfl,hlt,rfl,rfl,hj⟩
 have:k=S.length:=by omega
 subst this
 repeat' (first|(simp (disch:=first|omega|assumption|exact bd (by with_unfolding_all rfl)|exact Or.inl rfl|exact Or.inl trivial|exact okL_map _ (fun _=>rfl) _|(simp only[VVlen]<;>omega)|fail) only[VV0,VV1,VV2,VV3,VV4,VV5,VV6,VV7,VV8,VV9,mkFnV,vargs,slotsL,opdsA,Nat.reduceEqDiff,Nat.reduceLT,Nat.reduceAdd,Nat.reduceBEq,Int.reduceAdd,Int.reduceSub,Int.reduceLT,Int.reduceLE,Int.reduceEq,Int.reduceNeg,↓reduceIte,reduceCtorEq,scL,scD,expand,List.replicate,c9l2])|apply gC_drawW|((first|apply gI_dec|apply gG_dec|apply gPG_dec|apply gI_var|apply gG_var|apply gPG_var)<;>intro _))
 all_goals try (exfalso;omega)
 refine g_while (fun m fr st=>∃ k:Nat,m=N.length - k∧k≤N.length∧fr= [(1,.ptr 0 0),(4,.sc (.int .i64 k))]∧st=⟨[(0,tabO s t u r S N M)],1,0⟩∧∀ j,j<k→¬ 60<N[j]!.length) N.length ?_ ⟨_,_,.refl _ _,0,by omega,Nat.zero_le _,rfl,rfl,by omega⟩ ?_
 ·rw[hC,callP_rounds];unfold many;omega
 rintro m fr st ⟨k,rfl,hk,rfl,rfl,hj2⟩
 by_cases hlt:k<N.length
 ·have hz:=zn k hlt
  have hsz:=mk_size N[k]!
  by_cases hb:60<N[k]!.length
  ·rw[yes (.inr (.inr (.inr (.inr (.inl ⟨k,hlt,hb⟩)))))]
   generalize hX:N[k]! =X at*
   repeat' (first|(simp (disch:=first|omega|assumption|exact bd (by with_unfolding_all rfl)|exact Or.inl rfl|exact Or.inl trivial|exact okL_map _ (fun _=>rfl) _|(simp only[VVlen]<;>omega)|fail) only[VV0,VV1,VV2,VV3,VV4,VV5,VV6,VV7,VV8,VV9,mkFnV,vargs,slotsL,opdsA,Nat.reduceEqDiff,Nat.reduceLT,Nat.reduceAdd,Nat.reduceBEq,Int.reduceAdd,Int.reduceSub,Int.reduceLT,Int.reduceLE,Int.reduceEq,Int.reduceNeg,↓reduceIte,reduceCtorEq,scL,scD,expand,List.replicate,c9l1,sD_dv,hX])|apply gC_drawW|((first|apply gI_dec|apply gG_dec|apply gPG_dec|apply gI_var|apply gG_var|apply gPG_var)<;>intro _))
   all_goals try (exfalso;omega)
   exact weak_flat rfl h0 rfl
  ·have hj:=lt_succ_cases hj2 hb
   generalize hX:N[k]! =X at*
   repeat' (first|(simp (disch:=first|omega|assumption|exact bd (by with_unfolding_all rfl)|exact Or.inl rfl|exact Or.inl trivial|exact okL_map _ (fun _=>rfl) _|(simp only[VVlen]<;>omega)|fail) only[VV0,VV1,VV2,VV3,VV4,VV5,VV6,VV7,VV8,VV9,mkFnV,vargs,slotsL,opdsA,Nat.reduceEqDiff,Nat.reduceLT,Nat.reduceAdd,Nat.reduceBEq,Int.reduceAdd,Int.reduceSub,Int.reduceLT,Int.reduceLE,Int.reduceEq,Int.reduceNeg,↓reduceIte,reduceCtorEq,scL,scD,expand,List.replicate,c9l1,sD_dv,hX])|apply gC_drawW|((first|apply gI_dec|apply gG_dec|apply gPG_dec|apply gI_var|apply gG_var|apply gPG_var)<;>intro _))
   all_goals try (exfalso;omega)
   exact ⟨_,_,_,by omega,.refl _ _,k+1,rfl,hlt,rfl,rfl,hj⟩
 have:k=N.length:=by omega
 subst this
 repeat' (first|(simp (disch:=first|omega|assumption|exact bd (by with_unfolding_all rfl)|exact Or.inl rfl|exact Or.inl trivial|exact okL_map _ (fun _=>rfl) _|(simp only[VVlen]<;>omega)|fail) only[VV0,VV1,VV2,VV3,VV4,VV5,VV6,VV7,VV8,VV9,mkFnV,vargs,slotsL,opdsA,Nat.reduceEqDiff,Nat.reduceLT,Nat.reduceAdd,Nat.reduceBEq,Int.reduceAdd,Int.reduceSub,Int.reduceLT,Int.reduceLE,Int.reduceEq,Int.reduceNeg,↓reduceIte,reduceCtorEq,scL,scD,expand,List.replicate,c9l1])|apply gC_drawW|((first|apply gI_dec|apply gG_dec|apply gPG_dec|apply gI_var|apply gG_var|apply gPG_var)<;>intro _))
 all_goals try (exfalso;omega)
 refine g_while (fun m fr st=>∃ k:Nat,m=M.length - k∧k≤M.length∧fr= [(1,.ptr 0 0),(5,.sc (.int .i64 k))]∧st=⟨[(0,tabO s t u r S N M)],1,0⟩∧∀ j,j<k→¬ 40<M[j]!.length) M.length ?_ ⟨_,_,.refl _ _,0,by omega,Nat.zero_le _,rfl,rfl,by omega⟩ ?_
 ·rw[hC,callP_rounds];unfold many;omega
 rintro m fr st ⟨k,rfl,hk,rfl,rfl,hj3⟩
 by_cases hlt:k<M.length
 ·have hz:=zm k hlt
  by_cases hb:40<M[k]!.length
  ·rw[yes (.inr (.inr (.inr (.inr (.inr ⟨k,hlt,hb⟩)))))]
   generalize hX:M[k]! =X at*
   repeat' (first|(simp (disch:=first|omega|assumption|exact bd (by with_unfolding_all rfl)|exact Or.inl rfl|exact Or.inl trivial|exact okL_map _ (fun _=>rfl) _|(simp only[VVlen]<;>omega)|fail) only[VV0,VV1,VV2,VV3,VV4,VV5,VV6,VV7,VV8,VV9,mkFnV,vargs,slotsL,opdsA,Nat.reduceEqDiff,Nat.reduceLT,Nat.reduceAdd,Nat.reduceBEq,Int.reduceAdd,Int.reduceSub,Int.reduceLT,Int.reduceLE,Int.reduceEq,Int.reduceNeg,↓reduceIte,reduceCtorEq,scL,scD,expand,List.replicate,c9l0,rowI_dv,hX])|apply gC_drawW|((first|apply gI_dec|apply gG_dec|apply gPG_dec|apply gI_var|apply gG_var|apply gPG_var)<;>intro _))
   all_goals try (exfalso;omega)
   exact weak_flat rfl h0 rfl
  ·have hj:=lt_succ_cases hj3 hb
   generalize hX:M[k]! =X at*
   repeat' (first|(simp (disch:=first|omega|assumption|exact bd (by with_unfolding_all rfl)|exact Or.inl rfl|exact Or.inl trivial|exact okL_map _ (fun _=>rfl) _|(simp only[VVlen]<;>omega)|fail) only[VV0,VV1,VV2,VV3,VV4,VV5,VV6,VV7,VV8,VV9,mkFnV,vargs,slotsL,opdsA,Nat.reduceEqDiff,Nat.reduceLT,Nat.reduceAdd,Nat.reduceBEq,Int.reduceAdd,Int.reduceSub,Int.reduceLT,Int.reduceLE,Int.reduceEq,Int.reduceNeg,↓reduceIte,reduceCtorEq,scL,scD,expand,List.replicate,c9l0,rowI_dv,hX])|apply gC_drawW|((first|apply gI_dec|apply gG_dec|apply gPG_dec|apply gI_var|apply gG_var|apply gPG_var)<;>intro _))
   all_goals try (exfalso;omega)
   exact ⟨_,_,_,by omega,.refl _ _,k+1,rfl,hlt,rfl,rfl,hj⟩
 have:k=M.length:=by omega
 subst this
 have e:greatS S N M=false:=decide_eq_false (by
  rintro (h|h|h|⟨j,h,h'⟩|⟨j,h,h'⟩|⟨j,h,h'⟩)
  ·omega
  ·omega
  ·omega
  ·exact hj j h h'
  ·exact hj2 j h h'
  ·exact hj3 j h h')
 rw[e]
 repeat' (first|(simp (disch:=first|omega|assumption|exact bd (by with_unfolding_all rfl)|exact Or.inl rfl|exact Or.inl trivial|exact okL_map _ (fun _=>rfl) _|(simp only[VVlen]<;>omega)|fail) only[VV0,VV1,VV2,VV3,VV4,VV5,VV6,VV7,VV8,VV9,mkFnV,vargs,slotsL,opdsA,Nat.reduceEqDiff,Nat.reduceLT,Nat.reduceAdd,Nat.reduceBEq,Int.reduceAdd,Int.reduceSub,Int.reduceLT,Int.reduceLE,Int.reduceEq,Int.reduceNeg,↓reduceIte,reduceCtorEq,scL,scD,expand,List.replicate,c9l0])|apply gC_drawW|((first|apply gI_dec|apply gG_dec|apply gPG_dec|apply gI_var|apply gG_var|apply gPG_var)<;>intro _))
 all_goals try (exfalso;omega)
 exact weak_flat rfl h0 rfl
end
section
variable (w:World) (n:Nat)
theorem same36_p (s s':Nat) (l:List Int) (hl:l.length≤100000000):VSpec (EN w (n+1)) 28 [intsV s l,intsV s' l] (.sc (.bool true)) ⟨[],0,0⟩:=by
 refine vspec_flat rfl rfl (fun _ _=>rfl) (Nat.le_of_ble_eq_true rfl) (oldVals w) rfl fun C hC h0=>?_
 repeat' (first|(simp (disch:=first|omega|assumption|exact bd (by with_unfolding_all rfl)|exact Or.inl rfl|exact Or.inl trivial|exact okL_map _ (fun _=>rfl) _|(simp only[VVlen]<;>omega)|fail) only[VV0,VV1,VV2,VV3,VV4,VV5,VV6,VV7,VV8,VV9,mkFnV,vargs,slotsL,opdsA,Nat.reduceEqDiff,Nat.reduceLT,Nat.reduceAdd,Nat.reduceBEq,Int.reduceAdd,Int.reduceSub,Int.reduceLT,Int.reduceLE,Int.reduceEq,Int.reduceNeg,↓reduceIte,reduceCtorEq,scL,scD,expand,List.replicate,c28])|apply gC_drawW|((first|apply gI_dec|apply gG_dec|apply gPG_dec|apply gI_var|apply gG_var|apply gPG_var)<;>intro _))
 refine g_while (fun m fr st=>∃ k:Nat,m=l.length - k∧k≤l.length∧fr= [(0,intsV s l),(1,intsV s' l),(5,.sc (.int .i64 k))]∧st=⟨[],0,0⟩) l.length ?_ ⟨_,_,.refl _ _,0,by omega,Nat.zero_le _,rfl,rfl⟩ ?_
 ·rw[hC,callP_rounds];unfold many;omega
 rintro m fr st ⟨k,rfl,hk,rfl,rfl⟩
 by_cases hlt:k<l.length
 ·generalize hX:l[k]! =X at*
  repeat' (first|(simp (disch:=first|omega|assumption|exact bd (by with_unfolding_all rfl)|exact Or.inl rfl|exact Or.inl trivial|exact okL_map _ (fun _=>rfl) _|(simp only[VVlen]<;>omega)|fail) only[VV0,VV1,VV2,VV3,VV4,VV5,VV6,VV7,VV8,VV9,mkFnV,vargs,slotsL,opdsA,Nat.reduceEqDiff,Nat.reduceLT,Nat.reduceAdd,Nat.reduceBEq,Int.reduceAdd,Int.reduceSub,Int.reduceLT,Int.reduceLE,Int.reduceEq,Int.reduceNeg,↓reduceIte,reduceCtorEq,scL,scD,expand,List.replicate,c28l0,iD_dv,hX])|apply gC_drawW|((first|apply gI_dec|apply gG_dec|apply gPG_dec|apply gI_var|apply gG_var|apply gPG_var)<;>intro _))
  all_goals try (exfalso;omega)
  exact ⟨_,_,_,by omega,.refl _ _,k+1,rfl,hlt,rfl,rfl⟩
 ·have:k=l.length:=by omega
  subst this
  repeat' (first|(simp (disch:=first|omega|assumption|exact bd (by with_unfolding_all rfl)|exact Or.inl rfl|exact Or.inl trivial|exact okL_map _ (fun _=>rfl) _|(simp only[VVlen]<;>omega)|fail) only[VV0,VV1,VV2,VV3,VV4,VV5,VV6,VV7,VV8,VV9,mkFnV,vargs,slotsL,opdsA,Nat.reduceEqDiff,Nat.reduceLT,Nat.reduceAdd,Nat.reduceBEq,Int.reduceAdd,Int.reduceSub,Int.reduceLT,Int.reduceLE,Int.reduceEq,Int.reduceNeg,↓reduceIte,reduceCtorEq,scL,scD,expand,List.replicate,c28l0])|apply gC_drawW|((first|apply gI_dec|apply gG_dec|apply gPG_dec|apply gI_var|apply gG_var|apply gPG_var)<;>intro _))
  exact weak_flat rfl h0 rfl
theorem same_p (s t u r s' t' u' r':Nat) (S N:List (List UInt8)) (M:List (List Int)) (hm:Mod S N M):VSpec (EN w (n+2)) 14 [tableV s t u r S N M,tableV s' t' u' r' S N M] (.sc (.bool true)) ⟨[],0,0⟩:=by
 refine vspec_flat rfl rfl (fun _ _=>rfl) (Nat.le_of_ble_eq_true rfl) (oldVals w) rfl fun C hC h0=>?_
 obtain ⟨m1,m2,m3,m4,m5,m6⟩:=hm
 have hrn:C.E.rounds=many:=by rw[hC,callP_rounds]
 repeat' (first|(simp (disch:=first|omega|assumption|exact bd (by with_unfolding_all rfl)|exact Or.inl rfl|exact Or.inl trivial|exact okL_map _ (fun _=>rfl) _|(simp only[VVlen]<;>omega)|fail) only[VV0,VV1,VV2,VV3,VV4,VV5,VV6,VV7,VV8,VV9,mkFnV,vargs,slotsL,opdsA,Nat.reduceEqDiff,Nat.reduceLT,Nat.reduceAdd,Nat.reduceBEq,Int.reduceAdd,Int.reduceSub,Int.reduceLT,Int.reduceLE,Int.reduceEq,Int.reduceNeg,↓reduceIte,reduceCtorEq,scL,scD,expand,List.replicate,c14])|apply gC_drawW|((first|apply gI_dec|apply gG_dec|apply gPG_dec|apply gI_var|apply gG_var|apply gPG_var)<;>intro _))
 all_goals try (exfalso;omega)
 refine g_while (fun m fr st=>∃ k:Nat,m=S.length - k∧k≤S.length∧fr= [(2,.ptr 0 0),(3,.ptr 1 0),(5,.sc (.int .i64 k))]∧st=⟨[(1,tabO s' t' u' r' S N M),(0,tabO s t u r S N M)],2,0⟩) S.length ?_ ⟨_,_,.refl _ _,0,by omega,Nat.zero_le _,rfl,rfl⟩ ?_
 ·rw[hrn];unfold many;omega
 rintro m fr st ⟨k,rfl,hk,rfl,rfl⟩
 by_cases hlt:k<S.length
 ·generalize hX:S[k]! =X at*
  repeat' (first|(simp (disch:=first|omega|assumption|exact bd (by with_unfolding_all rfl)|exact Or.inl rfl|exact Or.inl trivial|exact okL_map _ (fun _=>rfl) _|(simp only[VVlen]<;>omega)|fail) only[VV0,VV1,VV2,VV3,VV4,VV5,VV6,VV7,VV8,VV9,mkFnV,vargs,slotsL,opdsA,Nat.reduceEqDiff,Nat.reduceLT,Nat.reduceAdd,Nat.reduceBEq,Int.reduceAdd,Int.reduceSub,Int.reduceLT,Int.reduceLE,Int.reduceEq,Int.reduceNeg,↓reduceIte,reduceCtorEq,scL,scD,expand,List.replicate,c14l2,sD_dv,hX])|apply gC_drawW|((first|apply gI_dec|apply gG_dec|apply gPG_dec|apply gI_var|apply gG_var|apply gPG_var)<;>intro _))
  all_goals try (exfalso;omega)
  exact ⟨_,_,_,by omega,.refl _ _,k+1,rfl,hlt,rfl,rfl⟩
 have:k=S.length:=by omega
 subst this
 repeat' (first|(simp (disch:=first|omega|assumption|exact bd (by with_unfolding_all rfl)|exact Or.inl rfl|exact Or.inl trivial|exact okL_map _ (fun _=>rfl) _|(simp only[VVlen]<;>omega)|fail) only[VV0,VV1,VV2,VV3,VV4,VV5,VV6,VV7,VV8,VV9,mkFnV,vargs,slotsL,opdsA,Nat.reduceEqDiff,Nat.reduceLT,Nat.reduceAdd,Nat.reduceBEq,Int.reduceAdd,Int.reduceSub,Int.reduceLT,Int.reduceLE,Int.reduceEq,Int.reduceNeg,↓reduceIte,reduceCtorEq,scL,scD,expand,List.replicate,c14l2])|apply gC_drawW|((first|apply gI_dec|apply gG_dec|apply gPG_dec|apply gI_var|apply gG_var|apply gPG_var)<;>intro _))
 all_goals try (exfalso;omega)
 refine g_while (fun m fr st=>∃ k:Nat,m=N.length - k∧k≤N.length∧fr= [(2,.ptr 0 0),(3,.ptr 1 0),(6,.sc (.int .i64 k))]∧st=⟨[(1,tabO s' t' u' r' S N M),(0,tabO s t u r S N M)],2,0⟩) N.length ?_ ⟨_,_,.refl _ _,0,by omega,Nat.zero_le _,rfl,rfl⟩ ?_
 ·rw[hrn];unfold many;omega
 rintro m fr st ⟨k,rfl,hk,rfl,rfl⟩
 by_cases hlt:k<N.length
 ·generalize hX:N[k]! =X at*
  repeat' (first|(simp (disch:=first|omega|assumption|exact bd (by with_unfolding_all rfl)|exact Or.inl rfl|exact Or.inl trivial|exact okL_map _ (fun _=>rfl) _|(simp only[VVlen]<;>omega)|fail) only[VV0,VV1,VV2,VV3,VV4,VV5,VV6,VV7,VV8,VV9,mkFnV,vargs,slotsL,opdsA,Nat.reduceEqDiff,Nat.reduceLT,Nat.reduceAdd,Nat.reduceBEq,Int.reduceAdd,Int.reduceSub,Int.reduceLT,Int.reduceLE,Int.reduceEq,Int.reduceNeg,↓reduceIte,reduceCtorEq,scL,scD,expand,List.replicate,c14l1,sD_dv,hX])|apply gC_drawW|((first|apply gI_dec|apply gG_dec|apply gPG_dec|apply gI_var|apply gG_var|apply gPG_var)<;>intro _))
  all_goals try (exfalso;omega)
  exact ⟨_,_,_,by omega,.refl _ _,k+1,rfl,hlt,rfl,rfl⟩
 have:k=N.length:=by omega
 subst this
 repeat' (first|(simp (disch:=first|omega|assumption|exact bd (by with_unfolding_all rfl)|exact Or.inl rfl|exact Or.inl trivial|exact okL_map _ (fun _=>rfl) _|(simp only[VVlen]<;>omega)|fail) only[VV0,VV1,VV2,VV3,VV4,VV5,VV6,VV7,VV8,VV9,mkFnV,vargs,slotsL,opdsA,Nat.reduceEqDiff,Nat.reduceLT,Nat.reduceAdd,Nat.reduceBEq,Int.reduceAdd,Int.reduceSub,Int.reduceLT,Int.reduceLE,Int.reduceEq,Int.reduceNeg,↓reduceIte,reduceCtorEq,scL,scD,expand,List.replicate,c14l1])|apply gC_drawW|((first|apply gI_dec|apply gG_dec|apply gPG_dec|apply gI_var|apply gG_var|apply gPG_var)<;>intro _))
 all_goals try (exfalso;omega)
 refine g_while (fun m fr st=>∃ k:Nat,m=M.length - k∧k≤M.length∧fr= [(2,.ptr 0 0),(3,.ptr 1 0),(7,.sc (.int .i64 k))]∧st=⟨[(1,tabO s' t' u' r' S N M),(0,tabO s t u r S N M)],2,0⟩) M.length ?_ ⟨_,_,.refl _ _,0,by omega,Nat.zero_le _,rfl,rfl⟩ ?_
 ·rw[hrn];unfold many;omega
 rintro m fr st ⟨k,rfl,hk,rfl,rfl⟩
 by_cases hlt:k<M.length
 ·have hsm:=same36_p w n r r' M[k]! (m6 k hlt)
  generalize hX:M[k]! =X at*
  repeat' (first|(simp (disch:=first|omega|assumption|exact bd (by with_unfolding_all rfl)|exact Or.inl rfl|exact Or.inl trivial|exact okL_map _ (fun _=>rfl) _|(simp only[VVlen]<;>omega)|fail) only[VV0,VV1,VV2,VV3,VV4,VV5,VV6,VV7,VV8,VV9,mkFnV,vargs,slotsL,opdsA,Nat.reduceEqDiff,Nat.reduceLT,Nat.reduceAdd,Nat.reduceBEq,Int.reduceAdd,Int.reduceSub,Int.reduceLT,Int.reduceLE,Int.reduceEq,Int.reduceNeg,↓reduceIte,reduceCtorEq,scL,scD,expand,List.replicate,c14l0,rowI_dv,hX])|apply gC_drawW|((first|apply gI_dec|apply gG_dec|apply gPG_dec|apply gI_var|apply gG_var|apply gPG_var)<;>intro _))
  all_goals try (exfalso;omega)
  refine callV_flat (by rw[hC];exact hsm.flat rfl rfl) ?_
  repeat' (first|(simp (disch:=first|omega|assumption|exact bd (by with_unfolding_all rfl)|exact Or.inl rfl|exact Or.inl trivial|exact okL_map _ (fun _=>rfl) _|(simp only[VVlen]<;>omega)|fail) only[VV0,VV1,VV2,VV3,VV4,VV5,VV6,VV7,VV8,VV9,mkFnV,vargs,slotsL,opdsA,Nat.reduceEqDiff,Nat.reduceLT,Nat.reduceAdd,Nat.reduceBEq,Int.reduceAdd,Int.reduceSub,Int.reduceLT,Int.reduceLE,Int.reduceEq,Int.reduceNeg,↓reduceIte,reduceCtorEq,scL,scD,expand,List.replicate])|apply gC_drawW|((first|apply gI_dec|apply gG_dec|apply gPG_dec|apply gI_var|apply gG_var|apply gPG_var)<;>intro _))
  exact ⟨_,_,_,by omega,.refl _ _,k+1,rfl,hlt,rfl,rfl⟩
 have:k=M.length:=by omega
 subst this
 repeat' (first|(simp (disch:=first|omega|assumption|exact bd (by with_unfolding_all rfl)|exact Or.inl rfl|exact Or.inl trivial|exact okL_map _ (fun _=>rfl) _|(simp only[VVlen]<;>omega)|fail) only[VV0,VV1,VV2,VV3,VV4,VV5,VV6,VV7,VV8,VV9,mkFnV,vargs,slotsL,opdsA,Nat.reduceEqDiff,Nat.reduceLT,Nat.reduceAdd,Nat.reduceBEq,Int.reduceAdd,Int.reduceSub,Int.reduceLT,Int.reduceLE,Int.reduceEq,Int.reduceNeg,↓reduceIte,reduceCtorEq,scL,scD,expand,List.replicate,c14l0])|apply gC_drawW|((first|apply gI_dec|apply gG_dec|apply gPG_dec|apply gI_var|apply gG_var|apply gPG_var)<;>intro _))
 all_goals try (exfalso;omega)
 exact weak_flat rfl h0 rfl
end
section
variable (w:World) (n:Nat)
def withL {α:Type} (l:List α) (at_:Nat) (x:α):List α:=l.take at_++x::l.drop at_
theorem withi_p (s:Nat) (l:List Int) (k:Nat) (x:Int) (hl:l.length≤1000000) (h0:0<k) (hk:k≤l.length):VSpec (EN w (n+1)) 61 [intsV s l,.sc (.int .i64 k),.sc (.int .i64 x)] (.gr 2 0 (l.length+1)) ⟨[(0,.gro 3 1 false ((withL l k x).map iD))],1,0⟩:=by
 refine vspec_g rfl rfl (fun _ _=>rfl) (Nat.le_of_ble_eq_true rfl) (oldVals w) (retOK_gr (by constructor<;>intro h<;>simp[withL] at h)) rfl fun C hC h0=>?_
 have s1:∀ H:VHp,srcOf H 1 (.sl (kindS s) k (List.map iD (List.take (k - 0) l)))=some (k,(l.take k).map iD,[]):=fun H=>by
  rw[Nat.sub_zero];exact srcOf_sl H 1 _ k _ (by simp;omega)
 have hkl:((l.take k).map iD).length=k:=by simp;omega
 have ok1:okL ((l.take k).map iD)=true:=okL_map _ (fun _=>rfl) _
 have s2:∀ H:VHp,srcOf H 1 (.sl (kindS s) (l.length - k) (List.map iD (List.take (l.length - k) (List.drop k l))))=some (l.length - k,(l.drop k).map iD,[]):=fun H=>by
  rw[List.take_of_length_le (by simp)];exact srcOf_sl H 1 _ _ _ (by simp)
 have hkd:((l.drop k).map iD).length=l.length - k:=by simp
 have ok2:okL ((l.drop k).map iD)=true:=okL_map _ (fun _=>rfl) _
 have hk1:((l.take k).map iD++ [D.sc (.int .i64 x)]).length=k+1:=by rw[List.length_append,hkl];rfl
 have ok3:okL ((l.take k).map iD++ [D.sc (.int .i64 x)])=true:=by simp only[okL,List.all_append,Bool.and_eq_true];exact ⟨ok1,rfl⟩
 have ew:(l.take k).map iD++ [D.sc (.int .i64 x)]++(l.drop k).map iD=(withL l k x).map iD:=by simp[withL,iD]
 repeat' (first|(simp (disch:=first|omega|assumption|exact bd (by with_unfolding_all rfl)|exact Or.inl rfl|exact Or.inl trivial|exact okL_map _ (fun _=>rfl) _|(simp only[VVlen]<;>omega)|fail) only[VV0,VV1,VV2,VV3,VV4,VV5,VV6,VV7,VV8,VV9,mkFnV,vargs,slotsL,opdsA,Nat.reduceEqDiff,Nat.reduceLT,Nat.reduceAdd,Nat.reduceBEq,Int.reduceAdd,Int.reduceSub,Int.reduceLT,Int.reduceLE,Int.reduceEq,Int.reduceNeg,↓reduceIte,reduceCtorEq,scL,scD,expand,List.replicate,c61,s1,s2,vd_app,dAppX_gr,dApp_gr,dAppO_one])|apply gC_drawW|((first|apply gI_dec|apply gG_dec|apply gPG_dec|apply gI_var|apply gG_var|apply gPG_var)<;>intro _))
 rw[ew,show k+1+(l.length - k)=l.length+1 by omega]
 exact weak_to [(4,0)] 1 h0 rfl rfl rfl rfl
theorem withs_p (s:Nat) (l:List (List UInt8)) (k:Nat) (x:List UInt8) (hl:l.length≤1000000) (h0:0<k) (hk:k≤l.length):VSpec (EN w (n+1)) 62 [strs s l,.sc (.int .i64 k),strV x] (.gr 2 0 (l.length+1)) ⟨[(0,.gro 9 1 false ((withL l k x).map sD))],1,0⟩:=by
 refine vspec_g rfl rfl (fun _ _=>rfl) (Nat.le_of_ble_eq_true rfl) (oldVals w) (retOK_gr (by constructor<;>intro h<;>simp[withL] at h)) rfl fun C hC h0=>?_
 have s1:∀ H:VHp,srcOf H 1 (.sl (kindS s) k (List.map sD (List.take (k - 0) l)))=some (k,(l.take k).map sD,[]):=fun H=>by
  rw[Nat.sub_zero];exact srcOf_sl H 1 _ k _ (by simp;omega)
 have hkl:((l.take k).map sD).length=k:=by simp;omega
 have ok1:okL ((l.take k).map sD)=true:=okL_map _ (fun _=>rfl) _
 have s2:∀ H:VHp,srcOf H 1 (.sl (kindS s) (l.length - k) (List.map sD (List.take (l.length - k) (List.drop k l))))=some (l.length - k,(l.drop k).map sD,[]):=fun H=>by
  rw[List.take_of_length_le (by simp)];exact srcOf_sl H 1 _ _ _ (by simp)
 have hkd:((l.drop k).map sD).length=l.length - k:=by simp
 have ok2:okL ((l.drop k).map sD)=true:=okL_map _ (fun _=>rfl) _
 have hk1:((l.take k).map sD++ [D.sc (.string ⟨x.toArray⟩)]).length=k+1:=by rw[List.length_append,hkl];rfl
 have ok3:okL ((l.take k).map sD++ [D.sc (.string ⟨x.toArray⟩)])=true:=by simp only[okL,List.all_append,Bool.and_eq_true];exact ⟨ok1,rfl⟩
 have ew:(l.take k).map sD++ [D.sc (.string ⟨x.toArray⟩)]++(l.drop k).map sD=(withL l k x).map sD:=by simp[withL,sD]
 repeat' (first|(simp (disch:=first|omega|assumption|exact bd (by with_unfolding_all rfl)|exact Or.inl rfl|exact Or.inl trivial|exact okL_map _ (fun _=>rfl) _|(simp only[VVlen]<;>omega)|fail) only[VV0,VV1,VV2,VV3,VV4,VV5,VV6,VV7,VV8,VV9,mkFnV,vargs,slotsL,opdsA,Nat.reduceEqDiff,Nat.reduceLT,Nat.reduceAdd,Nat.reduceBEq,Int.reduceAdd,Int.reduceSub,Int.reduceLT,Int.reduceLE,Int.reduceEq,Int.reduceNeg,↓reduceIte,reduceCtorEq,scL,scD,expand,List.replicate,c62,s1,s2,vd_app,dAppX_gr,dApp_gr,dAppO_one])|apply gC_drawW|((first|apply gI_dec|apply gG_dec|apply gPG_dec|apply gI_var|apply gG_var|apply gPG_var)<;>intro _))
 rw[ew,show k+1+(l.length - k)=l.length+1 by omega]
 exact weak_to [(4,0)] 1 h0 rfl rfl rfl rfl
end
abbrev iN (k:Int):V:= .sc (.int .i64 k)
abbrev nilS:V:= .sc (.slice none 0 0)
def putH (S N:List (List UInt8)) (M:List (List Int)) (at_:Nat) (q:Nat) (B:List Int) (j:Int):VHp:= [(4,.box 3 1 [iN j]),(3,.box 25 1 [nilS,nilS,nilS]),(2,.box 40 1 [intsV q B]),(1,.box 3 1 [iN at_]),(0,tabO 3 3 3 1 S N M)]
def rowsP (M:List (List Int)) (at_:Nat) (B:List Int) (j:Nat):List D:=(List.range j).map (fun i=>rowI 2 (withL M[i]! at_ B[i]!))++List.replicate (M.length - j) (.sc (.slice none 0 0))
section
variable (w:World) (n:Nat)
theorem withiF (s:Nat) (l:List Int) (k:Nat) (x:Int) (hl:l.length≤1000000) (h0:0<k) (hk:k≤l.length):VSpec (EN w (n+1)) 61 [intsV s l,iN k,iN x] (.sl 2 (l.length+1) ((withL l k x).map iD)) ⟨[],0,0⟩:=
 (withi_p w n s l k x hl h0 hk).fin (snap_grD rfl (by simp[withL];omega)) rfl rfl rfl (fun h=>h)
theorem put1_w {C:Ctx} (hC:C.E=EN w (n+2)) (S N:List (List UInt8)) (M:List (List Int)) (at_ q:Nat) (B:List Int) (k:Nat) (R:List D) (hat:0<at_) (hB:B.length=M.length) (hk:k<M.length) (hr:at_≤M[k]!.length) (hl:M[k]!.length≤1000000) (hM:M.length≤1000000):
 CallV C 60 [.sl 1 M[k]!.length (M[k]!.map iD),.ptr 4 0,.ptr 1 0,.ptr 2 0] ⟨(11,.row 40 1 false false R)::(10,.gro 9 1 false (N.map sD))::(8,.gro 9 1 false (S.map sD))::(6,.box 25 1 [nilS,nilS,nilS])::(5,tabO 3 3 3 1 S N M)::putH S N M at_ q B (k - 1),13,0⟩
  fun v' st'=>v'= .sl 2 (M[k]!.length+1) ((withL M[k]! at_ B[k]!).map iD)∧st'=⟨(11,.row 40 1 false false R)::(10,.gro 9 1 false (N.map sD))::(8,.gro 9 1 false (S.map sD))::(6,.box 25 1 [nilS,nilS,nilS])::(5,tabO 3 3 3 1 S N M)::putH S N M at_ q B k,13,0⟩:=by
 refine callV_w (prims:=PR w) hC rfl rfl (fun _ _=>rfl) (Nat.le_of_ble_eq_true rfl) ⟨rfl,rfl⟩ fun C' hC' hn=>?_
 have hw:=withiF w n 1 M[k]! at_ B[k]! hl hat hr
 have hkB:k<B.length:=by omega
 have e1:((k:Int) - 1+1)=k:=by omega
 generalize hx:M[k]! =X at*
 generalize hy:B[k]! =y at*
 repeat' (first|(simp (disch:=first|omega|assumption|exact bd (by with_unfolding_all rfl)|exact Or.inl rfl|exact Or.inl trivial|exact okL_map _ (fun _=>rfl) _|(simp only[VVlen]<;>omega)|fail) only[VV0,VV1,VV2,VV3,VV4,VV5,VV6,VV7,VV8,VV9,mkFnV,vargs,slotsL,opdsA,Nat.reduceEqDiff,Nat.reduceLT,Nat.reduceAdd,Nat.reduceBEq,Int.reduceAdd,Int.reduceSub,Int.reduceLT,Int.reduceLE,Int.reduceEq,Int.reduceNeg,↓reduceIte,reduceCtorEq,scL,scD,expand,List.replicate,c60,putH,e1,iD_dv,hy])|apply gC_drawW|((first|apply gI_dec|apply gG_dec|apply gPG_dec|apply gI_var|apply gG_var|apply gPG_var)<;>intro _))
 refine callV_fin (by rw[hC'];exact hw) rfl rfl (fun _=>rfl) ?_
 exact .refl _ _
end
set_option maxHeartbeats 4000000
section
variable (w:World) (n:Nat)
theorem gL_weak {C:Ctx} {ks:List Nat} {b:AC} {K:List KF} {fr fr':VFr} {st st':VSt} {P:VPost} (hw:Weak C fr st fr' st') (h:gL C ks b K fr' st' P):gL C ks b K fr st P:=fun frI s hr=>h frI s (hw s frI hr)
def eachH (S N:List (List UInt8)) (M:List (List Int)) (R:List D):VHp→VHp:=fun r=>(12,.box 25 1 [.gr 2 8 S.length,.gr 2 10 N.length,.ref 11 0 M.length M.length])::(11,.row 40 1 false false R)::(10,.gro 9 1 false (N.map sD))::(8,.gro 9 1 false (S.map sD))::(6,.box 25 1 [nilS,nilS,nilS])::(5,tabO 3 3 3 1 S N M)::r
theorem rowsP_zero (M:List (List Int)) (at_:Nat) (B:List Int):rowsP M at_ B 0=List.replicate M.length (.sc (.slice none 0 0)):=by simp[rowsP]
theorem rowsP_len (M:List (List Int)) (at_:Nat) (B:List Int) (j:Nat) (h:j≤M.length):(rowsP M at_ B j).length=M.length:=by simp[rowsP];omega
theorem rowsP_set (M:List (List Int)) (at_:Nat) (B:List Int) (j:Nat) (h:j<M.length):(rowsP M at_ B j).set j (rowI 2 (withL M[j]! at_ B[j]!))=rowsP M at_ B (j+1):=by
 unfold rowsP
 rw[List.set_append_right _ _ (by simp),List.range_succ,List.map_append,List.append_assoc]
 congr 1
 rw[show M.length - j=(M.length - (j+1))+1 by omega,List.replicate_succ]
 simp
theorem each1_w {C:Ctx} (hC:C.E=EN w (n+3)) (S N:List (List UInt8)) (M:List (List Int)) (at_ q:Nat) (B:List Int) (hat:0<at_) (hB:B.length=M.length) (hr:∀ k,k<M.length→at_≤M[k]!.length) (hl:∀ k,k<M.length→M[k]!.length≤1000000) (hM:M.length≤1000000) (hS:S.length≤1000000) (hN:N.length≤1000000) (hS0:0<S.length) (hN0:0<N.length):
 CallV C 49 [tableV 3 3 3 1 S N M,.fn 60 [] [.ptr 4 0,.ptr 1 0,.ptr 2 0]] ⟨putH S N M at_ q B (-1),5,0⟩
  fun v' st'=>v'= .agg [.gr 2 5 S.length,.gr 2 6 N.length,.ref 7 0 M.length M.length]∧st'=⟨(7,.row 40 1 false false (rowsP M at_ B M.length))::(6,.gro 9 1 false (N.map sD))::(5,.gro 9 1 false (S.map sD))::putH S N M at_ q B (M.length - 1),8,0⟩:=by
 refine callV_w (prims:=PR w) hC rfl rfl (fun _ _=>rfl) (Nat.le_of_ble_eq_true rfl) ⟨rfl,rfl⟩ fun C' hC' hn=>?_
 replace hn:C'.w0.nx=5:=hn
 have s1:∀ H:VHp,srcOf H 1 (strs 3 S)=some (S.length,S.map sD,[]):=fun H=>srcOf_sl H 1 _ _ _ (by simp)
 have s2:∀ H:VHp,srcOf H 1 (strs 3 N)=some (N.length,N.map sD,[]):=fun H=>srcOf_sl H 1 _ _ _ (by simp)
 have okS:okL (S.map sD)=true:=okL_map _ (fun _=>rfl) _
 have okN:okL (N.map sD)=true:=okL_map _ (fun _=>rfl) _
 have nS:S.length ≠ 0:=by omega
 have nN:N.length ≠ 0:=by omega
 repeat' (first|(simp (disch:=first|omega|assumption|exact bd (by with_unfolding_all rfl)|exact Or.inl rfl|exact Or.inl trivial|exact okL_map _ (fun _=>rfl) _|(simp only[VVlen]<;>omega)|fail) only[VV0,VV1,VV2,VV3,VV4,VV5,VV6,VV7,VV8,VV9,mkFnV,vargs,slotsL,opdsA,Nat.reduceEqDiff,Nat.reduceLT,Nat.reduceAdd,Nat.reduceBEq,Int.reduceAdd,Int.reduceSub,Int.reduceLT,Int.reduceLE,Int.reduceEq,Int.reduceNeg,↓reduceIte,reduceCtorEq,scL,scD,expand,List.replicate,c49,putH,s1,s2])|apply gC_drawW|((first|apply gI_dec|apply gG_dec|apply gPG_dec|apply gI_var|apply gG_var|apply gPG_var)<;>intro _))
 rw[← rowsP_zero M at_ B]
 refine gL_weak (weak_toB [(12,12),(11,11),(10,10),(8,8),(6,6),(5,5),(4,4),(3,3),(2,2),(1,1),(0,0)] 13 (by omega) rfl (by rw[hn];rfl) rfl rfl) ?_
 refine g_while (fun m fr st=>∃ j:Nat,m=M.length - j∧j≤M.length∧fr= [(1,.fn 60 [] [.ptr 4 0,.ptr 1 0,.ptr 2 0]),(4,.ptr 6 0),(5,.ptr 12 0),(22,rowsV 3 1 M),(23,iN M.length),(24,iN j)]∧
  st=⟨eachH S N M (rowsP M at_ B j) (putH S N M at_ q B (j - 1)),13,0⟩) M.length ?_ ⟨_,_,?_,0,by omega,Nat.zero_le _,rfl,rfl⟩ ?_
 ·rw[hC',callP_rounds];unfold many;omega
 ·exact .refl _ _
 rintro m fr st ⟨j,rfl,hj,rfl,rfl⟩
 by_cases hlt:j<M.length
 ·have hp:=fun C'' (h'':C''.E=C'.E)=>put1_w w n (C:=C'') (by rw[h'',hC']) S N M at_ q B j (rowsP M at_ B j) hat hB hlt (hr j hlt) (hl j hlt) hM
  simp (disch:=first|omega|assumption|exact bd (by with_unfolding_all rfl)|exact Or.inl rfl|exact Or.inl trivial|exact okL_map _ (fun _=>rfl) _|(simp only[VVlen]<;>omega)|fail) only[VV0,VV1,VV2,VV3,VV4,VV5,VV6,VV7,VV8,VV9,mkFnV,vargs,slotsL,opdsA,Nat.reduceEqDiff,Nat.reduceLT,Nat.reduceAdd,Nat.reduceBEq,Int.reduceAdd,Int.reduceSub,Int.reduceLT,Int.reduceLE,Int.reduceEq,Int.reduceNeg,↓reduceIte,reduceCtorEq,scL,scD,expand,List.replicate,c49l0,eachH,putH]
  refine gC_drawWC (l:= [⟨⟨some 29,none,.fldA 2 (.tmp 5)⟩,[],none⟩,⟨⟨some 30,none,.load none (.tmp 29)⟩,[],none⟩,⟨⟨some 31,none,.mov (.tmp 6)⟩,[0,1],none⟩,⟨⟨some 32,none,.mov (.tmp 1)⟩,[0,1,2],none⟩,⟨⟨some 33,none,.mov (.tmp 7)⟩,[0,1,2,3],none⟩])
   (o:=12) (k:=0) rfl rfl (by decide) ⟨_,rfl,rfl⟩ ?_
  simp (disch:=first|omega|assumption|exact bd (by with_unfolding_all rfl)|exact Or.inl rfl|exact Or.inl trivial|exact okL_map _ (fun _=>rfl) _|(simp only[VVlen]<;>omega)|fail) only[VV0,VV1,VV2,VV3,VV4,VV5,VV6,VV7,VV8,VV9,mkFnV,vargs,slotsL,opdsA,Nat.reduceEqDiff,Nat.reduceLT,Nat.reduceAdd,Nat.reduceBEq,Int.reduceAdd,Int.reduceSub,Int.reduceLT,Int.reduceLE,Int.reduceEq,Int.reduceNeg,↓reduceIte,reduceCtorEq,scL,scD,expand,List.replicate,wpD_cons,wpDV_some,wpD_nil]
  refine ⟨_,_,_,_,_,_,_,rfl,rfl,rfl,?_,rfl,rfl,rfl,rfl,rfl,Nat.zero_le _,?_,?_,fun C'' h'' _=>hp C'' h'',?_⟩
  ·intro ys s;rw[hC'];rfl
  ·rfl
  ·exact noH_get rfl
  ·have hL:=rowsP_len M at_ B j hj
   have hset:=rowsP_set M at_ B j hlt
   unfold rowI at hset
   rw[show (withL M[j]! at_ B[j]!).length=M[j]!.length+1 by have:=hr j hlt;simp[withL];try omega] at hset
   repeat' (first|(simp (disch:=first|omega|assumption|exact bd (by with_unfolding_all rfl)|exact Or.inl rfl|exact Or.inl trivial|exact okL_map _ (fun _=>rfl) _|(simp only[VVlen]<;>omega)|fail) only[VV0,VV1,VV2,VV3,VV4,VV5,VV6,VV7,VV8,VV9,mkFnV,vargs,slotsL,opdsA,Nat.reduceEqDiff,Nat.reduceLT,Nat.reduceAdd,Nat.reduceBEq,Int.reduceAdd,Int.reduceSub,Int.reduceLT,Int.reduceLE,Int.reduceEq,Int.reduceNeg,↓reduceIte,reduceCtorEq,scL,scD,expand,List.replicate,putH,hset])|apply gC_drawW|((first|apply gI_dec|apply gG_dec|apply gPG_dec|apply gI_var|apply gG_var|apply gPG_var)<;>intro _))
   exact ⟨_,_,_,by omega,.refl _ _,j+1,rfl,hlt,rfl,by rw[show ((j+1:Nat):Int) - 1=j by omega];try rfl⟩
 ·have:j=M.length:=by omega
  subst this
  repeat' (first|(simp (disch:=first|omega|assumption|exact bd (by with_unfolding_all rfl)|exact Or.inl rfl|exact Or.inl trivial|exact okL_map _ (fun _=>rfl) _|(simp only[VVlen]<;>omega)|fail) only[VV0,VV1,VV2,VV3,VV4,VV5,VV6,VV7,VV8,VV9,mkFnV,vargs,slotsL,opdsA,Nat.reduceEqDiff,Nat.reduceLT,Nat.reduceAdd,Nat.reduceBEq,Int.reduceAdd,Int.reduceSub,Int.reduceLT,Int.reduceLE,Int.reduceEq,Int.reduceNeg,↓reduceIte,reduceCtorEq,scL,scD,expand,List.replicate,c49l0,eachH,putH])|apply gC_drawW|((first|apply gI_dec|apply gG_dec|apply gPG_dec|apply gI_var|apply gG_var|apply gPG_var)<;>intro _))
  exact weak_toB [(11,7),(10,6),(8,5),(4,4),(3,3),(2,2),(1,1),(0,0)] 8 (by omega) rfl (by rw[hn];rfl) rfl rfl
end
def rowsW (M:List (List Int)) (at_:Nat) (B:List Int):List (List Int):=(List.range M.length).map fun i=>withL M[i]! at_ B[i]!
theorem rowsP_all (M:List (List Int)) (at_:Nat) (B:List Int):rowsP M at_ B M.length=(rowsW M at_ B).map (rowI 2):=by
 simp[rowsP,rowsW,Function.comp_def]
theorem rowsW_len (M:List (List Int)) (at_:Nat) (B:List Int):(rowsW M at_ B).length=M.length:=by simp[rowsW]
section
variable (w:World) (n:Nat)
theorem finA {C:Ctx} {st:VSt} {v v':V} (hs:snapV st.own v=some v') (hrow:rowsB st.ro st.own (fzS v)=true) (hro:st.ro=0) (hren:vren [] v'=v') (h0:C.w0.nx=0):Weak C [(0,v)] st [(0,v')] ⟨[],0,0⟩:=
 (weak_snap (t:=0) rfl hs hrow).trans (weak_to [] 0 h0 hro rfl (by show renF [] [(0,v')]=_;rw[renF_cons,renF_nil,hren]) rfl)
theorem snap_3 {H:VHp} {a b c a' b' c':V} (h1:snapV H a=some a') (h2:snapV H b=some b') (h3:snapV H c=some c'):snapV H (.agg [a,b,c])=some (.agg [a',b',c']):=by
 simp only[snapV,snapL,h1,h2,h3,Option.bind_some,Option.map_some]
theorem put_p (S N:List (List UInt8)) (M:List (List Int)) (at_ q:Nat) (B:List Int) (x:List UInt8) (hat:0<at_) (hB:B.length=M.length) (hr:∀ k,k<M.length→at_≤M[k]!.length) (hl:∀ k,k<M.length→M[k]!.length≤1000000) (hM:M.length≤1000000) (hS:S.length≤1000000) (hN:N.length≤1000000) (hS0:0<S.length) (hN0:0<N.length) (hSa:at_≤S.length):
 VSpec (EN w (n+4)) 46 [tableV 3 3 3 1 S N M,iN at_,strV x,intsV q B] (tableV 2 2 0 2 (withL S at_ x) N (rowsW M at_ B)) ⟨[],0,0⟩:=by
 refine vspec_g rfl rfl (fun _ _=>rfl) (Nat.le_of_ble_eq_true rfl) (oldVals w) (retOK_nil (by simp only[Cl,ClL,and_true,true_and];trivial)) rfl fun C hC h0=>?_
 obtain ⟨v,st',⟨rfl,rfl⟩,he⟩:=each1_w w n hC S N M at_ q B hat hB hr hl hM hS hN hS0 hN0
 have hw:=withs_p w (n+2) 3 S at_ x hS hat hSa
 have eS:(withL S at_ x).length=S.length+1:=by simp[withL];omega
 have eM:=rowsW_len M at_ B
 repeat' (first|(simp (disch:=first|omega|assumption|exact bd (by with_unfolding_all rfl)|exact Or.inl rfl|exact Or.inl trivial|exact okL_map _ (fun _=>rfl) _|(simp only[VVlen]<;>omega)|fail) only[VV0,VV1,VV2,VV3,VV4,VV5,VV6,VV7,VV8,VV9,mkFnV,vargs,slotsL,opdsA,Nat.reduceEqDiff,Nat.reduceLT,Nat.reduceAdd,Nat.reduceBEq,Int.reduceAdd,Int.reduceSub,Int.reduceLT,Int.reduceLE,Int.reduceEq,Int.reduceNeg,↓reduceIte,reduceCtorEq,scL,scD,expand,List.replicate,c46])|apply gC_drawW|((first|apply gI_dec|apply gG_dec|apply gPG_dec|apply gI_var|apply gG_var|apply gPG_var)<;>intro _))
 refine ⟨_,_,?_,he⟩
 rw[rowsP_all]
 repeat' (first|(simp (disch:=first|omega|assumption|exact bd (by with_unfolding_all rfl)|exact Or.inl rfl|exact Or.inl trivial|exact okL_map _ (fun _=>rfl) _|(simp only[VVlen]<;>omega)|fail) only[VV0,VV1,VV2,VV3,VV4,VV5,VV6,VV7,VV8,VV9,mkFnV,vargs,slotsL,opdsA,Nat.reduceEqDiff,Nat.reduceLT,Nat.reduceAdd,Nat.reduceBEq,Int.reduceAdd,Int.reduceSub,Int.reduceLT,Int.reduceLE,Int.reduceEq,Int.reduceNeg,↓reduceIte,reduceCtorEq,scL,scD,expand,List.replicate,putH])|apply gC_drawW|((first|apply gI_dec|apply gG_dec|apply gPG_dec|apply gI_var|apply gG_var|apply gPG_var)<;>intro _))
 refine callV_of (by rw[hC];exact hw) rfl rfl rfl ?_
 repeat' (first|(simp (disch:=first|omega|assumption|exact bd (by with_unfolding_all rfl)|exact Or.inl rfl|exact Or.inl trivial|exact okL_map _ (fun _=>rfl) _|(simp only[VVlen]<;>omega)|fail) only[VV0,VV1,VV2,VV3,VV4,VV5,VV6,VV7,VV8,VV9,mkFnV,vargs,slotsL,opdsA,Nat.reduceEqDiff,Nat.reduceLT,Nat.reduceAdd,Nat.reduceBEq,Int.reduceAdd,Int.reduceSub,Int.reduceLT,Int.reduceLE,Int.reduceEq,Int.reduceNeg,↓reduceIte,reduceCtorEq,scL,scD,expand,List.replicate,vsh,vshL,shH,shO,fzSL,fzS,frozA_none])|apply gC_drawW|((first|apply gI_dec|apply gG_dec|apply gPG_dec|apply gI_var|apply gG_var|apply gPG_var)<;>intro _))
 refine finA (snap_3 (a':=strs 2 (withL S at_ x)) (b':=strs 2 N) (c':=rowsV 0 2 (rowsW M at_ B)) ?_ (snap_grD (n:=N.length) (l:=N.map sD) rfl (by simp)) ?_) rfl rfl rfl h0
 ·rw[show strs 2 (withL S at_ x)= .sl 2 (S.length+1) ((withL S at_ x).map sD) by rw[← eS]]
  exact snap_grD rfl (by simp[eS])
 ·rw[show rowsV 0 2 (rowsW M at_ B)= .sl 0 M.length ((rowsW M at_ B).map (rowI 2)) by rw[← eM]]
  exact snap_refD rfl (by simp[eM])
end
structure Val (S N:List (List UInt8)) (M:List (List Int)):Prop where
 s:S.length≤20
 n:N.length≤30
 ws:wordsS S=true
 wn:wordsS N=true
 sz:¬ 0≤placeG N sizeL N.length
 m:M.length=N.length
 r:∀ k,k<M.length→rowS M[k]! S.length=true
 ts:twiceS S=false
 tn:twiceS N=false
theorem val_iff (S N:List (List UInt8)) (M:List (List Int)):checkS S N M=0↔Val S N M:=by
 unfold checkS
 constructor
 ·intro h
  split at h
  ·cases h
  rename_i h1
  split at h
  ·cases h
  rename_i h2
  split at h
  ·rename_i h3
   split at h
   ·cases h
   ·rename_i h4
    simp only[not_or,Decidable.not_not] at h2
    simp only[not_or,Bool.not_eq_true] at h4
    exact ⟨by omega,by omega,h2.1,h2.2.1,h2.2.2.1,h2.2.2.2,h3,h4.1,h4.2⟩
  ·cases h
 ·rintro ⟨a,b,c,d,e,f,g,h,i⟩
  rw[if_neg (by omega),if_neg (by simp only[not_or,Decidable.not_not];exact ⟨c,d,e,f⟩),if_pos g,if_neg (by rw[h,i];simp)]
section
variable {S N:List (List UInt8)} {M:List (List Int)} (v:Val S N M)
include v
theorem Val.row {k:Nat} (hk:k<M.length):M[k]!.length=S.length∧∀ j,j<M[k]!.length→0≤M[k]![j]! ∧M[k]![j]! ≤1000000∧(0<j→M[k]![j - 1]! ≤M[k]![j]!):=of_decide_eq_true (v.r k hk)
theorem Val.s1:0<S.length:=((wF_iff S S.length).1 v.ws).1
theorem Val.n1:0<N.length:=((wF_iff N N.length).1 v.wn).1
theorem Val.wsj {j:Nat} (hj:j<S.length):wordS S[j]! =true:=((wF_iff S S.length).1 v.ws).2 j hj
end
def bet (l:List Int) (i:Nat) (num den:Int):Int:=(2*(l[i]! *(den - num)+l[i+1]! *num)+den) / (2*den)
def betL (M:List (List Int)) (i:Nat) (num den:Int):List Int:=M.map fun l=>bet l i num den
def argB (n:Nat) (i num den:Int):Prop:=0≤i∧i<n - 1∧1≤den∧den≤1000∧0≤num∧num≤den
instance (n:Nat) (i num den:Int):Decidable (argB n i num den):=by unfold argB;infer_instance
def isInt (x:Int):Prop:= -9223372036854775808≤x∧x≤9223372036854775807
def fillF (f:Nat→Int) (m j:Nat):List D:=(List.range j).map (fun i=>iD (f i))++List.replicate (m - j) (.sc (.int .i64 0))
theorem fillF_zero (f:Nat→Int) (m:Nat):fillF f m 0=List.replicate m (.sc (.int .i64 0)):=by simp[fillF]
theorem fillF_len (f:Nat→Int) (m j:Nat) (h:j≤m):(fillF f m j).length=m:=by simp[fillF];omega
theorem fillF_set (f:Nat→Int) (m j:Nat) (h:j<m):(fillF f m j).set j (.sc (.int .i64 (f j)))=fillF f m (j+1):=by
 unfold fillF
 rw[List.set_append_right _ _ (by simp),List.range_succ,List.map_append,List.append_assoc]
 congr 1
 rw[show m - j=(m - (j+1))+1 by omega,List.replicate_succ]
 simp[iD]
theorem fillF_all (l:List Int) (g:Int→Int):fillF (fun i=>g l[i]!) l.length l.length=(l.map g).map iD:=by
 simp only[fillF,Nat.sub_self,List.replicate_zero,List.append_nil]
 apply List.ext_getElem
 ·simp
 ·intro i h1 h2
  simp at h1 ⊢
  simp[h1]
theorem fillF_rows (M:List (List Int)) (g:List Int→Int):fillF (fun i=>g M[i]!) M.length M.length=(M.map g).map iD:=by
 simp only[fillF,Nat.sub_self,List.replicate_zero,List.append_nil]
 apply List.ext_getElem
 ·simp
 ·intro i h1 h2
  simp at h1 ⊢
  simp[h1]
section
variable (w:World) (n:Nat)
theorem between_bad (S N:List (List UInt8)) (M:List (List Int)) (hm:Mod S N M) (i num den:Int) (hi:isInt i) (hnum:isInt num) (hden:isInt den) (h:checkS S N M=0) (ha:¬ argB S.length i num den):
 VSpec (EN w (n+4)) 17 [tableV 3 3 3 1 S N M,iN i,iN num,iN den] (.tup [.sl 3 0 [],iN 2]) ⟨[],0,0⟩:=by
 refine vspec_g rfl rfl (fun _ _=>rfl) (Nat.le_of_ble_eq_true rfl) (oldVals w) retOK_fin rfl fun C hC h0=>?_
 have hc:=check_p w n 3 3 3 1 S N M hm
 rw[h] at hc
 have hs:=hm.s
 unfold isInt at hi hnum hden
 unfold argB at ha
 repeat' (first|(simp (disch:=first|omega|assumption|exact bd (by with_unfolding_all rfl)|exact Or.inl rfl|exact Or.inl trivial|exact okL_map _ (fun _=>rfl) _|(simp only[VVlen]<;>omega)|fail) only[VV0,VV1,VV2,VV3,VV4,VV5,VV6,VV7,VV8,VV9,mkFnV,vargs,slotsL,opdsA,Nat.reduceEqDiff,Nat.reduceLT,Nat.reduceAdd,Nat.reduceBEq,Int.reduceAdd,Int.reduceSub,Int.reduceLT,Int.reduceLE,Int.reduceEq,Int.reduceNeg,↓reduceIte,reduceCtorEq,scL,scD,expand,List.replicate,c17])|apply gC_drawW|((first|apply gI_dec|apply gG_dec|apply gPG_dec|apply gI_var|apply gG_var|apply gPG_var)<;>intro _))
 refine callV_flat (by rw[hC];exact hc.flat rfl rfl) ?_
 repeat' (first|(simp (disch:=first|omega|assumption|exact bd (by with_unfolding_all rfl)|exact Or.inl rfl|exact Or.inl trivial|exact okL_map _ (fun _=>rfl) _|(simp only[VVlen]<;>omega)|fail) only[VV0,VV1,VV2,VV3,VV4,VV5,VV6,VV7,VV8,VV9,mkFnV,vargs,slotsL,opdsA,Nat.reduceEqDiff,Nat.reduceLT,Nat.reduceAdd,Nat.reduceBEq,Int.reduceAdd,Int.reduceSub,Int.reduceLT,Int.reduceLE,Int.reduceEq,Int.reduceNeg,↓reduceIte,reduceCtorEq,scL,scD,expand,List.replicate])|apply gC_drawW|((first|apply gI_dec|apply gG_dec|apply gPG_dec|apply gI_var|apply gG_var|apply gPG_var)<;>intro _))
 all_goals try (exfalso;omega)
 all_goals exact weak_finNil h0 rfl
theorem between_p (S N:List (List UInt8)) (M:List (List Int)) (hm:Mod S N M) (i:Nat) (num den:Int) (h:Val S N M) (ha:argB S.length i num den):
 VSpec (EN w (n+4)) 17 [tableV 3 3 3 1 S N M,iN i,iN num,iN den] (.tup [.sl 3 M.length ((betL M i num den).map iD),iN 0]) ⟨[],0,0⟩:=by
 refine vspec_g rfl rfl (fun _ _=>rfl) (Nat.le_of_ble_eq_true rfl) (oldVals w) retOK_fin rfl fun C hC h0=>?_
 have hc:=check_p w n 3 3 3 1 S N M hm
 rw[(val_iff S N M).2 h] at hc
 have hs:=h.s
 have hM:M.length≤30:=by have:=h.m;have:=h.n;omega
 unfold argB at ha
 repeat' (first|(simp (disch:=first|omega|assumption|exact bd (by with_unfolding_all rfl)|exact Or.inl rfl|exact Or.inl trivial|exact okL_map _ (fun _=>rfl) _|(simp only[VVlen]<;>omega)|fail) only[VV0,VV1,VV2,VV3,VV4,VV5,VV6,VV7,VV8,VV9,mkFnV,vargs,slotsL,opdsA,Nat.reduceEqDiff,Nat.reduceLT,Nat.reduceAdd,Nat.reduceBEq,Int.reduceAdd,Int.reduceSub,Int.reduceLT,Int.reduceLE,Int.reduceEq,Int.reduceNeg,↓reduceIte,reduceCtorEq,scL,scD,expand,List.replicate,c17])|apply gC_drawW|((first|apply gI_dec|apply gG_dec|apply gPG_dec|apply gI_var|apply gG_var|apply gPG_var)<;>intro _))
 refine callV_flat (by rw[hC];exact hc.flat rfl rfl) ?_
 repeat' (first|(simp (disch:=first|omega|assumption|exact bd (by with_unfolding_all rfl)|exact Or.inl rfl|exact Or.inl trivial|exact okL_map _ (fun _=>rfl) _|(simp only[VVlen]<;>omega)|fail) only[VV0,VV1,VV2,VV3,VV4,VV5,VV6,VV7,VV8,VV9,mkFnV,vargs,slotsL,opdsA,Nat.reduceEqDiff,Nat.reduceLT,Nat.reduceAdd,Nat.reduceBEq,Int.reduceAdd,Int.reduceSub,Int.reduceLT,Int.reduceLE,Int.reduceEq,Int.reduceNeg,↓reduceIte,reduceCtorEq,scL,scD,expand,List.replicate])|apply gC_drawW|((first|apply gI_dec|apply gG_dec|apply gPG_dec|apply gI_var|apply gG_var|apply gPG_var)<;>intro _))
 all_goals try (exfalso;omega)
 all_goals obtain ⟨F,hF⟩:∃ F:Nat→Int,F=fun k=>bet M[k]! i num den:=⟨_,rfl⟩
 all_goals rw[← fillF_zero F]
 all_goals refine g_while (fun m fr st=>∃ j:Nat,m=M.length - j∧j≤M.length∧fr= [(1,iN i),(2,iN num),(3,iN den),(11,.ref 1 0 M.length M.length),(51,rowsV 3 1 M),(52,iN M.length),(53,iN j)]∧
  st=⟨[(1,.row 3 1 false false (fillF F M.length j)),(0,tabO 3 3 3 1 S N M)],2,0⟩) M.length ?_ ⟨_,_,.refl _ _,0,by omega,Nat.zero_le _,rfl,rfl⟩ ?_
 all_goals try (rw[hC,callP_rounds];unfold many;omega)
 all_goals
  rintro m fr st ⟨j,rfl,hj,rfl,rfl⟩
  by_cases hlt:j<M.length
  ·have hr:=h.row hlt
   have hL:=fillF_len F M.length j hj
   have hset:=fillF_set F M.length j hlt
   rw[show F j=bet M[j]! i num den by rw[hF]] at hset
   generalize hx:M[j]! =X at*
   obtain ⟨x1,x2⟩:=hr
   have ha1:=x2 i (by omega)
   have hb1:=x2 (i+1) (by omega)
   unfold bet at hset
   generalize hA:X[i]! =A at*
   generalize hBB:X[i+1]! =B at*
   have p1:0≤A*(den - num)∧A*(den - num)≤1000000000:=⟨Int.mul_nonneg (by omega) (by omega),by have:=Int.mul_le_mul (show A≤1000000 by omega) (show den - num≤1000 by omega) (by omega) (by omega);omega⟩
   have p2:0≤B*num∧B*num≤1000000000:=⟨Int.mul_nonneg (by omega) (by omega),by have:=Int.mul_le_mul (show B≤1000000 by omega) (show num≤1000 by omega) (by omega) (by omega);omega⟩
   have hne:¬ 2*den=0:=by omega
   have q1:0≤(2*(A*(den - num)+B*num)+den) / (2*den):=Int.ediv_nonneg (by omega) (by omega)
   have q2:(2*(A*(den - num)+B*num)+den) / (2*den)≤2*(A*(den - num)+B*num)+den:=Int.ediv_le_self _ (by omega)
   have hti:((i:Int)+1).toNat=i+1:=by omega
   repeat' (first|(simp (disch:=first|omega|assumption|exact bd (by with_unfolding_all rfl)|exact Or.inl rfl|exact Or.inl trivial|exact okL_map _ (fun _=>rfl) _|(simp only[VVlen]<;>omega)|fail) only[VV0,VV1,VV2,VV3,VV4,VV5,VV6,VV7,VV8,VV9,mkFnV,vargs,slotsL,opdsA,Nat.reduceEqDiff,Nat.reduceLT,Nat.reduceAdd,Nat.reduceBEq,Int.reduceAdd,Int.reduceSub,Int.reduceLT,Int.reduceLE,Int.reduceEq,Int.reduceNeg,↓reduceIte,reduceCtorEq,scL,scD,expand,List.replicate,c17l0,rowI_dv,hx,iD_dv,hA,hBB,hset,hti])|apply gC_drawW|((first|apply gI_dec|apply gG_dec|apply gPG_dec|apply gI_var|apply gG_var|apply gPG_var)<;>intro _))
   all_goals try (exfalso;omega)
   exact ⟨_,_,_,by omega,.refl _ _,j+1,rfl,hlt,rfl,rfl⟩
  ·have:j=M.length:=by omega
   subst this
   have hfr:=fillF_rows M (fun l=>bet l i num den)
   rw[← hF] at hfr
   have hL:=fillF_len F M.length M.length hj
   repeat' (first|(simp (disch:=first|omega|assumption|exact bd (by with_unfolding_all rfl)|exact Or.inl rfl|exact Or.inl trivial|exact okL_map _ (fun _=>rfl) _|(simp only[VVlen]<;>omega)|fail) only[VV0,VV1,VV2,VV3,VV4,VV5,VV6,VV7,VV8,VV9,mkFnV,vargs,slotsL,opdsA,Nat.reduceEqDiff,Nat.reduceLT,Nat.reduceAdd,Nat.reduceBEq,Int.reduceAdd,Int.reduceSub,Int.reduceLT,Int.reduceLE,Int.reduceEq,Int.reduceNeg,↓reduceIte,reduceCtorEq,scL,scD,expand,List.replicate,c17l0])|apply gC_drawW|((first|apply gI_dec|apply gG_dec|apply gPG_dec|apply gI_var|apply gG_var|apply gPG_var)<;>intro _))
   unfold betL
   rw[← hfr]
   exact weak_fin (s:=0) (snap_refD rfl hL) rfl (.inl (by decide)) h0 rfl
end
end Go.Proofs.YteibgbbfcjgjiaaDoor
namespace Go.Proofs.YteibgbbfcjgjiaaDoor
open Go Go.Itp
set_option maxRecDepth 100000
set_option maxHeartbeats 4000000
set_option linter.unusedSimpArgs false
set_option linter.unusedVariables false
def freshF (S:List (List UInt8)) (x:List UInt8):Int:=if 20≤S.length then 4 else if wordS x=false then 8 else if 0≤placeG S x S.length then 14 else 0
abbrev noT:V:= .agg [nilS,nilS,nilS]
section
variable (w:World) (n:Nat)
theorem fresh_p (S N:List (List UInt8)) (M:List (List Int)) (x:List UInt8) (hS:S.length≤1000000) (hx:x.length≤1000):VSpec (EN w (n+2)) 45 [tableV 3 3 3 1 S N M,strV x] (iN (freshF S x)) ⟨[],0,0⟩:=by
 refine vspec_flat rfl rfl (fun _ _=>rfl) (Nat.le_of_ble_eq_true rfl) (oldVals w) rfl fun C hC h0=>?_
 have hw:=word_p w n x (by omega)
 have hi:=gix_p w n 3 S x (by omega)
 unfold freshF
 by_cases h1:20≤S.length
 ·rw[if_pos h1]
  repeat' (first|(simp (disch:=first|omega|assumption|exact bd (by with_unfolding_all rfl)|exact Or.inl rfl|exact Or.inl trivial|exact okL_map _ (fun _=>rfl) _|(simp only[VVlen]<;>omega)|fail) only[VV0,VV1,VV2,VV3,VV4,VV5,VV6,VV7,VV8,VV9,mkFnV,vargs,slotsL,opdsA,Nat.reduceEqDiff,Nat.reduceLT,Nat.reduceAdd,Nat.reduceBEq,Int.reduceAdd,Int.reduceSub,Int.reduceLT,Int.reduceLE,Int.reduceEq,Int.reduceNeg,↓reduceIte,reduceCtorEq,scL,scD,expand,List.replicate,c45])|apply gC_drawW|((first|apply gI_dec|apply gG_dec|apply gPG_dec|apply gI_var|apply gG_var|apply gPG_var)<;>intro _))
  all_goals try (exfalso;omega)
  exact weak_flat rfl h0 rfl
 rw[if_neg h1]
 repeat' (first|(simp (disch:=first|omega|assumption|exact bd (by with_unfolding_all rfl)|exact Or.inl rfl|exact Or.inl trivial|exact okL_map _ (fun _=>rfl) _|(simp only[VVlen]<;>omega)|fail) only[VV0,VV1,VV2,VV3,VV4,VV5,VV6,VV7,VV8,VV9,mkFnV,vargs,slotsL,opdsA,Nat.reduceEqDiff,Nat.reduceLT,Nat.reduceAdd,Nat.reduceBEq,Int.reduceAdd,Int.reduceSub,Int.reduceLT,Int.reduceLE,Int.reduceEq,Int.reduceNeg,↓reduceIte,reduceCtorEq,scL,scD,expand,List.replicate,c45])|apply gC_drawW|((first|apply gI_dec|apply gG_dec|apply gPG_dec|apply gI_var|apply gG_var|apply gPG_var)<;>intro _))
 all_goals try (exfalso;omega)
 refine callV_flat (by rw[hC];exact hw.flat rfl rfl) ?_
 by_cases h2:wordS x=false
 ·rw[if_pos h2,h2]
  repeat' (first|(simp (disch:=first|omega|assumption|exact bd (by with_unfolding_all rfl)|exact Or.inl rfl|exact Or.inl trivial|exact okL_map _ (fun _=>rfl) _|(simp only[VVlen]<;>omega)|fail) only[VV0,VV1,VV2,VV3,VV4,VV5,VV6,VV7,VV8,VV9,mkFnV,vargs,slotsL,opdsA,Nat.reduceEqDiff,Nat.reduceLT,Nat.reduceAdd,Nat.reduceBEq,Int.reduceAdd,Int.reduceSub,Int.reduceLT,Int.reduceLE,Int.reduceEq,Int.reduceNeg,↓reduceIte,reduceCtorEq,scL,scD,expand,List.replicate])|apply gC_drawW|((first|apply gI_dec|apply gG_dec|apply gPG_dec|apply gI_var|apply gG_var|apply gPG_var)<;>intro _))
  exact weak_flat rfl h0 rfl
 rw[if_neg h2]
 rw[Bool.not_eq_false] at h2
 rw[h2]
 repeat' (first|(simp (disch:=first|omega|assumption|exact bd (by with_unfolding_all rfl)|exact Or.inl rfl|exact Or.inl trivial|exact okL_map _ (fun _=>rfl) _|(simp only[VVlen]<;>omega)|fail) only[VV0,VV1,VV2,VV3,VV4,VV5,VV6,VV7,VV8,VV9,mkFnV,vargs,slotsL,opdsA,Nat.reduceEqDiff,Nat.reduceLT,Nat.reduceAdd,Nat.reduceBEq,Int.reduceAdd,Int.reduceSub,Int.reduceLT,Int.reduceLE,Int.reduceEq,Int.reduceNeg,↓reduceIte,reduceCtorEq,scL,scD,expand,List.replicate])|apply gC_drawW|((first|apply gI_dec|apply gG_dec|apply gPG_dec|apply gI_var|apply gG_var|apply gPG_var)<;>intro _))
 refine callV_flat (by rw[hC];exact hi.flat rfl rfl) ?_
 by_cases h3:0≤placeG S x S.length
 ·rw[if_pos h3]
  repeat' (first|(simp (disch:=first|omega|assumption|exact bd (by with_unfolding_all rfl)|exact Or.inl rfl|exact Or.inl trivial|exact okL_map _ (fun _=>rfl) _|(simp only[VVlen]<;>omega)|fail) only[VV0,VV1,VV2,VV3,VV4,VV5,VV6,VV7,VV8,VV9,mkFnV,vargs,slotsL,opdsA,Nat.reduceEqDiff,Nat.reduceLT,Nat.reduceAdd,Nat.reduceBEq,Int.reduceAdd,Int.reduceSub,Int.reduceLT,Int.reduceLE,Int.reduceEq,Int.reduceNeg,↓reduceIte,reduceCtorEq,scL,scD,expand,List.replicate])|apply gC_drawW|((first|apply gI_dec|apply gG_dec|apply gPG_dec|apply gI_var|apply gG_var|apply gPG_var)<;>intro _))
  all_goals try (exfalso;omega)
  exact weak_flat rfl h0 rfl
 ·rw[if_neg h3]
  repeat' (first|(simp (disch:=first|omega|assumption|exact bd (by with_unfolding_all rfl)|exact Or.inl rfl|exact Or.inl trivial|exact okL_map _ (fun _=>rfl) _|(simp only[VVlen]<;>omega)|fail) only[VV0,VV1,VV2,VV3,VV4,VV5,VV6,VV7,VV8,VV9,mkFnV,vargs,slotsL,opdsA,Nat.reduceEqDiff,Nat.reduceLT,Nat.reduceAdd,Nat.reduceBEq,Int.reduceAdd,Int.reduceSub,Int.reduceLT,Int.reduceLE,Int.reduceEq,Int.reduceNeg,↓reduceIte,reduceCtorEq,scL,scD,expand,List.replicate])|apply gC_drawW|((first|apply gI_dec|apply gG_dec|apply gPG_dec|apply gI_var|apply gG_var|apply gPG_var)<;>intro _))
  all_goals try (exfalso;omega)
  exact weak_flat rfl h0 rfl
theorem insert_bad (S N:List (List UInt8)) (M:List (List Int)) (hm:Mod S N M) (i num den:Int) (x:List UInt8) (hi:isInt i) (hnum:isInt num) (hden:isInt den) (h:checkS S N M=0) (ha:¬ argB S.length i num den):
 VSpec (EN w (n+5)) 18 [tableV 3 3 3 1 S N M,iN i,strV x,iN num,iN den] (.tup [noT,iN 2]) ⟨[],0,0⟩:=by
 refine vspec_flat rfl rfl (fun _ _=>rfl) (Nat.le_of_ble_eq_true rfl) (oldVals w) rfl fun C hC h0=>?_
 have hb:=between_bad w n S N M hm i num den hi hnum hden h ha
 repeat' (first|(simp (disch:=first|omega|assumption|exact bd (by with_unfolding_all rfl)|exact Or.inl rfl|exact Or.inl trivial|exact okL_map _ (fun _=>rfl) _|(simp only[VVlen]<;>omega)|fail) only[VV0,VV1,VV2,VV3,VV4,VV5,VV6,VV7,VV8,VV9,mkFnV,vargs,slotsL,opdsA,Nat.reduceEqDiff,Nat.reduceLT,Nat.reduceAdd,Nat.reduceBEq,Int.reduceAdd,Int.reduceSub,Int.reduceLT,Int.reduceLE,Int.reduceEq,Int.reduceNeg,↓reduceIte,reduceCtorEq,scL,scD,expand,List.replicate,c18])|apply gC_drawW|((first|apply gI_dec|apply gG_dec|apply gPG_dec|apply gI_var|apply gG_var|apply gPG_var)<;>intro _))
 refine callV_fin (by rw[hC];exact hb) rfl rfl (fun _=>rfl) ?_
 repeat' (first|(simp (disch:=first|omega|assumption|exact bd (by with_unfolding_all rfl)|exact Or.inl rfl|exact Or.inl trivial|exact okL_map _ (fun _=>rfl) _|(simp only[VVlen]<;>omega)|fail) only[VV0,VV1,VV2,VV3,VV4,VV5,VV6,VV7,VV8,VV9,mkFnV,vargs,slotsL,opdsA,Nat.reduceEqDiff,Nat.reduceLT,Nat.reduceAdd,Nat.reduceBEq,Int.reduceAdd,Int.reduceSub,Int.reduceLT,Int.reduceLE,Int.reduceEq,Int.reduceNeg,↓reduceIte,reduceCtorEq,scL,scD,expand,List.replicate])|apply gC_drawW|((first|apply gI_dec|apply gG_dec|apply gPG_dec|apply gI_var|apply gG_var|apply gPG_var)<;>intro _))
 exact weak_flat rfl h0 rfl
theorem insert_e (S N:List (List UInt8)) (M:List (List Int)) (hm:Mod S N M) (i:Nat) (num den:Int) (x:List UInt8) (hx:x.length≤1000) (h:Val S N M) (ha:argB S.length i num den) (hf:freshF S x ≠ 0):
 VSpec (EN w (n+5)) 18 [tableV 3 3 3 1 S N M,iN i,strV x,iN num,iN den] (.tup [noT,iN (freshF S x)]) ⟨[],0,0⟩:=by
 refine vspec_flat rfl rfl (fun _ _=>rfl) (Nat.le_of_ble_eq_true rfl) (oldVals w) rfl fun C hC h0=>?_
 have hb:=between_p w n S N M hm i num den h ha
 have hfr:=fresh_p w (n+2) S N M x (by have:=h.s;omega) hx
 generalize freshF S x=e at*
 repeat' (first|(simp (disch:=first|omega|assumption|exact bd (by with_unfolding_all rfl)|exact Or.inl rfl|exact Or.inl trivial|exact okL_map _ (fun _=>rfl) _|(simp only[VVlen]<;>omega)|fail) only[VV0,VV1,VV2,VV3,VV4,VV5,VV6,VV7,VV8,VV9,mkFnV,vargs,slotsL,opdsA,Nat.reduceEqDiff,Nat.reduceLT,Nat.reduceAdd,Nat.reduceBEq,Int.reduceAdd,Int.reduceSub,Int.reduceLT,Int.reduceLE,Int.reduceEq,Int.reduceNeg,↓reduceIte,reduceCtorEq,scL,scD,expand,List.replicate,c18])|apply gC_drawW|((first|apply gI_dec|apply gG_dec|apply gPG_dec|apply gI_var|apply gG_var|apply gPG_var)<;>intro _))
 refine callV_fin (by rw[hC];exact hb) rfl rfl (fun _=>rfl) ?_
 repeat' (first|(simp (disch:=first|omega|assumption|exact bd (by with_unfolding_all rfl)|exact Or.inl rfl|exact Or.inl trivial|exact okL_map _ (fun _=>rfl) _|(simp only[VVlen]<;>omega)|fail) only[VV0,VV1,VV2,VV3,VV4,VV5,VV6,VV7,VV8,VV9,mkFnV,vargs,slotsL,opdsA,Nat.reduceEqDiff,Nat.reduceLT,Nat.reduceAdd,Nat.reduceBEq,Int.reduceAdd,Int.reduceSub,Int.reduceLT,Int.reduceLE,Int.reduceEq,Int.reduceNeg,↓reduceIte,reduceCtorEq,scL,scD,expand,List.replicate])|apply gC_drawW|((first|apply gI_dec|apply gG_dec|apply gPG_dec|apply gI_var|apply gG_var|apply gPG_var)<;>intro _))
 refine callV_flat (by rw[hC];exact hfr.flat rfl rfl) ?_
 repeat' (first|(simp (disch:=first|omega|assumption|exact bd (by with_unfolding_all rfl)|exact Or.inl rfl|exact Or.inl trivial|exact okL_map _ (fun _=>rfl) _|(simp only[VVlen]<;>omega)|fail) only[VV0,VV1,VV2,VV3,VV4,VV5,VV6,VV7,VV8,VV9,mkFnV,vargs,slotsL,opdsA,Nat.reduceEqDiff,Nat.reduceLT,Nat.reduceAdd,Nat.reduceBEq,Int.reduceAdd,Int.reduceSub,Int.reduceLT,Int.reduceLE,Int.reduceEq,Int.reduceNeg,↓reduceIte,reduceCtorEq,scL,scD,expand,List.replicate])|apply gC_drawW|((first|apply gI_dec|apply gG_dec|apply gPG_dec|apply gI_var|apply gG_var|apply gPG_var)<;>intro _))
 all_goals try (exfalso;omega)
 exact weak_flat rfl h0 rfl
theorem insert_p (S N:List (List UInt8)) (M:List (List Int)) (hm:Mod S N M) (i:Nat) (num den:Int) (x:List UInt8) (hx:x.length≤1000) (h:Val S N M) (ha:argB S.length i num den) (hf:freshF S x=0):
 VSpec (EN w (n+5)) 18 [tableV 3 3 3 1 S N M,iN i,strV x,iN num,iN den] (.tup [tableV 2 2 0 2 (withL S (i+1) x) N (rowsW M (i+1) (betL M i num den)),iN 0]) ⟨[],0,0⟩:=by
 refine vspec_g rfl rfl (fun _ _=>rfl) (Nat.le_of_ble_eq_true rfl) (oldVals w) (retOK_nil (by simp only[Cl,ClL,and_true,true_and];trivial)) rfl fun C hC h0=>?_
 have hb:=between_p w n S N M hm i num den h ha
 have hs:=h.s
 have hM:M.length≤30:=by have:=h.m;have:=h.n;omega
 have ha':=ha
 unfold argB at ha'
 have hfr:=fresh_p w (n+2) S N M x (by omega) hx
 rw[hf] at hfr
 have hp:=put_p w n S N M (i+1) 3 (betL M i num den) x (by omega) (by simp[betL]) (fun k hk=>by have:=(h.row hk).1;omega) (fun k hk=>by have:=(h.row hk).1;omega) (by omega) (by omega) (by have:=h.n;omega) h.s1 h.n1 (by omega)
 have eb:(betL M i num den).length=M.length:=by simp[betL]
 rw[show intsV 3 (betL M i num den)= .sl 3 M.length ((betL M i num den).map iD) by rw[← eb]] at hp
 repeat' (first|(simp (disch:=first|omega|assumption|exact bd (by with_unfolding_all rfl)|exact Or.inl rfl|exact Or.inl trivial|exact okL_map _ (fun _=>rfl) _|(simp only[VVlen]<;>omega)|fail) only[VV0,VV1,VV2,VV3,VV4,VV5,VV6,VV7,VV8,VV9,mkFnV,vargs,slotsL,opdsA,Nat.reduceEqDiff,Nat.reduceLT,Nat.reduceAdd,Nat.reduceBEq,Int.reduceAdd,Int.reduceSub,Int.reduceLT,Int.reduceLE,Int.reduceEq,Int.reduceNeg,↓reduceIte,reduceCtorEq,scL,scD,expand,List.replicate,c18])|apply gC_drawW|((first|apply gI_dec|apply gG_dec|apply gPG_dec|apply gI_var|apply gG_var|apply gPG_var)<;>intro _))
 refine callV_fin (by rw[hC];exact hb) rfl rfl (fun _=>rfl) ?_
 repeat' (first|(simp (disch:=first|omega|assumption|exact bd (by with_unfolding_all rfl)|exact Or.inl rfl|exact Or.inl trivial|exact okL_map _ (fun _=>rfl) _|(simp only[VVlen]<;>omega)|fail) only[VV0,VV1,VV2,VV3,VV4,VV5,VV6,VV7,VV8,VV9,mkFnV,vargs,slotsL,opdsA,Nat.reduceEqDiff,Nat.reduceLT,Nat.reduceAdd,Nat.reduceBEq,Int.reduceAdd,Int.reduceSub,Int.reduceLT,Int.reduceLE,Int.reduceEq,Int.reduceNeg,↓reduceIte,reduceCtorEq,scL,scD,expand,List.replicate])|apply gC_drawW|((first|apply gI_dec|apply gG_dec|apply gPG_dec|apply gI_var|apply gG_var|apply gPG_var)<;>intro _))
 refine callV_flat (by rw[hC];exact hfr.flat rfl rfl) ?_
 repeat' (first|(simp (disch:=first|omega|assumption|exact bd (by with_unfolding_all rfl)|exact Or.inl rfl|exact Or.inl trivial|exact okL_map _ (fun _=>rfl) _|(simp only[VVlen]<;>omega)|fail) only[VV0,VV1,VV2,VV3,VV4,VV5,VV6,VV7,VV8,VV9,mkFnV,vargs,slotsL,opdsA,Nat.reduceEqDiff,Nat.reduceLT,Nat.reduceAdd,Nat.reduceBEq,Int.reduceAdd,Int.reduceSub,Int.reduceLT,Int.reduceLE,Int.reduceEq,Int.reduceNeg,↓reduceIte,reduceCtorEq,scL,scD,expand,List.replicate])|apply gC_drawW|((first|apply gI_dec|apply gG_dec|apply gPG_dec|apply gI_var|apply gG_var|apply gPG_var)<;>intro _))
 refine callV_fin (by rw[hC];exact hp) rfl rfl (fun _=>rfl) ?_
 repeat' (first|(simp (disch:=first|omega|assumption|exact bd (by with_unfolding_all rfl)|exact Or.inl rfl|exact Or.inl trivial|exact okL_map _ (fun _=>rfl) _|(simp only[VVlen]<;>omega)|fail) only[VV0,VV1,VV2,VV3,VV4,VV5,VV6,VV7,VV8,VV9,mkFnV,vargs,slotsL,opdsA,Nat.reduceEqDiff,Nat.reduceLT,Nat.reduceAdd,Nat.reduceBEq,Int.reduceAdd,Int.reduceSub,Int.reduceLT,Int.reduceLE,Int.reduceEq,Int.reduceNeg,↓reduceIte,reduceCtorEq,scL,scD,expand,List.replicate])|apply gC_drawW|((first|apply gI_dec|apply gG_dec|apply gPG_dec|apply gI_var|apply gG_var|apply gPG_var)<;>intro _))
 exact weak_to [] 0 h0 rfl rfl rfl rfl
end
def nxt (n:Nat) (l:List Int):Int:=2*l[n - 1]! - l[n - 2]!
def nxtOK (n:Nat) (M:List (List Int)):Prop:=∀ k,k<M.length→nxt n M[k]! ≤1000000
theorem snapL_last {H:VHp} {s1 s2 s3 n1 n2 n3:Nat} {l1 l2 l3:List D} {x y:Value} {d d':V} (h:snapV H d=some d'):snapL H [.agg [.sl s1 n1 l1,.sl s2 n2 l2,.sl s3 n3 l3],.sc x,.sc y,d]=some [.agg [.sl s1 n1 l1,.sl s2 n2 l2,.sl s3 n3 l3],.sc x,.sc y,d']:=by
 simp only[snapL,snapV,h,Option.bind_some,Option.map_some]
section
variable (w:World) (n:Nat)
theorem next_short (S N:List (List UInt8)) (M:List (List Int)) (hm:Mod S N M) (x:List UInt8) (h:Val S N M) (hs:S.length<2):
 VSpec (EN w (n+5)) 21 [tableV 3 3 3 1 S N M,strV x] (.tup [noT,iN 22]) ⟨[],0,0⟩:=by
 refine vspec_flat rfl rfl (fun _ _=>rfl) (Nat.le_of_ble_eq_true rfl) (oldVals w) rfl fun C hC h0=>?_
 have hc:=check_p w (n+1) 3 3 3 1 S N M hm
 rw[(val_iff S N M).2 h] at hc
 repeat' (first|(simp (disch:=first|omega|assumption|exact bd (by with_unfolding_all rfl)|exact Or.inl rfl|exact Or.inl trivial|exact okL_map _ (fun _=>rfl) _|(simp only[VVlen]<;>omega)|fail) only[VV0,VV1,VV2,VV3,VV4,VV5,VV6,VV7,VV8,VV9,mkFnV,vargs,slotsL,opdsA,Nat.reduceEqDiff,Nat.reduceLT,Nat.reduceAdd,Nat.reduceBEq,Int.reduceAdd,Int.reduceSub,Int.reduceLT,Int.reduceLE,Int.reduceEq,Int.reduceNeg,↓reduceIte,reduceCtorEq,scL,scD,expand,List.replicate,c21])|apply gC_drawW|((first|apply gI_dec|apply gG_dec|apply gPG_dec|apply gI_var|apply gG_var|apply gPG_var)<;>intro _))
 refine callV_flat (by rw[hC];exact hc.flat rfl rfl) ?_
 repeat' (first|(simp (disch:=first|omega|assumption|exact bd (by with_unfolding_all rfl)|exact Or.inl rfl|exact Or.inl trivial|exact okL_map _ (fun _=>rfl) _|(simp only[VVlen]<;>omega)|fail) only[VV0,VV1,VV2,VV3,VV4,VV5,VV6,VV7,VV8,VV9,mkFnV,vargs,slotsL,opdsA,Nat.reduceEqDiff,Nat.reduceLT,Nat.reduceAdd,Nat.reduceBEq,Int.reduceAdd,Int.reduceSub,Int.reduceLT,Int.reduceLE,Int.reduceEq,Int.reduceNeg,↓reduceIte,reduceCtorEq,scL,scD,expand,List.replicate])|apply gC_drawW|((first|apply gI_dec|apply gG_dec|apply gPG_dec|apply gI_var|apply gG_var|apply gPG_var)<;>intro _))
 all_goals try (exfalso;omega)
 exact weak_flat rfl h0 rfl
theorem next_e (S N:List (List UInt8)) (M:List (List Int)) (hm:Mod S N M) (x:List UInt8) (hx:x.length≤1000) (h:Val S N M) (hs:¬ S.length<2) (hf:freshF S x ≠ 0):
 VSpec (EN w (n+5)) 21 [tableV 3 3 3 1 S N M,strV x] (.tup [noT,iN (freshF S x)]) ⟨[],0,0⟩:=by
 refine vspec_flat rfl rfl (fun _ _=>rfl) (Nat.le_of_ble_eq_true rfl) (oldVals w) rfl fun C hC h0=>?_
 have hc:=check_p w (n+1) 3 3 3 1 S N M hm
 rw[(val_iff S N M).2 h] at hc
 have hS:=h.s
 have hfr:=fresh_p w (n+2) S N M x (by omega) hx
 generalize freshF S x=e at*
 repeat' (first|(simp (disch:=first|omega|assumption|exact bd (by with_unfolding_all rfl)|exact Or.inl rfl|exact Or.inl trivial|exact okL_map _ (fun _=>rfl) _|(simp only[VVlen]<;>omega)|fail) only[VV0,VV1,VV2,VV3,VV4,VV5,VV6,VV7,VV8,VV9,mkFnV,vargs,slotsL,opdsA,Nat.reduceEqDiff,Nat.reduceLT,Nat.reduceAdd,Nat.reduceBEq,Int.reduceAdd,Int.reduceSub,Int.reduceLT,Int.reduceLE,Int.reduceEq,Int.reduceNeg,↓reduceIte,reduceCtorEq,scL,scD,expand,List.replicate,c21])|apply gC_drawW|((first|apply gI_dec|apply gG_dec|apply gPG_dec|apply gI_var|apply gG_var|apply gPG_var)<;>intro _))
 refine callV_flat (by rw[hC];exact hc.flat rfl rfl) ?_
 repeat' (first|(simp (disch:=first|omega|assumption|exact bd (by with_unfolding_all rfl)|exact Or.inl rfl|exact Or.inl trivial|exact okL_map _ (fun _=>rfl) _|(simp only[VVlen]<;>omega)|fail) only[VV0,VV1,VV2,VV3,VV4,VV5,VV6,VV7,VV8,VV9,mkFnV,vargs,slotsL,opdsA,Nat.reduceEqDiff,Nat.reduceLT,Nat.reduceAdd,Nat.reduceBEq,Int.reduceAdd,Int.reduceSub,Int.reduceLT,Int.reduceLE,Int.reduceEq,Int.reduceNeg,↓reduceIte,reduceCtorEq,scL,scD,expand,List.replicate])|apply gC_drawW|((first|apply gI_dec|apply gG_dec|apply gPG_dec|apply gI_var|apply gG_var|apply gPG_var)<;>intro _))
 all_goals try (exfalso;omega)
 refine callV_flat (by rw[hC];exact hfr.flat rfl rfl) ?_
 repeat' (first|(simp (disch:=first|omega|assumption|exact bd (by with_unfolding_all rfl)|exact Or.inl rfl|exact Or.inl trivial|exact okL_map _ (fun _=>rfl) _|(simp only[VVlen]<;>omega)|fail) only[VV0,VV1,VV2,VV3,VV4,VV5,VV6,VV7,VV8,VV9,mkFnV,vargs,slotsL,opdsA,Nat.reduceEqDiff,Nat.reduceLT,Nat.reduceAdd,Nat.reduceBEq,Int.reduceAdd,Int.reduceSub,Int.reduceLT,Int.reduceLE,Int.reduceEq,Int.reduceNeg,↓reduceIte,reduceCtorEq,scL,scD,expand,List.replicate])|apply gC_drawW|((first|apply gI_dec|apply gG_dec|apply gPG_dec|apply gI_var|apply gG_var|apply gPG_var)<;>intro _))
 all_goals try (exfalso;omega)
 exact weak_flat rfl h0 rfl
theorem next_big (S N:List (List UInt8)) (M:List (List Int)) (hm:Mod S N M) (x:List UInt8) (hx:x.length≤1000) (h:Val S N M) (hs:¬ S.length<2) (hf:freshF S x=0) (hno:¬ nxtOK S.length M):
 VSpec (EN w (n+5)) 21 [tableV 3 3 3 1 S N M,strV x] (.tup [noT,iN 16]) ⟨[],0,0⟩:=by
 refine vspec_flat rfl rfl (fun _ _=>rfl) (Nat.le_of_ble_eq_true rfl) (oldVals w) rfl fun C hC h0=>?_
 have hc:=check_p w (n+1) 3 3 3 1 S N M hm
 rw[(val_iff S N M).2 h] at hc
 have hS:=h.s
 have hM:M.length≤30:=by have:=h.m;have:=h.n;omega
 have hfr:=fresh_p w (n+2) S N M x (by omega) hx
 rw[hf] at hfr
 repeat' (first|(simp (disch:=first|omega|assumption|exact bd (by with_unfolding_all rfl)|exact Or.inl rfl|exact Or.inl trivial|exact okL_map _ (fun _=>rfl) _|(simp only[VVlen]<;>omega)|fail) only[VV0,VV1,VV2,VV3,VV4,VV5,VV6,VV7,VV8,VV9,mkFnV,vargs,slotsL,opdsA,Nat.reduceEqDiff,Nat.reduceLT,Nat.reduceAdd,Nat.reduceBEq,Int.reduceAdd,Int.reduceSub,Int.reduceLT,Int.reduceLE,Int.reduceEq,Int.reduceNeg,↓reduceIte,reduceCtorEq,scL,scD,expand,List.replicate,c21])|apply gC_drawW|((first|apply gI_dec|apply gG_dec|apply gPG_dec|apply gI_var|apply gG_var|apply gPG_var)<;>intro _))
 refine callV_flat (by rw[hC];exact hc.flat rfl rfl) ?_
 repeat' (first|(simp (disch:=first|omega|assumption|exact bd (by with_unfolding_all rfl)|exact Or.inl rfl|exact Or.inl trivial|exact okL_map _ (fun _=>rfl) _|(simp only[VVlen]<;>omega)|fail) only[VV0,VV1,VV2,VV3,VV4,VV5,VV6,VV7,VV8,VV9,mkFnV,vargs,slotsL,opdsA,Nat.reduceEqDiff,Nat.reduceLT,Nat.reduceAdd,Nat.reduceBEq,Int.reduceAdd,Int.reduceSub,Int.reduceLT,Int.reduceLE,Int.reduceEq,Int.reduceNeg,↓reduceIte,reduceCtorEq,scL,scD,expand,List.replicate])|apply gC_drawW|((first|apply gI_dec|apply gG_dec|apply gPG_dec|apply gI_var|apply gG_var|apply gPG_var)<;>intro _))
 all_goals try (exfalso;omega)
 refine callV_flat (by rw[hC];exact hfr.flat rfl rfl) ?_
 repeat' (first|(simp (disch:=first|omega|assumption|exact bd (by with_unfolding_all rfl)|exact Or.inl rfl|exact Or.inl trivial|exact okL_map _ (fun _=>rfl) _|(simp only[VVlen]<;>omega)|fail) only[VV0,VV1,VV2,VV3,VV4,VV5,VV6,VV7,VV8,VV9,mkFnV,vargs,slotsL,opdsA,Nat.reduceEqDiff,Nat.reduceLT,Nat.reduceAdd,Nat.reduceBEq,Int.reduceAdd,Int.reduceSub,Int.reduceLT,Int.reduceLE,Int.reduceEq,Int.reduceNeg,↓reduceIte,reduceCtorEq,scL,scD,expand,List.replicate])|apply gC_drawW|((first|apply gI_dec|apply gG_dec|apply gPG_dec|apply gI_var|apply gG_var|apply gPG_var)<;>intro _))
 obtain ⟨F,hF⟩:∃ F:Nat→Int,F=fun k=>nxt S.length M[k]! :=⟨_,rfl⟩
 rw[← fillF_zero F]
 refine g_while (fun m fr st=>∃ j:Nat,m=M.length - j∧j≤M.length∧(∀ k,k<j→nxt S.length M[k]! ≤1000000)∧fr= [(1,strV x),(2,.ptr 0 0),(4,.ptr 1 0),(7,iN S.length),(9,.ref 2 0 M.length M.length),(36,rowsV 3 1 M),(37,iN M.length),(38,iN j)]∧
  st=⟨[(2,.row 3 1 false false (fillF F M.length j)),(1,.box 25 1 [nilS,nilS,nilS]),(0,tabO 3 3 3 1 S N M)],3,0⟩) M.length ?_ ⟨_,_,.refl _ _,0,by omega,Nat.zero_le _,by omega,rfl,rfl⟩ ?_
 ·rw[hC,callP_rounds];unfold many;omega
 rintro m fr st ⟨j,rfl,hj,hall,rfl,rfl⟩
 by_cases hlt:j<M.length
 ·have hr:=h.row hlt
  have hL:=fillF_len F M.length j hj
  have hset:=fillF_set F M.length j hlt
  have hL2:=fillF_len F M.length (j+1) hlt
  have hget:dload (fillF F M.length (j+1)) j none=some (iN (F j)):=by
   have:(fillF F M.length (j+1))[j]? =some (iD (F j)):=by rw[← hset,List.getElem?_set_self (by omega)];rfl
   simp only[dload,lget_eq,this];rfl
  rw[show F j=nxt S.length M[j]! by rw[hF]] at hset hget
  have hk2:=fun hh=>lt_succ_cases hall (k:=j) (P:=fun k=>nxt S.length M[k]! ≤1000000) hh
  have hbig:=fun (hh:¬ nxt S.length M[j]! ≤1000000)=>(fun (ok:nxtOK S.length M)=>hh (ok j hlt):¬ nxtOK S.length M)
  generalize hX:M[j]! =X at*
  obtain ⟨x1,x2⟩:=hr
  have ha1:=x2 (S.length - 1) (by omega)
  have hb1:=x2 (S.length - 2) (by omega)
  have e1:((S.length:Int) - 1).toNat=S.length - 1:=by omega
  have e2:((S.length:Int) - 2).toNat=S.length - 2:=by omega
  unfold nxt at hset hget hk2 hbig
  generalize hA:X[S.length - 1]! =A at*
  generalize hBB:X[S.length - 2]! =B at*
  by_cases hle:2*A - B≤1000000
  ·repeat' (first|(simp (disch:=first|omega|assumption|exact bd (by with_unfolding_all rfl)|exact Or.inl rfl|exact Or.inl trivial|exact okL_map _ (fun _=>rfl) _|(simp only[VVlen]<;>omega)|fail) only[VV0,VV1,VV2,VV3,VV4,VV5,VV6,VV7,VV8,VV9,mkFnV,vargs,slotsL,opdsA,Nat.reduceEqDiff,Nat.reduceLT,Nat.reduceAdd,Nat.reduceBEq,Int.reduceAdd,Int.reduceSub,Int.reduceLT,Int.reduceLE,Int.reduceEq,Int.reduceNeg,↓reduceIte,reduceCtorEq,scL,scD,expand,List.replicate,c21l0,rowI_dv,hX,iD_dv,hA,hBB,hset,e1,e2,hget])|apply gC_drawW|((first|apply gI_dec|apply gG_dec|apply gPG_dec|apply gI_var|apply gG_var|apply gPG_var)<;>intro _))
   all_goals try (exfalso;omega)
   exact ⟨_,_,_,by omega,.refl _ _,j+1,rfl,hlt,hk2 hle,rfl,rfl⟩
  ·repeat' (first|(simp (disch:=first|omega|assumption|exact bd (by with_unfolding_all rfl)|exact Or.inl rfl|exact Or.inl trivial|exact okL_map _ (fun _=>rfl) _|(simp only[VVlen]<;>omega)|fail) only[VV0,VV1,VV2,VV3,VV4,VV5,VV6,VV7,VV8,VV9,mkFnV,vargs,slotsL,opdsA,Nat.reduceEqDiff,Nat.reduceLT,Nat.reduceAdd,Nat.reduceBEq,Int.reduceAdd,Int.reduceSub,Int.reduceLT,Int.reduceLE,Int.reduceEq,Int.reduceNeg,↓reduceIte,reduceCtorEq,scL,scD,expand,List.replicate,c21l0,rowI_dv,hX,iD_dv,hA,hBB,hset,e1,e2,hget])|apply gC_drawW|((first|apply gI_dec|apply gG_dec|apply gPG_dec|apply gI_var|apply gG_var|apply gPG_var)<;>intro _))
   all_goals try (exfalso;omega)
   exact weak_flat rfl h0 rfl
 ·have:j=M.length:=by omega
  subst this
  have hfr:=fillF_rows M (nxt S.length)
  rw[← hF] at hfr
  have hL:=fillF_len F M.length M.length hj
  exact absurd hall hno
theorem next_p (S N:List (List UInt8)) (M:List (List Int)) (hm:Mod S N M) (x:List UInt8) (hx:x.length≤1000) (h:Val S N M) (hs:¬ S.length<2) (hf:freshF S x=0) (hok:nxtOK S.length M):
 VSpec (EN w (n+5)) 21 [tableV 3 3 3 1 S N M,strV x] (.tup [tableV 2 2 0 2 (withL S S.length x) N (rowsW M S.length (M.map (nxt S.length))),iN 0]) ⟨[],0,0⟩:=by
 refine vspec_g rfl rfl (fun _ _=>rfl) (Nat.le_of_ble_eq_true rfl) (oldVals w) (retOK_nil (by simp only[Cl,ClL,and_true,true_and];trivial)) rfl fun C hC h0=>?_
 have hc:=check_p w (n+1) 3 3 3 1 S N M hm
 rw[(val_iff S N M).2 h] at hc
 have hS:=h.s
 have hM:M.length≤30:=by have:=h.m;have:=h.n;omega
 have hfr:=fresh_p w (n+2) S N M x (by omega) hx
 rw[hf] at hfr
 repeat' (first|(simp (disch:=first|omega|assumption|exact bd (by with_unfolding_all rfl)|exact Or.inl rfl|exact Or.inl trivial|exact okL_map _ (fun _=>rfl) _|(simp only[VVlen]<;>omega)|fail) only[VV0,VV1,VV2,VV3,VV4,VV5,VV6,VV7,VV8,VV9,mkFnV,vargs,slotsL,opdsA,Nat.reduceEqDiff,Nat.reduceLT,Nat.reduceAdd,Nat.reduceBEq,Int.reduceAdd,Int.reduceSub,Int.reduceLT,Int.reduceLE,Int.reduceEq,Int.reduceNeg,↓reduceIte,reduceCtorEq,scL,scD,expand,List.replicate,c21])|apply gC_drawW|((first|apply gI_dec|apply gG_dec|apply gPG_dec|apply gI_var|apply gG_var|apply gPG_var)<;>intro _))
 refine callV_flat (by rw[hC];exact hc.flat rfl rfl) ?_
 repeat' (first|(simp (disch:=first|omega|assumption|exact bd (by with_unfolding_all rfl)|exact Or.inl rfl|exact Or.inl trivial|exact okL_map _ (fun _=>rfl) _|(simp only[VVlen]<;>omega)|fail) only[VV0,VV1,VV2,VV3,VV4,VV5,VV6,VV7,VV8,VV9,mkFnV,vargs,slotsL,opdsA,Nat.reduceEqDiff,Nat.reduceLT,Nat.reduceAdd,Nat.reduceBEq,Int.reduceAdd,Int.reduceSub,Int.reduceLT,Int.reduceLE,Int.reduceEq,Int.reduceNeg,↓reduceIte,reduceCtorEq,scL,scD,expand,List.replicate])|apply gC_drawW|((first|apply gI_dec|apply gG_dec|apply gPG_dec|apply gI_var|apply gG_var|apply gPG_var)<;>intro _))
 all_goals try (exfalso;omega)
 refine callV_flat (by rw[hC];exact hfr.flat rfl rfl) ?_
 repeat' (first|(simp (disch:=first|omega|assumption|exact bd (by with_unfolding_all rfl)|exact Or.inl rfl|exact Or.inl trivial|exact okL_map _ (fun _=>rfl) _|(simp only[VVlen]<;>omega)|fail) only[VV0,VV1,VV2,VV3,VV4,VV5,VV6,VV7,VV8,VV9,mkFnV,vargs,slotsL,opdsA,Nat.reduceEqDiff,Nat.reduceLT,Nat.reduceAdd,Nat.reduceBEq,Int.reduceAdd,Int.reduceSub,Int.reduceLT,Int.reduceLE,Int.reduceEq,Int.reduceNeg,↓reduceIte,reduceCtorEq,scL,scD,expand,List.replicate])|apply gC_drawW|((first|apply gI_dec|apply gG_dec|apply gPG_dec|apply gI_var|apply gG_var|apply gPG_var)<;>intro _))
 obtain ⟨F,hF⟩:∃ F:Nat→Int,F=fun k=>nxt S.length M[k]! :=⟨_,rfl⟩
 rw[← fillF_zero F]
 refine g_while (fun m fr st=>∃ j:Nat,m=M.length - j∧j≤M.length∧(∀ k,k<j→nxt S.length M[k]! ≤1000000)∧fr= [(1,strV x),(2,.ptr 0 0),(4,.ptr 1 0),(7,iN S.length),(9,.ref 2 0 M.length M.length),(36,rowsV 3 1 M),(37,iN M.length),(38,iN j)]∧
  st=⟨[(2,.row 3 1 false false (fillF F M.length j)),(1,.box 25 1 [nilS,nilS,nilS]),(0,tabO 3 3 3 1 S N M)],3,0⟩) M.length ?_ ⟨_,_,.refl _ _,0,by omega,Nat.zero_le _,by omega,rfl,rfl⟩ ?_
 ·rw[hC,callP_rounds];unfold many;omega
 rintro m fr st ⟨j,rfl,hj,hall,rfl,rfl⟩
 by_cases hlt:j<M.length
 ·have hr:=h.row hlt
  have hL:=fillF_len F M.length j hj
  have hset:=fillF_set F M.length j hlt
  have hL2:=fillF_len F M.length (j+1) hlt
  have hget:dload (fillF F M.length (j+1)) j none=some (iN (F j)):=by
   have:(fillF F M.length (j+1))[j]? =some (iD (F j)):=by rw[← hset,List.getElem?_set_self (by omega)];rfl
   simp only[dload,lget_eq,this];rfl
  rw[show F j=nxt S.length M[j]! by rw[hF]] at hset hget
  have hk2:=fun hh=>lt_succ_cases hall (k:=j) (P:=fun k=>nxt S.length M[k]! ≤1000000) hh
  have hbig:=fun (hh:¬ nxt S.length M[j]! ≤1000000)=>(fun (ok:nxtOK S.length M)=>hh (ok j hlt):¬ nxtOK S.length M)
  generalize hX:M[j]! =X at*
  obtain ⟨x1,x2⟩:=hr
  have ha1:=x2 (S.length - 1) (by omega)
  have hb1:=x2 (S.length - 2) (by omega)
  have e1:((S.length:Int) - 1).toNat=S.length - 1:=by omega
  have e2:((S.length:Int) - 2).toNat=S.length - 2:=by omega
  unfold nxt at hset hget hk2 hbig
  generalize hA:X[S.length - 1]! =A at*
  generalize hBB:X[S.length - 2]! =B at*
  by_cases hle:2*A - B≤1000000
  ·repeat' (first|(simp (disch:=first|omega|assumption|exact bd (by with_unfolding_all rfl)|exact Or.inl rfl|exact Or.inl trivial|exact okL_map _ (fun _=>rfl) _|(simp only[VVlen]<;>omega)|fail) only[VV0,VV1,VV2,VV3,VV4,VV5,VV6,VV7,VV8,VV9,mkFnV,vargs,slotsL,opdsA,Nat.reduceEqDiff,Nat.reduceLT,Nat.reduceAdd,Nat.reduceBEq,Int.reduceAdd,Int.reduceSub,Int.reduceLT,Int.reduceLE,Int.reduceEq,Int.reduceNeg,↓reduceIte,reduceCtorEq,scL,scD,expand,List.replicate,c21l0,rowI_dv,hX,iD_dv,hA,hBB,hset,e1,e2,hget])|apply gC_drawW|((first|apply gI_dec|apply gG_dec|apply gPG_dec|apply gI_var|apply gG_var|apply gPG_var)<;>intro _))
   all_goals try (exfalso;omega)
   exact ⟨_,_,_,by omega,.refl _ _,j+1,rfl,hlt,hk2 hle,rfl,rfl⟩
  ·repeat' (first|(simp (disch:=first|omega|assumption|exact bd (by with_unfolding_all rfl)|exact Or.inl rfl|exact Or.inl trivial|exact okL_map _ (fun _=>rfl) _|(simp only[VVlen]<;>omega)|fail) only[VV0,VV1,VV2,VV3,VV4,VV5,VV6,VV7,VV8,VV9,mkFnV,vargs,slotsL,opdsA,Nat.reduceEqDiff,Nat.reduceLT,Nat.reduceAdd,Nat.reduceBEq,Int.reduceAdd,Int.reduceSub,Int.reduceLT,Int.reduceLE,Int.reduceEq,Int.reduceNeg,↓reduceIte,reduceCtorEq,scL,scD,expand,List.replicate,c21l0,rowI_dv,hX,iD_dv,hA,hBB,hset,e1,e2,hget])|apply gC_drawW|((first|apply gI_dec|apply gG_dec|apply gPG_dec|apply gI_var|apply gG_var|apply gPG_var)<;>intro _))
   exact absurd hok (hbig hle)
 ·have:j=M.length:=by omega
  subst this
  have hfr:=fillF_rows M (nxt S.length)
  rw[← hF] at hfr
  have hL:=fillF_len F M.length M.length hj
  have hp:=put_p w n S N M S.length 0 (M.map (nxt S.length)) x (by omega) (by simp) (fun k hk=>by have:=(h.row hk).1;omega) (fun k hk=>by have:=(h.row hk).1;omega) (by omega) (by omega) (by have:=h.n;omega) h.s1 h.n1 (Nat.le_refl _)
  rw[show intsV 0 (M.map (nxt S.length))= .sl 0 M.length ((M.map (nxt S.length)).map iD) by show V.sl 0 _ _=_;rw[List.length_map]] at hp
  repeat' (first|(simp (disch:=first|omega|assumption|exact bd (by with_unfolding_all rfl)|exact Or.inl rfl|exact Or.inl trivial|exact okL_map _ (fun _=>rfl) _|(simp only[VVlen]<;>omega)|fail) only[VV0,VV1,VV2,VV3,VV4,VV5,VV6,VV7,VV8,VV9,mkFnV,vargs,slotsL,opdsA,Nat.reduceEqDiff,Nat.reduceLT,Nat.reduceAdd,Nat.reduceBEq,Int.reduceAdd,Int.reduceSub,Int.reduceLT,Int.reduceLE,Int.reduceEq,Int.reduceNeg,↓reduceIte,reduceCtorEq,scL,scD,expand,List.replicate,c21l0])|apply gC_drawW|((first|apply gI_dec|apply gG_dec|apply gPG_dec|apply gI_var|apply gG_var|apply gPG_var)<;>intro _))
  refine callV_of (xs':= [tableV 3 3 3 1 S N M,iN S.length,strV x,.sl 0 M.length ((M.map (nxt S.length)).map iD)]) (by rw[hC];exact hp) ?_ rfl rfl ?_
  ·rw[← hfr]
   exact snapL_last (snap_refD rfl hL)
  repeat' (first|(simp (disch:=first|omega|assumption|exact bd (by with_unfolding_all rfl)|exact Or.inl rfl|exact Or.inl trivial|exact okL_map _ (fun _=>rfl) _|(simp only[VVlen]<;>omega)|fail) only[VV0,VV1,VV2,VV3,VV4,VV5,VV6,VV7,VV8,VV9,mkFnV,vargs,slotsL,opdsA,Nat.reduceEqDiff,Nat.reduceLT,Nat.reduceAdd,Nat.reduceBEq,Int.reduceAdd,Int.reduceSub,Int.reduceLT,Int.reduceLE,Int.reduceEq,Int.reduceNeg,↓reduceIte,reduceCtorEq,scL,scD,expand,List.replicate,vsh,vshL,shH,shO,fzSL,fzS,frozA_none])|apply gC_drawW|((first|apply gI_dec|apply gG_dec|apply gPG_dec|apply gI_var|apply gG_var|apply gPG_var)<;>intro _))
  exact weak_to [] 0 h0 rfl rfl rfl rfl
end
def snp (step v:Int):Int:=step*((2*v+step) / (2*step))
abbrev boV (b:Bool):V:= .sc (.bool b)
def fitR (step:Int) (l:List Int):Nat→Bool
 |0=>true
 |j+1=>fitR step l j && decide (snp step l[j]! ≤1000000)
def fitM (step:Int) (M:List (List Int)):Nat→Bool
 |0=>true
 |j+1=>fitM step M j && fitR step M[j]! M[j]!.length
def snpH (S N:List (List UInt8)) (M:List (List Int)) (step:Int) (f:Bool):VHp:= [(3,.box 4 1 [boV f]),(2,.box 25 1 [nilS,nilS,nilS]),(1,.box 3 1 [iN step]),(0,tabO 3 3 3 1 S N M)]
theorem snp_bd {step v:Int} (h1:1≤step) (h2:step≤10000) (v1:0≤v) (v2:v≤1000000):0≤(2*v+step) / (2*step)∧(2*v+step) / (2*step)≤2010000∧0≤snp step v∧snp step v≤2020000:=by
 have q1:0≤(2*v+step) / (2*step):=Int.ediv_nonneg (by omega) (by omega)
 have q2:(2*v+step) / (2*step)≤2*v+step:=Int.ediv_le_self _ (by omega)
 have q3:=Int.mul_ediv_self_le (x:=2*v+step) (k:=2*step) (by omega)
 have q4:2*step*((2*v+step) / (2*step))=2*(step*((2*v+step) / (2*step))):=by rw[Int.mul_assoc]
 refine ⟨q1,by omega,Int.mul_nonneg (by omega) q1,?_⟩
 unfold snp
 omega
section
variable (w:World) (n:Nat)
theorem snap1_w {C:Ctx} (hC:C.E=EN w (n+2)) (S N:List (List UInt8)) (M:List (List Int)) (step:Int) (f:Bool) (X:List Int) (R:List D) (h1:1≤step) (h2:step≤10000) (hx:∀ j,j<X.length→0≤X[j]! ∧X[j]! ≤1000000) (hl:X.length≤1000000):
 CallV C 50 [.sl 1 X.length (X.map iD),.ptr 1 0,.ptr 3 0] ⟨(10,.row 40 1 false false R)::(9,.gro 9 1 false (N.map sD))::(7,.gro 9 1 false (S.map sD))::(5,.box 25 1 [nilS,nilS,nilS])::(4,tabO 3 3 3 1 S N M)::snpH S N M step f,12,0⟩
  fun v' st'=>v'= .sl 0 X.length ((X.map (snp step)).map iD)∧st'=⟨(10,.row 40 1 false false R)::(9,.gro 9 1 false (N.map sD))::(7,.gro 9 1 false (S.map sD))::(5,.box 25 1 [nilS,nilS,nilS])::(4,tabO 3 3 3 1 S N M)::snpH S N M step (f && fitR step X X.length),12,0⟩:=by
 refine callV_w (prims:=PR w) hC rfl rfl (fun _ _=>rfl) (Nat.le_of_ble_eq_true rfl) ⟨rfl,rfl⟩ fun C' hC' hn=>?_
 replace hn:C'.w0.nx=12:=hn
 obtain ⟨F,hF⟩:∃ F:Nat→Int,F=fun k=>snp step X[k]! :=⟨_,rfl⟩
 obtain ⟨G,hG⟩:∃ G:Nat→Bool,G=fun j=>f && fitR step X j:=⟨_,rfl⟩
 have hG0:G 0=f:=by rw[hG];exact Bool.and_true f
 repeat' (first|(simp (disch:=first|omega|assumption|exact bd (by with_unfolding_all rfl)|exact Or.inl rfl|exact Or.inl trivial|exact okL_map _ (fun _=>rfl) _|(simp only[VVlen]<;>omega)|fail) only[VV0,VV1,VV2,VV3,VV4,VV5,VV6,VV7,VV8,VV9,mkFnV,vargs,slotsL,opdsA,Nat.reduceEqDiff,Nat.reduceLT,Nat.reduceAdd,Nat.reduceBEq,Int.reduceAdd,Int.reduceSub,Int.reduceLT,Int.reduceLE,Int.reduceEq,Int.reduceNeg,↓reduceIte,reduceCtorEq,scL,scD,expand,List.replicate,c50,snpH])|apply gC_drawW|((first|apply gI_dec|apply gG_dec|apply gPG_dec|apply gI_var|apply gG_var|apply gPG_var)<;>intro _))
 rw[← fillF_zero F,← hG0]
 refine g_while (fun m fr st=>∃ j:Nat,m=X.length - j∧j≤X.length∧fr= [(1,.ptr 1 0),(2,.ptr 3 0),(5,.ref 12 0 X.length X.length),(11,.sl 1 X.length (X.map iD)),(12,iN X.length),(13,iN j)]∧
  st=⟨(12,.row 3 1 false false (fillF F X.length j))::(10,.row 40 1 false false R)::(9,.gro 9 1 false (N.map sD))::(7,.gro 9 1 false (S.map sD))::(5,.box 25 1 [nilS,nilS,nilS])::(4,tabO 3 3 3 1 S N M)::snpH S N M step (G j),13,0⟩) X.length ?_ ⟨_,_,.refl _ _,0,by omega,Nat.zero_le _,rfl,rfl⟩ ?_
 ·rw[hC',callP_rounds];unfold many;omega
 rintro m fr st ⟨j,rfl,hj,rfl,rfl⟩
 by_cases hlt:j<X.length
 ·have hL:=fillF_len F X.length j hj
  have hset:=fillF_set F X.length j hlt
  have hL2:=fillF_len F X.length (j+1) hlt
  have hget:dload (fillF F X.length (j+1)) j none=some (iN (F j)):=by
   have:(fillF F X.length (j+1))[j]? =some (iD (F j)):=by rw[← hset,List.getElem?_set_self (by omega)];rfl
   simp only[dload,lget_eq,this];rfl
  have hv:=hx j hlt
  have hbd:=snp_bd h1 h2 hv.1 hv.2
  have hGs:G (j+1)=(G j && decide (snp step X[j]! ≤1000000)):=by rw[hG];simp only[fitR,Bool.and_assoc]
  rw[show F j=snp step X[j]! by rw[hF]] at hset hget
  generalize hv':X[j]! =v at*
  have hne:¬ 2*step=0:=by omega
  unfold snp at hset hget hGs hbd
  obtain ⟨b1,b2,b3,b4⟩:=hbd
  by_cases hg:G j=true
  ·by_cases hle:step*((2*v+step) / (2*step))≤1000000
   ·rw[hg,decide_eq_true hle] at hGs
    repeat' (first|(simp (disch:=first|omega|assumption|exact bd (by with_unfolding_all rfl)|exact Or.inl rfl|exact Or.inl trivial|exact okL_map _ (fun _=>rfl) _|(simp only[VVlen]<;>omega)|fail) only[VV0,VV1,VV2,VV3,VV4,VV5,VV6,VV7,VV8,VV9,mkFnV,vargs,slotsL,opdsA,Nat.reduceEqDiff,Nat.reduceLT,Nat.reduceAdd,Nat.reduceBEq,Int.reduceAdd,Int.reduceSub,Int.reduceLT,Int.reduceLE,Int.reduceEq,Int.reduceNeg,↓reduceIte,reduceCtorEq,scL,scD,expand,List.replicate,c50l0,iD_dv,hv',hset,hget,snpH,hg])|apply gC_drawW|((first|apply gI_dec|apply gG_dec|apply gPG_dec|apply gI_var|apply gG_var|apply gPG_var)<;>intro _))
    all_goals try (exfalso;omega)
    exact ⟨_,_,_,by omega,.refl _ _,j+1,rfl,hlt,rfl,by rw[hGs];try rfl⟩
   ·rw[hg,decide_eq_false hle] at hGs
    repeat' (first|(simp (disch:=first|omega|assumption|exact bd (by with_unfolding_all rfl)|exact Or.inl rfl|exact Or.inl trivial|exact okL_map _ (fun _=>rfl) _|(simp only[VVlen]<;>omega)|fail) only[VV0,VV1,VV2,VV3,VV4,VV5,VV6,VV7,VV8,VV9,mkFnV,vargs,slotsL,opdsA,Nat.reduceEqDiff,Nat.reduceLT,Nat.reduceAdd,Nat.reduceBEq,Int.reduceAdd,Int.reduceSub,Int.reduceLT,Int.reduceLE,Int.reduceEq,Int.reduceNeg,↓reduceIte,reduceCtorEq,scL,scD,expand,List.replicate,c50l0,iD_dv,hv',hset,hget,snpH,hg])|apply gC_drawW|((first|apply gI_dec|apply gG_dec|apply gPG_dec|apply gI_var|apply gG_var|apply gPG_var)<;>intro _))
    all_goals try (exfalso;omega)
    exact ⟨_,_,_,by omega,.refl _ _,j+1,rfl,hlt,rfl,by rw[hGs];try rfl⟩
  ·rw[Bool.not_eq_true] at hg
   rw[hg,Bool.false_and] at hGs
   repeat' (first|(simp (disch:=first|omega|assumption|exact bd (by with_unfolding_all rfl)|exact Or.inl rfl|exact Or.inl trivial|exact okL_map _ (fun _=>rfl) _|(simp only[VVlen]<;>omega)|fail) only[VV0,VV1,VV2,VV3,VV4,VV5,VV6,VV7,VV8,VV9,mkFnV,vargs,slotsL,opdsA,Nat.reduceEqDiff,Nat.reduceLT,Nat.reduceAdd,Nat.reduceBEq,Int.reduceAdd,Int.reduceSub,Int.reduceLT,Int.reduceLE,Int.reduceEq,Int.reduceNeg,↓reduceIte,reduceCtorEq,scL,scD,expand,List.replicate,c50l0,iD_dv,hv',hset,hget,snpH,hg])|apply gC_drawW|((first|apply gI_dec|apply gG_dec|apply gPG_dec|apply gI_var|apply gG_var|apply gPG_var)<;>intro _))
   all_goals try (exfalso;omega)
   exact ⟨_,_,_,by omega,.refl _ _,j+1,rfl,hlt,rfl,by rw[hGs];try rfl⟩
 ·have:j=X.length:=by omega
  subst this
  have hfa:=fillF_all X (snp step)
  rw[← hF] at hfa
  have hL:=fillF_len F X.length X.length hj
  rw[show (G 0 && fitR step X X.length)=G X.length by rw[hG];simp[fitR]]
  repeat' (first|(simp (disch:=first|omega|assumption|exact bd (by with_unfolding_all rfl)|exact Or.inl rfl|exact Or.inl trivial|exact okL_map _ (fun _=>rfl) _|(simp only[VVlen]<;>omega)|fail) only[VV0,VV1,VV2,VV3,VV4,VV5,VV6,VV7,VV8,VV9,mkFnV,vargs,slotsL,opdsA,Nat.reduceEqDiff,Nat.reduceLT,Nat.reduceAdd,Nat.reduceBEq,Int.reduceAdd,Int.reduceSub,Int.reduceLT,Int.reduceLE,Int.reduceEq,Int.reduceNeg,↓reduceIte,reduceCtorEq,scL,scD,expand,List.replicate,c50l0,snpH])|apply gC_drawW|((first|apply gI_dec|apply gG_dec|apply gPG_dec|apply gI_var|apply gG_var|apply gPG_var)<;>intro _))
  rw[← hfa]
  exact (weak_snap (t:=0) rfl (snap_refD rfl hL) rfl).trans (weak_toB [(10,10),(9,9),(7,7),(5,5),(4,4),(3,3),(2,2),(1,1),(0,0)] 12 (by omega) rfl (by rw[hn];rfl) rfl rfl)
def eachH2 (S N:List (List UInt8)) (M:List (List Int)) (R:List D):VHp→VHp:=fun r=>(11,.box 25 1 [.gr 2 7 S.length,.gr 2 9 N.length,.ref 10 0 M.length M.length])::(10,.row 40 1 false false R)::(9,.gro 9 1 false (N.map sD))::(7,.gro 9 1 false (S.map sD))::(5,.box 25 1 [nilS,nilS,nilS])::(4,tabO 3 3 3 1 S N M)::r
def rowsS (M:List (List Int)) (step:Int) (j:Nat):List D:=(List.range j).map (fun i=>rowI 0 (M[i]!.map (snp step)))++List.replicate (M.length - j) (.sc (.slice none 0 0))
theorem rowsS_zero (M:List (List Int)) (step:Int):rowsS M step 0=List.replicate M.length (.sc (.slice none 0 0)):=by simp[rowsS]
theorem rowsS_len (M:List (List Int)) (step:Int) (j:Nat) (h:j≤M.length):(rowsS M step j).length=M.length:=by simp[rowsS];omega
theorem rowsS_set (M:List (List Int)) (step:Int) (j:Nat) (h:j<M.length):(rowsS M step j).set j (rowI 0 (M[j]!.map (snp step)))=rowsS M step (j+1):=by
 unfold rowsS
 rw[List.set_append_right _ _ (by simp),List.range_succ,List.map_append,List.append_assoc]
 congr 1
 rw[show M.length - j=(M.length - (j+1))+1 by omega,List.replicate_succ]
 simp
theorem each2_w {C:Ctx} (hC:C.E=EN w (n+3)) (S N:List (List UInt8)) (M:List (List Int)) (step:Int) (h1:1≤step) (h2:step≤10000) (hx:∀ k,k<M.length→∀ j,j<M[k]!.length→0≤M[k]![j]! ∧M[k]![j]! ≤1000000) (hl:∀ k,k<M.length→M[k]!.length≤1000000) (hM:M.length≤1000000) (hS:S.length≤1000000) (hN:N.length≤1000000) (hS0:0<S.length) (hN0:0<N.length):
 CallV C 49 [tableV 3 3 3 1 S N M,.fn 50 [] [.ptr 1 0,.ptr 3 0]] ⟨snpH S N M step true,4,0⟩
  fun v' st'=>v'= .agg [.gr 2 4 S.length,.gr 2 5 N.length,.ref 6 0 M.length M.length]∧st'=⟨(6,.row 40 1 false false (rowsS M step M.length))::(5,.gro 9 1 false (N.map sD))::(4,.gro 9 1 false (S.map sD))::snpH S N M step (fitM step M M.length),7,0⟩:=by
 refine callV_w (prims:=PR w) hC rfl rfl (fun _ _=>rfl) (Nat.le_of_ble_eq_true rfl) ⟨rfl,rfl⟩ fun C' hC' hn=>?_
 replace hn:C'.w0.nx=4:=hn
 have s1:∀ H:VHp,srcOf H 1 (strs 3 S)=some (S.length,S.map sD,[]):=fun H=>srcOf_sl H 1 _ _ _ (by simp)
 have s2:∀ H:VHp,srcOf H 1 (strs 3 N)=some (N.length,N.map sD,[]):=fun H=>srcOf_sl H 1 _ _ _ (by simp)
 have okS:okL (S.map sD)=true:=okL_map _ (fun _=>rfl) _
 have okN:okL (N.map sD)=true:=okL_map _ (fun _=>rfl) _
 have nS:S.length ≠ 0:=by omega
 have nN:N.length ≠ 0:=by omega
 repeat' (first|(simp (disch:=first|omega|assumption|exact bd (by with_unfolding_all rfl)|exact Or.inl rfl|exact Or.inl trivial|exact okL_map _ (fun _=>rfl) _|(simp only[VVlen]<;>omega)|fail) only[VV0,VV1,VV2,VV3,VV4,VV5,VV6,VV7,VV8,VV9,mkFnV,vargs,slotsL,opdsA,Nat.reduceEqDiff,Nat.reduceLT,Nat.reduceAdd,Nat.reduceBEq,Int.reduceAdd,Int.reduceSub,Int.reduceLT,Int.reduceLE,Int.reduceEq,Int.reduceNeg,↓reduceIte,reduceCtorEq,scL,scD,expand,List.replicate,c49,snpH,s1,s2])|apply gC_drawW|((first|apply gI_dec|apply gG_dec|apply gPG_dec|apply gI_var|apply gG_var|apply gPG_var)<;>intro _))
 rw[← rowsS_zero M step]
 refine gL_weak (weak_toB [(11,11),(10,10),(9,9),(7,7),(5,5),(4,4),(3,3),(2,2),(1,1),(0,0)] 12 (by omega) rfl (by rw[hn];rfl) rfl rfl) ?_
 refine g_while (fun m fr st=>∃ j:Nat,m=M.length - j∧j≤M.length∧fr= [(1,.fn 50 [] [.ptr 1 0,.ptr 3 0]),(4,.ptr 5 0),(5,.ptr 11 0),(22,rowsV 3 1 M),(23,iN M.length),(24,iN j)]∧
  st=⟨eachH2 S N M (rowsS M step j) (snpH S N M step (fitM step M j)),12,0⟩) M.length ?_ ⟨_,_,?_,0,by omega,Nat.zero_le _,rfl,rfl⟩ ?_
 ·rw[hC',callP_rounds];unfold many;omega
 ·exact .refl _ _
 rintro m fr st ⟨j,rfl,hj,rfl,rfl⟩
 by_cases hlt:j<M.length
 ·have hp:=fun C'' (h'':C''.E=C'.E)=>snap1_w w n (C:=C'') (by rw[h'',hC']) S N M step (fitM step M j) M[j]! (rowsS M step j) h1 h2 (hx j hlt) (hl j hlt)
  simp (disch:=first|omega|assumption|exact bd (by with_unfolding_all rfl)|exact Or.inl rfl|exact Or.inl trivial|exact okL_map _ (fun _=>rfl) _|(simp only[VVlen]<;>omega)|fail) only[VV0,VV1,VV2,VV3,VV4,VV5,VV6,VV7,VV8,VV9,mkFnV,vargs,slotsL,opdsA,Nat.reduceEqDiff,Nat.reduceLT,Nat.reduceAdd,Nat.reduceBEq,Int.reduceAdd,Int.reduceSub,Int.reduceLT,Int.reduceLE,Int.reduceEq,Int.reduceNeg,↓reduceIte,reduceCtorEq,scL,scD,expand,List.replicate,c49l0,eachH2,snpH]
  refine gC_drawWC (l:= [⟨⟨some 29,none,.fldA 2 (.tmp 5)⟩,[],none⟩,⟨⟨some 30,none,.load none (.tmp 29)⟩,[],none⟩,⟨⟨some 31,none,.mov (.tmp 6)⟩,[0,1],none⟩,⟨⟨some 32,none,.mov (.tmp 1)⟩,[0,1,2],none⟩,⟨⟨some 33,none,.mov (.tmp 7)⟩,[0,1,2,3],none⟩])
   (o:=11) (k:=0) rfl rfl (by decide) ⟨_,rfl,rfl⟩ ?_
  simp (disch:=first|omega|assumption|exact bd (by with_unfolding_all rfl)|exact Or.inl rfl|exact Or.inl trivial|exact okL_map _ (fun _=>rfl) _|(simp only[VVlen]<;>omega)|fail) only[VV0,VV1,VV2,VV3,VV4,VV5,VV6,VV7,VV8,VV9,mkFnV,vargs,slotsL,opdsA,Nat.reduceEqDiff,Nat.reduceLT,Nat.reduceAdd,Nat.reduceBEq,Int.reduceAdd,Int.reduceSub,Int.reduceLT,Int.reduceLE,Int.reduceEq,Int.reduceNeg,↓reduceIte,reduceCtorEq,scL,scD,expand,List.replicate,wpD_cons,wpDV_some,wpD_nil]
  refine ⟨_,_,_,_,_,_,_,rfl,rfl,rfl,?_,rfl,rfl,rfl,rfl,rfl,Nat.zero_le _,?_,?_,fun C'' h'' _=>hp C'' h'',?_⟩
  ·intro ys s;rw[hC'];rfl
  ·rfl
  ·exact noH_get rfl
  ·have hL:=rowsS_len M step j hj
   have hset:=rowsS_set M step j hlt
   unfold rowI at hset
   rw[List.length_map] at hset
   repeat' (first|(simp (disch:=first|omega|assumption|exact bd (by with_unfolding_all rfl)|exact Or.inl rfl|exact Or.inl trivial|exact okL_map _ (fun _=>rfl) _|(simp only[VVlen]<;>omega)|fail) only[VV0,VV1,VV2,VV3,VV4,VV5,VV6,VV7,VV8,VV9,mkFnV,vargs,slotsL,opdsA,Nat.reduceEqDiff,Nat.reduceLT,Nat.reduceAdd,Nat.reduceBEq,Int.reduceAdd,Int.reduceSub,Int.reduceLT,Int.reduceLE,Int.reduceEq,Int.reduceNeg,↓reduceIte,reduceCtorEq,scL,scD,expand,List.replicate,snpH,hset])|apply gC_drawW|((first|apply gI_dec|apply gG_dec|apply gPG_dec|apply gI_var|apply gG_var|apply gPG_var)<;>intro _))
   exact ⟨_,_,_,by omega,.refl _ _,j+1,rfl,hlt,rfl,rfl⟩
 ·have:j=M.length:=by omega
  subst this
  repeat' (first|(simp (disch:=first|omega|assumption|exact bd (by with_unfolding_all rfl)|exact Or.inl rfl|exact Or.inl trivial|exact okL_map _ (fun _=>rfl) _|(simp only[VVlen]<;>omega)|fail) only[VV0,VV1,VV2,VV3,VV4,VV5,VV6,VV7,VV8,VV9,mkFnV,vargs,slotsL,opdsA,Nat.reduceEqDiff,Nat.reduceLT,Nat.reduceAdd,Nat.reduceBEq,Int.reduceAdd,Int.reduceSub,Int.reduceLT,Int.reduceLE,Int.reduceEq,Int.reduceNeg,↓reduceIte,reduceCtorEq,scL,scD,expand,List.replicate,c49l0,eachH2,snpH])|apply gC_drawW|((first|apply gI_dec|apply gG_dec|apply gPG_dec|apply gI_var|apply gG_var|apply gPG_var)<;>intro _))
  exact weak_toB [(10,6),(9,5),(7,4),(3,3),(2,2),(1,1),(0,0)] 7 (by omega) rfl (by rw[hn];rfl) rfl rfl
end
abbrev snpM (M:List (List Int)) (step:Int):List (List Int):=M.map fun l=>l.map (snp step)
theorem rowsS_all (M:List (List Int)) (step:Int):rowsS M step M.length=(snpM M step).map (rowI 0):=by
 simp only[rowsS,Nat.sub_self,List.replicate_zero,List.append_nil]
 apply List.ext_getElem
 ·simp
 ·intro i h1 h2
  simp at h1 ⊢
  simp[h1]
theorem snap_t {H:VHp} {v v':V} {x:Value} (h:snapV H v=some v'):snapV H (.tup [v,.sc x])=some (.tup [v',.sc x]):=by
 simp only[snapV,snapL,h,Option.bind_some,Option.map_some]
section
variable (w:World) (n:Nat)
theorem snap_bad (S N:List (List UInt8)) (M:List (List Int)) (hm:Mod S N M) (step:Int) (hst:isInt step) (h:Val S N M) (ha:¬ (1≤step∧step≤10000)):
 VSpec (EN w (n+4)) 22 [tableV 3 3 3 1 S N M,iN step] (.tup [noT,iN 2]) ⟨[],0,0⟩:=by
 refine vspec_flat rfl rfl (fun _ _=>rfl) (Nat.le_of_ble_eq_true rfl) (oldVals w) rfl fun C hC h0=>?_
 have hc:=check_p w n 3 3 3 1 S N M hm
 rw[(val_iff S N M).2 h] at hc
 unfold isInt at hst
 repeat' (first|(simp (disch:=first|omega|assumption|exact bd (by with_unfolding_all rfl)|exact Or.inl rfl|exact Or.inl trivial|exact okL_map _ (fun _=>rfl) _|(simp only[VVlen]<;>omega)|fail) only[VV0,VV1,VV2,VV3,VV4,VV5,VV6,VV7,VV8,VV9,mkFnV,vargs,slotsL,opdsA,Nat.reduceEqDiff,Nat.reduceLT,Nat.reduceAdd,Nat.reduceBEq,Int.reduceAdd,Int.reduceSub,Int.reduceLT,Int.reduceLE,Int.reduceEq,Int.reduceNeg,↓reduceIte,reduceCtorEq,scL,scD,expand,List.replicate,c22])|apply gC_drawW|((first|apply gI_dec|apply gG_dec|apply gPG_dec|apply gI_var|apply gG_var|apply gPG_var)<;>intro _))
 refine callV_flat (by rw[hC];exact hc.flat rfl rfl) ?_
 repeat' (first|(simp (disch:=first|omega|assumption|exact bd (by with_unfolding_all rfl)|exact Or.inl rfl|exact Or.inl trivial|exact okL_map _ (fun _=>rfl) _|(simp only[VVlen]<;>omega)|fail) only[VV0,VV1,VV2,VV3,VV4,VV5,VV6,VV7,VV8,VV9,mkFnV,vargs,slotsL,opdsA,Nat.reduceEqDiff,Nat.reduceLT,Nat.reduceAdd,Nat.reduceBEq,Int.reduceAdd,Int.reduceSub,Int.reduceLT,Int.reduceLE,Int.reduceEq,Int.reduceNeg,↓reduceIte,reduceCtorEq,scL,scD,expand,List.replicate])|apply gC_drawW|((first|apply gI_dec|apply gG_dec|apply gPG_dec|apply gI_var|apply gG_var|apply gPG_var)<;>intro _))
 all_goals try (exfalso;omega)
 all_goals exact weak_flat rfl h0 rfl
theorem snap_p (S N:List (List UInt8)) (M:List (List Int)) (hm:Mod S N M) (step:Int) (h:Val S N M) (h1:1≤step) (h2:step≤10000):
 VSpec (EN w (n+4)) 22 [tableV 3 3 3 1 S N M,iN step] (if fitM step M M.length=true then .tup [tableV 2 2 0 0 S N (snpM M step),iN 0] else .tup [noT,iN 16]) ⟨[],0,0⟩:=by
 have hc:=check_p w n 3 3 3 1 S N M hm
 rw[(val_iff S N M).2 h] at hc
 have hS:=h.s
 have hN:=h.n
 have hM:M.length≤30:=by have:=h.m;omega
 by_cases hf:fitM step M M.length=true
 ·rw[if_pos hf]
  refine vspec_g rfl rfl (fun _ _=>rfl) (Nat.le_of_ble_eq_true rfl) (oldVals w) (retOK_nil (by simp only[Cl,ClL,and_true,true_and];trivial)) rfl fun C hC h0=>?_
  obtain ⟨v,st',⟨rfl,rfl⟩,he⟩:=each2_w w n hC S N M step h1 h2 (fun k hk j hj=>⟨((h.row hk).2 j hj).1,((h.row hk).2 j hj).2.1⟩) (fun k hk=>by have:=(h.row hk).1;omega) (by omega) (by omega) (by omega) h.s1 h.n1
  rw[hf] at he
  repeat' (first|(simp (disch:=first|omega|assumption|exact bd (by with_unfolding_all rfl)|exact Or.inl rfl|exact Or.inl trivial|exact okL_map _ (fun _=>rfl) _|(simp only[VVlen]<;>omega)|fail) only[VV0,VV1,VV2,VV3,VV4,VV5,VV6,VV7,VV8,VV9,mkFnV,vargs,slotsL,opdsA,Nat.reduceEqDiff,Nat.reduceLT,Nat.reduceAdd,Nat.reduceBEq,Int.reduceAdd,Int.reduceSub,Int.reduceLT,Int.reduceLE,Int.reduceEq,Int.reduceNeg,↓reduceIte,reduceCtorEq,scL,scD,expand,List.replicate,c22])|apply gC_drawW|((first|apply gI_dec|apply gG_dec|apply gPG_dec|apply gI_var|apply gG_var|apply gPG_var)<;>intro _))
  refine callV_flat (by rw[hC];exact hc.flat rfl rfl) ?_
  repeat' (first|(simp (disch:=first|omega|assumption|exact bd (by with_unfolding_all rfl)|exact Or.inl rfl|exact Or.inl trivial|exact okL_map _ (fun _=>rfl) _|(simp only[VVlen]<;>omega)|fail) only[VV0,VV1,VV2,VV3,VV4,VV5,VV6,VV7,VV8,VV9,mkFnV,vargs,slotsL,opdsA,Nat.reduceEqDiff,Nat.reduceLT,Nat.reduceAdd,Nat.reduceBEq,Int.reduceAdd,Int.reduceSub,Int.reduceLT,Int.reduceLE,Int.reduceEq,Int.reduceNeg,↓reduceIte,reduceCtorEq,scL,scD,expand,List.replicate])|apply gC_drawW|((first|apply gI_dec|apply gG_dec|apply gPG_dec|apply gI_var|apply gG_var|apply gPG_var)<;>intro _))
  all_goals try (exfalso;omega)
  refine ⟨_,_,?_,he⟩
  rw[rowsS_all]
  repeat' (first|(simp (disch:=first|omega|assumption|exact bd (by with_unfolding_all rfl)|exact Or.inl rfl|exact Or.inl trivial|exact okL_map _ (fun _=>rfl) _|(simp only[VVlen]<;>omega)|fail) only[VV0,VV1,VV2,VV3,VV4,VV5,VV6,VV7,VV8,VV9,mkFnV,vargs,slotsL,opdsA,Nat.reduceEqDiff,Nat.reduceLT,Nat.reduceAdd,Nat.reduceBEq,Int.reduceAdd,Int.reduceSub,Int.reduceLT,Int.reduceLE,Int.reduceEq,Int.reduceNeg,↓reduceIte,reduceCtorEq,scL,scD,expand,List.replicate,snpH])|apply gC_drawW|((first|apply gI_dec|apply gG_dec|apply gPG_dec|apply gI_var|apply gG_var|apply gPG_var)<;>intro _))
  have eM:(snpM M step).length=M.length:=by simp
  refine finA (snap_t (snap_3 (a':=strs 2 S) (b':=strs 2 N) (c':=rowsV 0 0 (snpM M step)) (snap_grD (n:=S.length) (l:=S.map sD) rfl (by simp)) (snap_grD (n:=N.length) (l:=N.map sD) rfl (by simp)) ?_)) rfl rfl rfl h0
  rw[show rowsV 0 0 (snpM M step)= .sl 0 M.length ((snpM M step).map (rowI 0)) by show V.sl 0 _ _=_;rw[eM]]
  exact snap_refD rfl (by simp)
 ·rw[if_neg hf]
  rw[Bool.not_eq_true] at hf
  refine vspec_flat rfl rfl (fun _ _=>rfl) (Nat.le_of_ble_eq_true rfl) (oldVals w) rfl fun C hC h0=>?_
  obtain ⟨v,st',⟨rfl,rfl⟩,he⟩:=each2_w w n hC S N M step h1 h2 (fun k hk j hj=>⟨((h.row hk).2 j hj).1,((h.row hk).2 j hj).2.1⟩) (fun k hk=>by have:=(h.row hk).1;omega) (by omega) (by omega) (by omega) h.s1 h.n1
  rw[hf] at he
  repeat' (first|(simp (disch:=first|omega|assumption|exact bd (by with_unfolding_all rfl)|exact Or.inl rfl|exact Or.inl trivial|exact okL_map _ (fun _=>rfl) _|(simp only[VVlen]<;>omega)|fail) only[VV0,VV1,VV2,VV3,VV4,VV5,VV6,VV7,VV8,VV9,mkFnV,vargs,slotsL,opdsA,Nat.reduceEqDiff,Nat.reduceLT,Nat.reduceAdd,Nat.reduceBEq,Int.reduceAdd,Int.reduceSub,Int.reduceLT,Int.reduceLE,Int.reduceEq,Int.reduceNeg,↓reduceIte,reduceCtorEq,scL,scD,expand,List.replicate,c22])|apply gC_drawW|((first|apply gI_dec|apply gG_dec|apply gPG_dec|apply gI_var|apply gG_var|apply gPG_var)<;>intro _))
  refine callV_flat (by rw[hC];exact hc.flat rfl rfl) ?_
  repeat' (first|(simp (disch:=first|omega|assumption|exact bd (by with_unfolding_all rfl)|exact Or.inl rfl|exact Or.inl trivial|exact okL_map _ (fun _=>rfl) _|(simp only[VVlen]<;>omega)|fail) only[VV0,VV1,VV2,VV3,VV4,VV5,VV6,VV7,VV8,VV9,mkFnV,vargs,slotsL,opdsA,Nat.reduceEqDiff,Nat.reduceLT,Nat.reduceAdd,Nat.reduceBEq,Int.reduceAdd,Int.reduceSub,Int.reduceLT,Int.reduceLE,Int.reduceEq,Int.reduceNeg,↓reduceIte,reduceCtorEq,scL,scD,expand,List.replicate])|apply gC_drawW|((first|apply gI_dec|apply gG_dec|apply gPG_dec|apply gI_var|apply gG_var|apply gPG_var)<;>intro _))
  all_goals try (exfalso;omega)
  refine ⟨_,_,?_,he⟩
  rw[rowsS_all]
  repeat' (first|(simp (disch:=first|omega|assumption|exact bd (by with_unfolding_all rfl)|exact Or.inl rfl|exact Or.inl trivial|exact okL_map _ (fun _=>rfl) _|(simp only[VVlen]<;>omega)|fail) only[VV0,VV1,VV2,VV3,VV4,VV5,VV6,VV7,VV8,VV9,mkFnV,vargs,slotsL,opdsA,Nat.reduceEqDiff,Nat.reduceLT,Nat.reduceAdd,Nat.reduceBEq,Int.reduceAdd,Int.reduceSub,Int.reduceLT,Int.reduceLE,Int.reduceEq,Int.reduceNeg,↓reduceIte,reduceCtorEq,scL,scD,expand,List.replicate,snpH])|apply gC_drawW|((first|apply gI_dec|apply gG_dec|apply gPG_dec|apply gI_var|apply gG_var|apply gPG_var)<;>intro _))
  exact weak_flat rfl h0 rfl
end
section
variable {α:Type} {l:List α} {k:Nat} {x:α}
theorem withL_take (h:k≤l.length):(withL l k x).take k=l.take k:=List.take_left' (by simp;omega)
theorem withL_drop (h:k≤l.length):(withL l k x).drop (k+1)=l.drop k:=by
 rw[show withL l k x=(l.take k++ [x])++l.drop k by simp[withL]]
 exact List.drop_left' (by simp;omega)
theorem withL_at [Inhabited α] (h:k≤l.length):(withL l k x)[k]! =x:=by
 have e:(withL l k x)[k]? =some x:=by
  rw[withL,List.getElem?_append_right (by simp;omega),List.length_take,Nat.min_eq_left h,Nat.sub_self];rfl
 simp[e]
theorem withL_len (h:k≤l.length):(withL l k x).length=l.length+1:=by simp[withL];omega
end
section
variable (w:World) (n:Nat)
def rowsN (M:List (List Int)) (j:Nat):List D:=(List.range j).map fun i=>rowI 2 M[i]!
theorem wo_loop {C:Ctx} (hC:C.E=EN w (n+2)) (h0:C.w0.nx=0) (S N:List (List UInt8)) (W:List (List UInt8)) (M:List (List Int)) (k:Nat) (B:List Int) (h:Val S N M) (hk0:0<k) (hk:k≤S.length) {K:List KF} {P:VPost}
 (hgo:gK C K (.exit 0) [(1,iN k),(4,.ptr 0 0),(6,.ptr 1 0),(9,.ptr 3 0),(10,iN M.length),(48,.sc (.bool false))] ⟨[(4,.gro 40 1 false (rowsN M M.length)),(3,.box 25 1 [.gr 2 2 S.length,strs 2 N,.gr 2 4 M.length]),(2,.gro 9 1 false (S.map sD)),(1,tabO 3 3 3 1 S N M),(0,tabO 2 2 0 2 W N (rowsW M k B))],5,0⟩ P):
 gL C [1,4,6,9,10] c20l0 K [(1,iN k),(4,.ptr 0 0),(6,.ptr 1 0),(9,.ptr 3 0),(10,iN 0)] ⟨[(4,.gro 40 1 false (rowsN M 0)),(3,.box 25 1 [.gr 2 2 S.length,strs 2 N,.gr 2 4 0]),(2,.gro 9 1 false (S.map sD)),(1,tabO 3 3 3 1 S N M),(0,tabO 2 2 0 2 W N (rowsW M k B))],5,0⟩ P:=by
 have hS:=h.s
 have hM:M.length≤30:=by have:=h.m;have:=h.n;omega
 have eW:=rowsW_len M k B
 refine g_while (fun m fr st=>∃ j:Nat,m=M.length - j∧j≤M.length∧fr= [(1,iN k),(4,.ptr 0 0),(6,.ptr 1 0),(9,.ptr 3 0),(10,iN j)]∧
  st=⟨[(4,.gro 40 1 false (rowsN M j)),(3,.box 25 1 [.gr 2 2 S.length,strs 2 N,.gr 2 4 j]),(2,.gro 9 1 false (S.map sD)),(1,tabO 3 3 3 1 S N M),(0,tabO 2 2 0 2 W N (rowsW M k B))],5,0⟩) M.length ?_ ⟨_,_,.refl _ _,0,by omega,Nat.zero_le _,rfl,rfl⟩ ?_
 ·rw[hC,callP_rounds];unfold many;omega
 rintro m fr st ⟨j,rfl,hj,rfl,rfl⟩
 by_cases hlt:j<M.length
 ·have hr:=(h.row hlt).1
  have hx:(rowsW M k B)[j]! =withL M[j]! k B[j]! :=by simp[rowsW,hlt]
  generalize rowsW M k B=Q at*
  have hkl:k≤M[j]!.length:=by omega
  have s1:List.take (k - 0) (withL M[j]! k B[j]!)=M[j]!.take k:=by rw[Nat.sub_zero,withL_take hkl]
  have s2:List.drop (k+1) (withL M[j]! k B[j]!)=M[j]!.drop k:=withL_drop hkl
  have s3:List.take (M[j]!.length+1 - (k+1)) (M[j]!.drop k)=M[j]!.drop k:=List.take_of_length_le (by simp)
  have eL:(withL M[j]! k B[j]!).length=M[j]!.length+1:=withL_len hkl
  have e2:((k:Int)+1).toNat=k+1:=by omega
  generalize hy:withL M[j]! k B[j]! =Y at*
  generalize hX:M[j]! =X at*
  have l1:((X.take k).map iD).length=k:=by simp;omega
  have l2:((X.drop k).map iD).length=X.length - k:=by simp
  have ok1:okL ((X.take k).map iD)=true:=okL_map _ (fun _=>rfl) _
  have ok2:okL ((X.drop k).map iD)=true:=okL_map _ (fun _=>rfl) _
  have lN:(rowsN M j).length=j:=by simp[rowsN]
  have eN:rowsN M j++ [.sl 2 X.length (X.map iD)]=rowsN M (j+1):=by
   unfold rowsN
   rw[List.range_succ,List.map_append,List.map_singleton,hX];rfl
  by_cases hkk:k<S.length
  ·have e3:k+(X.length+1 - (k+1))=X.length:=by omega
   have e4:(X.take k).map iD++(X.drop k).map iD=X.map iD:=by rw[← List.map_append,List.take_append_drop]
   have l3:(X.map iD).length=X.length:=by simp
   repeat' (first|(simp (disch:=first|omega|assumption|exact bd (by with_unfolding_all rfl)|exact Or.inl rfl|exact Or.inl trivial|exact okL_map _ (fun _=>rfl) _|(simp only[VVlen]<;>omega)|fail) only[VV0,VV1,VV2,VV3,VV4,VV5,VV6,VV7,VV8,VV9,mkFnV,vargs,slotsL,opdsA,Nat.reduceEqDiff,Nat.reduceLT,Nat.reduceAdd,Nat.reduceBEq,Int.reduceAdd,Int.reduceSub,Int.reduceLT,Int.reduceLE,Int.reduceEq,Int.reduceNeg,↓reduceIte,reduceCtorEq,scL,scD,expand,List.replicate,c20l0,rowI_dv,hx,eL,s1,s2,s3,e2,e3,e4,vd_app,dAppY_rsl,dAppR_row,dAppY_gsl,dAppS_gro])|apply gC_drawW|((first|apply gI_dec|apply gG_dec|apply gPG_dec|apply gI_var|apply gG_var|apply gPG_var)<;>intro _))
   all_goals try (exfalso;omega)
   refine ⟨_,_,_,?_,weak_to [(9,4),(3,3),(2,2),(1,1),(0,0)] 5 h0 rfl rfl rfl rfl,j+1,rfl,hlt,rfl,?_⟩
   ·omega
   ·rw[← eN];rfl
  ·have e6:X.take k=X:=List.take_of_length_le (by omega)
   have s4:X.drop k= []:=List.drop_eq_nil_of_le (by omega)
   have s5:X.length+1 - (k+1)=0:=by omega
   rw[e6] at s1 l1 ok1
   have ekX:k=X.length:=by omega
   repeat' (first|(simp (disch:=first|omega|assumption|exact bd (by with_unfolding_all rfl)|exact Or.inl rfl|exact Or.inl trivial|exact okL_map _ (fun _=>rfl) _|(simp only[VVlen]<;>omega)|fail) only[VV0,VV1,VV2,VV3,VV4,VV5,VV6,VV7,VV8,VV9,mkFnV,vargs,slotsL,opdsA,Nat.reduceEqDiff,Nat.reduceLT,Nat.reduceAdd,Nat.reduceBEq,Int.reduceAdd,Int.reduceSub,Int.reduceLT,Int.reduceLE,Int.reduceEq,Int.reduceNeg,↓reduceIte,reduceCtorEq,scL,scD,expand,List.replicate,c20l0,rowI_dv,hx,eL,s1,s2,s3,s4,s5,e2,vd_app,dAppY_rsl,dAppR_row,dAppY_gsl,dAppS_gro0,List.take_nil,List.map_nil])|apply gC_drawW|((first|apply gI_dec|apply gG_dec|apply gPG_dec|apply gI_var|apply gG_var|apply gPG_var)<;>intro _))
   all_goals try (exfalso;omega)
   rw[show (D.sl 2 k (List.map iD X))= .sl 2 X.length (List.map iD X) by rw[ekX]]
   refine ⟨_,_,_,?_,weak_to [(8,4),(3,3),(2,2),(1,1),(0,0)] 5 h0 rfl rfl rfl rfl,j+1,rfl,hlt,rfl,?_⟩
   ·omega
   ·rw[← eN];rfl
 ·have:j=M.length:=by omega
  subst this
  repeat' (first|(simp (disch:=first|omega|assumption|exact bd (by with_unfolding_all rfl)|exact Or.inl rfl|exact Or.inl trivial|exact okL_map _ (fun _=>rfl) _|(simp only[VVlen]<;>omega)|fail) only[VV0,VV1,VV2,VV3,VV4,VV5,VV6,VV7,VV8,VV9,mkFnV,vargs,slotsL,opdsA,Nat.reduceEqDiff,Nat.reduceLT,Nat.reduceAdd,Nat.reduceBEq,Int.reduceAdd,Int.reduceSub,Int.reduceLT,Int.reduceLE,Int.reduceEq,Int.reduceNeg,↓reduceIte,reduceCtorEq,scL,scD,expand,List.replicate,c20l0])|apply gC_drawW|((first|apply gI_dec|apply gG_dec|apply gPG_dec|apply gI_var|apply gG_var|apply gPG_var)<;>intro _))
  exact hgo
theorem without_p (S N:List (List UInt8)) (M:List (List Int)) (k:Nat) (B:List Int) (x:List UInt8) (h:Val S N M) (hm:Mod S N M) (hk0:0<k) (hk:k≤S.length) (hx:x.length≤1000) (hB:B.length=M.length):
 VSpec (EN w (n+3)) 20 [tableV 2 2 0 2 (withL S k x) N (rowsW M k B),iN k,tableV 3 3 3 1 S N M,strV x] (.sc (.bool true)) ⟨[],0,0⟩:=by
 refine vspec_flat rfl rfl (fun _ _=>rfl) (Nat.le_of_ble_eq_true rfl) (oldVals w) rfl fun C hC h0=>?_
 have hS:=h.s
 have eS:(withL S k x).length=S.length+1:=withL_len hk
 have eM:=rowsW_len M k B
 have hM:M.length≤30:=by have:=h.m;have:=h.n;omega
 have eat:(withL S k x)[k]! =x:=withL_at hk
 have s1:List.take (k - 0) (withL S k x)=S.take k:=by rw[Nat.sub_zero,withL_take hk]
 have s2:List.drop (k+1) (withL S k x)=S.drop k:=withL_drop hk
 have s3:List.take (S.length+1 - (k+1)) (S.drop k)=S.drop k:=List.take_of_length_le (by simp)
 generalize withL S k x=W at*
 have l1:((S.take k).map sD).length=k:=by simp;omega
 have l2:((S.drop k).map sD).length=S.length - k:=by simp
 have ok1:okL ((S.take k).map sD)=true:=okL_map _ (fun _=>rfl) _
 have ok2:okL ((S.drop k).map sD)=true:=okL_map _ (fun _=>rfl) _
 have e2:((k:Int)+1).toNat=k+1:=by omega
 have lN:(rowsN M M.length).length=M.length:=by simp[rowsN]
 have eN:rowsN M M.length=M.map (rowI 2):=by
  unfold rowsN
  apply List.ext_getElem
  ·simp
  ·intro i h1 h2
   simp at h1 ⊢
   simp[h1]
 have hsame:=same_p w n 2 2 2 2 3 3 3 1 S N M hm
 have hend:gK C [KF.block 0,KF.seq ((AC.ops [⟨some 82,none,.load (some 3) (.tmp 9)⟩,⟨some 83,none,.load (some 3) (.tmp 6)⟩,⟨some 84,none,.callF 14 [.tmp 82,.tmp 83]⟩,⟨some 8,none,.mov (.tmp 84)⟩] [8]).seq AC.ret)] (.exit 0)
   [(1,iN k),(4,.ptr 0 0),(6,.ptr 1 0),(9,.ptr 3 0),(10,iN M.length),(48,.sc (.bool false))] ⟨[(4,.gro 40 1 false (rowsN M M.length)),(3,.box 25 1 [.gr 2 2 S.length,strs 2 N,.gr 2 4 M.length]),(2,.gro 9 1 false (S.map sD)),(1,tabO 3 3 3 1 S N M),(0,tabO 2 2 0 2 W N (rowsW M k B))],5,0⟩
   (RetV C [(8,none)] (.sc (.bool true)) ⟨[],0,0⟩):=by
  repeat' (first|(simp (disch:=first|omega|assumption|exact bd (by with_unfolding_all rfl)|exact Or.inl rfl|exact Or.inl trivial|exact okL_map _ (fun _=>rfl) _|(simp only[VVlen]<;>omega)|fail) only[VV0,VV1,VV2,VV3,VV4,VV5,VV6,VV7,VV8,VV9,mkFnV,vargs,slotsL,opdsA,Nat.reduceEqDiff,Nat.reduceLT,Nat.reduceAdd,Nat.reduceBEq,Int.reduceAdd,Int.reduceSub,Int.reduceLT,Int.reduceLE,Int.reduceEq,Int.reduceNeg,↓reduceIte,reduceCtorEq,scL,scD,expand,List.replicate])|apply gC_drawW|((first|apply gI_dec|apply gG_dec|apply gPG_dec|apply gI_var|apply gG_var|apply gPG_var)<;>intro _))
  refine callV_of (xs':= [tableV 2 2 2 2 S N M,tableV 3 3 3 1 S N M]) (by rw[hC];exact hsame) ?_ rfl rfl ?_
  ·rw[eN]
   show (snapV _ (.agg [.gr 2 2 S.length,strs 2 N,.gr 2 4 M.length])).bind _=_
   rw[snap_3 (a':=strs 2 S) (b':=strs 2 N) (c':=rowsV 2 2 M) (snap_grD (n:=S.length) (l:=S.map sD) rfl (by simp)) rfl (snap_grD (n:=M.length) (l:=M.map (rowI 2)) rfl (by simp))]
   rfl
  repeat' (first|(simp (disch:=first|omega|assumption|exact bd (by with_unfolding_all rfl)|exact Or.inl rfl|exact Or.inl trivial|exact okL_map _ (fun _=>rfl) _|(simp only[VVlen]<;>omega)|fail) only[VV0,VV1,VV2,VV3,VV4,VV5,VV6,VV7,VV8,VV9,mkFnV,vargs,slotsL,opdsA,Nat.reduceEqDiff,Nat.reduceLT,Nat.reduceAdd,Nat.reduceBEq,Int.reduceAdd,Int.reduceSub,Int.reduceLT,Int.reduceLE,Int.reduceEq,Int.reduceNeg,↓reduceIte,reduceCtorEq,scL,scD,expand,List.replicate,vsh,vshL,shH,shO,fzSL,fzS,frozA_none])|apply gC_drawW|((first|apply gI_dec|apply gG_dec|apply gPG_dec|apply gI_var|apply gG_var|apply gPG_var)<;>intro _))
  exact weak_flat rfl h0 rfl
 have hnil:∀ {fr:VFr},Weak C fr ⟨[(3,.box 25 1 [.gr 2 2 S.length,strs 2 N,nilS]),(2,.gro 9 1 false (S.map sD)),(1,tabO 3 3 3 1 S N M),(0,tabO 2 2 0 2 W N (rowsW M k B))],4,0⟩ fr
   ⟨[(4,.gro 40 1 false (rowsN M 0)),(3,.box 25 1 [.gr 2 2 S.length,strs 2 N,.gr 2 4 0]),(2,.gro 9 1 false (S.map sD)),(1,tabO 3 3 3 1 S N M),(0,tabO 2 2 0 2 W N (rowsW M k B))],5,0⟩:=fun {fr}=>
  weak_nilCell (l:= [.gr 2 2 S.length,strs 2 N,nilS]) 3 25 1 2 40 1 rfl rfl (show (3:Nat) ≠ 4 from by decide)
 by_cases hkk:k<S.length
 ·have e3:k+(S.length+1 - (k+1))=S.length:=by omega
  have e4:(S.take k).map sD++(S.drop k).map sD=S.map sD:=by rw[← List.map_append,List.take_append_drop]
  repeat' (first|(simp (disch:=first|omega|assumption|exact bd (by with_unfolding_all rfl)|exact Or.inl rfl|exact Or.inl trivial|exact okL_map _ (fun _=>rfl) _|(simp only[VVlen]<;>omega)|fail) only[VV0,VV1,VV2,VV3,VV4,VV5,VV6,VV7,VV8,VV9,mkFnV,vargs,slotsL,opdsA,Nat.reduceEqDiff,Nat.reduceLT,Nat.reduceAdd,Nat.reduceBEq,Int.reduceAdd,Int.reduceSub,Int.reduceLT,Int.reduceLE,Int.reduceEq,Int.reduceNeg,↓reduceIte,reduceCtorEq,scL,scD,expand,List.replicate,c20,sD_dv,eat,mk_inj,s1,s2,s3,e2,e3,e4,eS,vd_app,dAppY_rsl,dAppR_row,dAppY_gsl,dAppS_gro])|apply gC_drawW|((first|apply gI_dec|apply gG_dec|apply gPG_dec|apply gI_var|apply gG_var|apply gPG_var)<;>intro _))
  all_goals try (exfalso;omega)
  exact gL_weak ((weak_to [(5,3),(4,2),(1,1),(0,0)] 4 h0 rfl rfl rfl rfl).trans hnil) (wo_loop w n hC h0 S N W M k B h hk0 hk hend)
 ·have hk2:k=S.length:=by omega
  have s4:S.drop k= []:=List.drop_eq_nil_of_le (by omega)
  have s5:S.length+1 - (k+1)=0:=by omega
  have e6:S.take k=S:=List.take_of_length_le (by omega)
  rw[e6] at s1 l1 ok1
  repeat' (first|(simp (disch:=first|omega|assumption|exact bd (by with_unfolding_all rfl)|exact Or.inl rfl|exact Or.inl trivial|exact okL_map _ (fun _=>rfl) _|(simp only[VVlen]<;>omega)|fail) only[VV0,VV1,VV2,VV3,VV4,VV5,VV6,VV7,VV8,VV9,mkFnV,vargs,slotsL,opdsA,Nat.reduceEqDiff,Nat.reduceLT,Nat.reduceAdd,Nat.reduceBEq,Int.reduceAdd,Int.reduceSub,Int.reduceLT,Int.reduceLE,Int.reduceEq,Int.reduceNeg,↓reduceIte,reduceCtorEq,scL,scD,expand,List.replicate,c20,sD_dv,eat,mk_inj,s1,s2,s3,s4,s5,e2,eS,vd_app,dAppY_rsl,dAppR_row,dAppY_gsl,dAppS_gro0,List.take_nil,List.map_nil])|apply gC_drawW|((first|apply gI_dec|apply gG_dec|apply gPG_dec|apply gI_var|apply gG_var|apply gPG_var)<;>intro _))
  all_goals try (exfalso;omega)
  rw[show (V.gr 2 3 k)= .gr 2 3 S.length by rw[hk2]]
  exact gL_weak ((weak_to [(4,3),(3,2),(1,1),(0,0)] 4 h0 rfl rfl rfl rfl).trans hnil) (wo_loop w n hC h0 S N W M k B h hk0 hk hend)
end
set_option maxHeartbeats 200000
theorem withL_get {α:Type} [Inhabited α] {l:List α} {k:Nat} {x:α} (h:k≤l.length) (j:Nat):(withL l k x)[j]! =if j<k then l[j]! else if j=k then x else l[j - 1]! :=by
 have e:(withL l k x)[j]? =if j<k then l[j]? else if j=k then some x else l[j - 1]? :=by
  unfold withL
  have hk:(l.take k).length=k:=by simp;omega
  split
  ·rename_i h1
   rw[List.getElem?_append_left (by omega),List.getElem?_take_of_lt h1]
  ·rename_i h1
   rw[List.getElem?_append_right (by omega),hk]
   split
   ·rename_i h2;subst h2;simp
   ·rename_i h2
    rw[show j - k=(j - 1 - k)+1 by omega,List.getElem?_cons_succ,List.getElem?_drop]
    congr 1;omega
 rw[List.getElem!_eq_getElem?_getD,e]
 split
 ·rw[List.getElem!_eq_getElem?_getD]
 ·split
  ·rfl
  ·rw[List.getElem!_eq_getElem?_getD]
theorem place_lt {l:List (List UInt8)} {x:List UInt8}:(¬ 0≤placeG l x l.length)↔∀ j,j<l.length→l[j]! ≠ x:=by
 constructor
 ·intro h j hj e
  have:∃ i,i≤j∧l[i]! =x∧∀ q,q<i→¬ l[q]! =x:=by
   induction j using Nat.strongRecOn with
   |_ j ih=>
    by_cases h1:∃ q,q<j∧l[q]! =x
    ·obtain ⟨q,h2,h3⟩:=h1
     obtain ⟨i,a,b,c⟩:=ih q h2 (by omega) h3
     exact ⟨i,by omega,b,c⟩
    ·exact ⟨j,Nat.le_refl _,e,fun q hq hh=>h1 ⟨q,hq,hh⟩⟩
  obtain ⟨i,h1,h2,h3⟩:=this
  rw[placeG_some h2 h3 l.length (by omega)] at h
  omega
 ·intro h
  rw[placeG_none l.length (fun j hj=>h j hj)]
  omega
theorem twice_iff (l:List (List UInt8)):twiceS l=false↔∀ i j,i<j→j<l.length→l[i]! ≠ l[j]! :=by
 unfold twiceS
 rw[Bool.eq_false_iff,Ne,tF_iff]
 constructor
 ·intro h i j hij hj e
  refine h ⟨j,hj,?_⟩
  have:∃ q,q≤i∧l[q]! =l[j]! ∧∀ p,p<q→¬ l[p]! =l[j]! :=by
   clear h
   induction i using Nat.strongRecOn with
   |_ i ih=>
    by_cases h1:∃ q,q<i∧l[q]! =l[j]!
    ·obtain ⟨q,h2,h3⟩:=h1
     obtain ⟨p,a,b,c⟩:=ih q h2 (by omega) h3
     exact ⟨p,by omega,b,c⟩
    ·exact ⟨i,Nat.le_refl _,e,fun q hq hh=>h1 ⟨q,hq,hh⟩⟩
  obtain ⟨q,h1,h2,h3⟩:=this
  rw[placeG_some h2 h3 l.length (by omega)]
  omega
 ·rintro h ⟨j,hj,hp⟩
  rw[placeG_some rfl (fun q hq=>h q j hq hj) l.length hj] at hp
  omega
theorem fresh0 {S:List (List UInt8)} {x:List UInt8} (h:freshF S x=0):S.length<20∧wordS x=true∧∀ j,j<S.length→S[j]! ≠ x:=by
 unfold freshF at h
 split at h
 ·cases h
 split at h
 ·cases h
 split at h
 ·cases h
 rename_i h1 h2 h3
 exact ⟨by omega,by simpa using h2,place_lt.1 h3⟩
theorem Val.ins {S N:List (List UInt8)} {M:List (List Int)} (v:Val S N M) {x:List UInt8} {k:Nat} {B:List Int} (hf:freshF S x=0) (hk0:0<k) (hk:k≤S.length)
  (hB:∀ j,j<M.length→M[j]![k - 1]! ≤B[j]! ∧B[j]! ≤1000000∧(k<S.length→B[j]! ≤M[j]![k]!)):Val (withL S k x) N (rowsW M k B):=by
 obtain ⟨f1,f2,f3⟩:=fresh0 hf
 have eS:(withL S k x).length=S.length+1:=withL_len hk
 refine ⟨by omega,v.n,?_,v.wn,v.sz,by rw[rowsW_len];exact v.m,fun j hj=>?_,?_,v.tn⟩
 ·refine (wF_iff _ _).2 ⟨by omega,fun j hj=>?_⟩
  rw[withL_get hk]
  split
  ·exact v.wsj (by omega)
  ·split
   ·exact f2
   ·exact v.wsj (by omega)
 ·rw[rowsW_len] at hj
  have hr:=v.row hj
  have hb:=hB j hj
  have e:(rowsW M k B)[j]! =withL M[j]! k B[j]! :=by simp[rowsW,hj]
  rw[e]
  obtain ⟨r1,r2⟩:=hr
  have hkm:k≤M[j]!.length:=by omega
  have el:(withL M[j]! k B[j]!).length=M[j]!.length+1:=withL_len hkm
  refine decide_eq_true ⟨by omega,fun i hi=>?_⟩
  rw[el] at hi
  have g1:=withL_get (x:=B[j]!) hkm i
  have g2:=withL_get (x:=B[j]!) hkm (i - 1)
  have hk1:=r2 (k - 1) (by omega)
  rw[g1,g2]
  by_cases c1:i<k
  ·rw[if_pos c1]
   have:=r2 i (by omega)
   refine ⟨this.1,this.2.1,fun h0=>?_⟩
   rw[if_pos (by omega)];exact this.2.2 h0
  ·rw[if_neg c1]
   by_cases c2:i=k
   ·subst c2
    rw[if_pos rfl,if_pos (by omega)]
    exact ⟨by omega,hb.2.1,fun _=>hb.1⟩
   ·rw[if_neg c2]
    have h1:=r2 (i - 1) (by omega)
    refine ⟨h1.1,h1.2.1,fun h0=>?_⟩
    by_cases c3:i - 1=k
    ·rw[if_neg (by omega),if_pos c3,c3]
     exact hb.2.2 (by omega)
    ·rw[if_neg (by omega),if_neg c3]
     exact h1.2.2 (by omega)
 ·refine (twice_iff _).2 fun i j hij hj=>?_
  have ht:=(twice_iff S).1 v.ts
  rw[withL_get hk,withL_get hk]
  by_cases c1:i<k
  ·rw[if_pos c1]
   by_cases c2:j<k
   ·rw[if_pos c2];exact ht i j hij (by omega)
   ·rw[if_neg c2]
    by_cases c3:j=k
    ·rw[if_pos c3];exact f3 i (by omega)
    ·rw[if_neg c3];exact ht i (j - 1) (by omega) (by omega)
  ·rw[if_neg c1,show (if j<k then S[j]! else if j=k then x else S[j - 1]!)=S[j - 1]! by rw[if_neg (by omega),if_neg (by omega)]]
   by_cases c3:i=k
   ·rw[if_pos c3];exact fun e=>f3 (j - 1) (by omega) e.symm
   ·rw[if_neg c3];exact ht (i - 1) (j - 1) (by omega) (by omega)
theorem bet_bd {a b num den:Int} (hab:a≤b) (h0:0≤a) (hd:1≤den) (hn:0≤num) (hnd:num≤den):a≤(2*(a*(den - num)+b*num)+den) / (2*den)∧(2*(a*(den - num)+b*num)+den) / (2*den)≤b:=by
 have e1:a*(den - num)=a*den - a*num:=Int.mul_sub _ _ _
 have m1:a*num≤b*num:=Int.mul_le_mul_of_nonneg_right hab hn
 have m2:a*den≤b*den:=Int.mul_le_mul_of_nonneg_right hab (by omega)
 have m3:(b - a)*num≤(b - a)*den:=Int.mul_le_mul_of_nonneg_left hnd (by omega)
 rw[Int.sub_mul,Int.sub_mul] at m3
 have c1:a*(2*den)=2*(a*den):=by rw[Int.mul_left_comm]
 have c2:(b+1)*(2*den)=2*(b*den)+2*den:=by rw[Int.add_mul,Int.mul_left_comm,Int.one_mul]
 constructor
 ·rw[Int.le_ediv_iff_mul_le (by omega),c1]
  omega
 ·have:(2*(a*(den - num)+b*num)+den) / (2*den)<b+1:=by
   rw[Int.ediv_lt_iff_lt_mul (by omega),c2]
   omega
  omega
theorem val_insert {S N:List (List UInt8)} {M:List (List Int)} (v:Val S N M) {x:List UInt8} {i:Nat} {num den:Int} (hf:freshF S x=0) (ha:argB S.length i num den):Val (withL S (i+1) x) N (rowsW M (i+1) (betL M i num den)):=by
 unfold argB at ha
 refine v.ins hf (by omega) (by omega) fun j hj=>?_
 obtain ⟨r1,r2⟩:=v.row hj
 have e:(betL M i num den)[j]! =bet M[j]! i num den:=by simp[betL,hj]
 have h1:=r2 i (by omega)
 have h2:=r2 (i+1) (by omega)
 have hb:=bet_bd (h2.2.2 (by omega)) h1.1 (show 1≤den by omega) (show 0≤num by omega) (show num≤den by omega)
 rw[Nat.add_sub_cancel] at hb ⊢
 rw[e]
 unfold bet
 exact ⟨hb.1,by omega,fun _=>hb.2⟩
theorem val_next {S N:List (List UInt8)} {M:List (List Int)} (v:Val S N M) {x:List UInt8} (hf:freshF S x=0) (hs:2≤S.length) (hok:nxtOK S.length M):Val (withL S S.length x) N (rowsW M S.length (M.map (nxt S.length))):=by
 refine v.ins hf (by omega) (Nat.le_refl _) fun j hj=>?_
 obtain ⟨r1,r2⟩:=v.row hj
 have e:(M.map (nxt S.length))[j]! =nxt S.length M[j]! :=by simp[hj]
 have h1:=r2 (S.length - 1) (by omega)
 have h3:=h1.2.2 (by omega)
 rw[show S.length - 1 - 1=S.length - 2 by omega] at h3
 have:=hok j hj
 rw[e]
 unfold nxt at this ⊢
 exact ⟨by omega,this,fun h=>absurd h (Nat.lt_irrefl _)⟩
theorem fitR_iff (step:Int) (l:List Int):∀ k,fitR step l k=true↔∀ j,j<k→snp step l[j]! ≤1000000
 |0=>by simp[fitR]
 |k+1=>by
  rw[fitR,Bool.and_eq_true,fitR_iff step l k,decide_eq_true_eq]
  exact ⟨fun h=>lt_succ_cases h.1 h.2,fun h=>⟨fun j hj=>h j (by omega),h k (by omega)⟩⟩
theorem fitM_iff (step:Int) (M:List (List Int)):∀ k,fitM step M k=true↔∀ j,j<k→fitR step M[j]! M[j]!.length=true
 |0=>by simp[fitM]
 |k+1=>by
  rw[fitM,Bool.and_eq_true,fitM_iff step M k]
  exact ⟨fun h=>lt_succ_cases h.1 h.2,fun h=>⟨fun j hj=>h j (by omega),h k (by omega)⟩⟩
theorem snp_mono {step a b:Int} (h1:1≤step) (hab:a≤b):snp step a≤snp step b:=by
 unfold snp
 exact Int.mul_le_mul_of_nonneg_left (Int.ediv_le_ediv (by omega) (by omega)) (by omega)
theorem snp_near {step v:Int} (h1:1≤step):2*(snp step v - v)≤step∧ -step<2*(snp step v - v):=by
 have q3:=Int.mul_ediv_self_le (x:=2*v+step) (k:=2*step) (by omega)
 have q5:=Int.lt_mul_ediv_self_add (x:=2*v+step) (k:=2*step) (by omega)
 have q4:2*step*((2*v+step) / (2*step))=2*(step*((2*v+step) / (2*step))):=by rw[Int.mul_assoc]
 unfold snp
 omega
theorem snp_mod {step v:Int}:snp step v % step=0:=by
 unfold snp
 exact Int.mul_emod_right _ _
theorem val_snap {S N:List (List UInt8)} {M:List (List Int)} (v:Val S N M) {step:Int} (h1:1≤step) (h2:step≤10000) (hf:fitM step M M.length=true):Val S N (snpM M step):=by
 refine ⟨v.s,v.n,v.ws,v.wn,v.sz,by rw[List.length_map];exact v.m,fun j hj=>?_,v.ts,v.tn⟩
 rw[List.length_map] at hj
 obtain ⟨r1,r2⟩:=v.row hj
 have e:(snpM M step)[j]! =M[j]!.map (snp step):=by simp[hj]
 have hfr:=(fitR_iff step M[j]! _).1 ((fitM_iff step M M.length).1 hf j hj)
 rw[e]
 refine decide_eq_true ⟨by rw[List.length_map];exact r1,fun i hi=>?_⟩
 rw[List.length_map] at hi
 have g:∀ q,q<M[j]!.length→(M[j]!.map (snp step))[q]! =snp step M[j]![q]! :=fun q hq=>by
  rw[getElem!_pos _ _ (by rw[List.length_map];exact hq),List.getElem_map,getElem!_pos M[j]! q hq]
 have hi':=r2 i hi
 rw[g i hi,g (i - 1) (by omega)]
 exact ⟨(snp_bd h1 h2 hi'.1 hi'.2.1).2.2.1,hfr i hi,fun h0=>snp_mono h1 (hi'.2.2 h0)⟩
set_option maxHeartbeats 8000000
theorem mod_great {S N:List (List UInt8)} {M:List (List Int)} (h:greatS S N M=false):Mod S N M:=by
 have h:=of_decide_eq_false h
 refine ⟨by omega,by omega,by omega,fun j hj=>?_,fun j hj=>?_,fun j hj=>?_⟩
 ·have:¬ 60<S[j]!.length:=fun hh=>h (.inr (.inr (.inr (.inl ⟨j,hj,hh⟩))))
  omega
 ·have:¬ 60<N[j]!.length:=fun hh=>h (.inr (.inr (.inr (.inr (.inl ⟨j,hj,hh⟩)))))
  omega
 ·have:¬ 40<M[j]!.length:=fun hh=>h (.inr (.inr (.inr (.inr (.inr ⟨j,hj,hh⟩)))))
  omega
theorem Val.mod {S N:List (List UInt8)} {M:List (List Int)} (v:Val S N M):Mod S N M:=by
 have hm:=v.m
 have hn:=v.n
 have hs:=v.s
 have hw:∀ x:List UInt8,wordS x=true→x.length≤40:=fun x hx=>(of_decide_eq_true hx).2.1
 refine ⟨by omega,by omega,by omega,fun j hj=>?_,fun j hj=>?_,fun j hj=>?_⟩
 ·have:=hw _ (v.wsj hj);omega
 ·have:=hw _ (((wF_iff N N.length).1 v.wn).2 j hj);omega
 ·have:=(v.row hj).1;omega
section
variable (w:World) (n:Nat)
theorem snap_loop {C:Ctx} (hC:C.E=EN w (n+1)) (h0:C.w0.nx=0) (S N:List (List UInt8)) (M:List (List Int)) (step:Int) (v:Val S N M) (h1:1≤step) (h2:step≤10000) {K:List KF} {P:VPost}
 (hgo:gK C K (.exit 0) [(4,iN step),(6,.ptr 0 0),(13,boV true),(18,.ptr 1 0),(20,iN M.length),(131,boV false)] ⟨[(1,tabO 2 2 0 0 S N (snpM M step)),(0,tabO 3 3 3 1 S N M)],2,0⟩ P):
 gL C [4,6,13,18,20] c6l1 K [(4,iN step),(6,.ptr 0 0),(13,boV true),(18,.ptr 1 0),(20,iN 0)] ⟨[(1,tabO 2 2 0 0 S N (snpM M step)),(0,tabO 3 3 3 1 S N M)],2,0⟩ P:=by
 have hM:M.length≤30:=by have:=v.m;have:=v.n;omega
 have hS:=v.s
 refine g_while (fun m fr st=>∃ j:Nat,m=M.length - j∧j≤M.length∧fr= [(4,iN step),(6,.ptr 0 0),(13,boV true),(18,.ptr 1 0),(20,iN j)]∧
  st=⟨[(1,tabO 2 2 0 0 S N (snpM M step)),(0,tabO 3 3 3 1 S N M)],2,0⟩) M.length ?_ ⟨_,_,.refl _ _,0,by omega,Nat.zero_le _,rfl,rfl⟩ ?_
 ·rw[hC,callP_rounds];unfold many;omega
 rintro m fr st ⟨j,rfl,hj,rfl,rfl⟩
 have eM:(snpM M step).length=M.length:=by simp
 by_cases hlt:j<M.length
 ·obtain ⟨r1,r2⟩:=v.row hlt
  have hx:(snpM M step)[j]! =M[j]!.map (snp step):=by simp[hlt]
  generalize hX:M[j]! =X at*
  have eX:(X.map (snp step)).length=X.length:=by simp
  have g:∀ q,q<X.length→(X.map (snp step))[q]! =snp step X[q]! :=fun q hq=>by
   rw[getElem!_pos _ _ (by rw[List.length_map];exact hq),List.getElem_map,getElem!_pos X q hq]
  generalize X.map (snp step)=Y at*
  generalize snpM M step=Q at*
  repeat' (first|(simp (disch:=first|omega|assumption|exact bd (by with_unfolding_all rfl)|exact Or.inl rfl|exact Or.inl trivial|exact okL_map _ (fun _=>rfl) _|(simp only[VVlen]<;>omega)|fail) only[VV0,VV1,VV2,VV3,VV4,VV5,VV6,VV7,VV8,VV9,mkFnV,vargs,slotsL,opdsA,Nat.reduceEqDiff,Nat.reduceLT,Nat.reduceAdd,Nat.reduceBEq,Int.reduceAdd,Int.reduceSub,Int.reduceLT,Int.reduceLE,Int.reduceEq,Int.reduceNeg,↓reduceIte,reduceCtorEq,scL,scD,expand,List.replicate,c6l1])|apply gC_drawW|((first|apply gI_dec|apply gG_dec|apply gPG_dec|apply gI_var|apply gG_var|apply gPG_var)<;>intro _))
  refine g_while (fun m fr st=>∃ i:Nat,m=X.length - i∧i≤X.length∧fr= [(4,iN step),(6,.ptr 0 0),(13,boV true),(18,.ptr 1 0),(20,iN j),(21,iN i)]∧
   st=⟨[(1,tabO 2 2 0 0 S N Q),(0,tabO 3 3 3 1 S N M)],2,0⟩) X.length ?_ ⟨_,_,.refl _ _,0,by omega,Nat.zero_le _,rfl,rfl⟩ ?_
  ·rw[hC,callP_rounds];unfold many;omega
  rintro m fr st ⟨i,rfl,hi,rfl,rfl⟩
  by_cases hlti:i<X.length
  ·have hv:=r2 i hlti
   have gy:=g i hlti
   have hbd:=snp_bd h1 h2 hv.1 hv.2.1
   have hnear:=snp_near (step:=step) (v:=X[i]!) h1
   have hmod:=snp_mod (step:=step) (v:=X[i]!)
   generalize hu:snp step X[i]! =u at*
   generalize hz:X[i]! =z at*
   have hne:¬ step=0:=by omega
   repeat' (first|(simp (disch:=first|omega|assumption|exact bd (by with_unfolding_all rfl)|exact Or.inl rfl|exact Or.inl trivial|exact okL_map _ (fun _=>rfl) _|(simp only[VVlen]<;>omega)|fail) only[VV0,VV1,VV2,VV3,VV4,VV5,VV6,VV7,VV8,VV9,mkFnV,vargs,slotsL,opdsA,Nat.reduceEqDiff,Nat.reduceLT,Nat.reduceAdd,Nat.reduceBEq,Int.reduceAdd,Int.reduceSub,Int.reduceLT,Int.reduceLE,Int.reduceEq,Int.reduceNeg,↓reduceIte,reduceCtorEq,scL,scD,expand,List.replicate,c6l0,rowI_dv,hX,hx,iD_dv,hz,gy,hmod])|apply gC_drawW|((first|apply gI_dec|apply gG_dec|apply gPG_dec|apply gI_var|apply gG_var|apply gPG_var)<;>intro _))
   all_goals try (exfalso;omega)
   exact ⟨_,_,_,by omega,.refl _ _,i+1,rfl,hlti,rfl,rfl⟩
  ·have:i=X.length:=by omega
   subst this
   repeat' (first|(simp (disch:=first|omega|assumption|exact bd (by with_unfolding_all rfl)|exact Or.inl rfl|exact Or.inl trivial|exact okL_map _ (fun _=>rfl) _|(simp only[VVlen]<;>omega)|fail) only[VV0,VV1,VV2,VV3,VV4,VV5,VV6,VV7,VV8,VV9,mkFnV,vargs,slotsL,opdsA,Nat.reduceEqDiff,Nat.reduceLT,Nat.reduceAdd,Nat.reduceBEq,Int.reduceAdd,Int.reduceSub,Int.reduceLT,Int.reduceLE,Int.reduceEq,Int.reduceNeg,↓reduceIte,reduceCtorEq,scL,scD,expand,List.replicate,c6l0,rowI_dv,hX,hx])|apply gC_drawW|((first|apply gI_dec|apply gG_dec|apply gPG_dec|apply gI_var|apply gG_var|apply gPG_var)<;>intro _))
   exact ⟨_,_,_,by omega,.refl _ _,j+1,rfl,hlt,rfl,rfl⟩
 ·have:j=M.length:=by omega
  subst this
  generalize snpM M step=Q at*
  repeat' (first|(simp (disch:=first|omega|assumption|exact bd (by with_unfolding_all rfl)|exact Or.inl rfl|exact Or.inl trivial|exact okL_map _ (fun _=>rfl) _|(simp only[VVlen]<;>omega)|fail) only[VV0,VV1,VV2,VV3,VV4,VV5,VV6,VV7,VV8,VV9,mkFnV,vargs,slotsL,opdsA,Nat.reduceEqDiff,Nat.reduceLT,Nat.reduceAdd,Nat.reduceBEq,Int.reduceAdd,Int.reduceSub,Int.reduceLT,Int.reduceLE,Int.reduceEq,Int.reduceNeg,↓reduceIte,reduceCtorEq,scL,scD,expand,List.replicate,c6l1])|apply gC_drawW|((first|apply gI_dec|apply gG_dec|apply gPG_dec|apply gI_var|apply gG_var|apply gPG_var)<;>intro _))
  exact hgo
end
set_option maxHeartbeats 16000000
section
variable (w:World)
theorem insert_res (S N:List (List UInt8)) (M:List (List Int)) (v:Val S N M) (i num den:Int) (x:List UInt8) (hi:isInt i) (hnum:isInt num) (hden:isInt den) (hx:x.length≤1000):
  (∃ e:Int,e ≠ 0∧VSpec (EN w 6) 18 [tableV 3 3 3 1 S N M,iN i,strV x,iN num,iN den] (.tup [noT,iN e]) ⟨[],0,0⟩)∨
  (0≤i∧i≤20∧∃ S' N' M',VSpec (EN w 6) 18 [tableV 3 3 3 1 S N M,iN i,strV x,iN num,iN den] (.tup [tableV 2 2 0 2 S' N' M',iN 0]) ⟨[],0,0⟩∧VSpec (EN w 6) 19 [tableV 2 2 0 2 S' N' M'] (iN 0) ⟨[],0,0⟩∧
   VSpec (EN w 6) 20 [tableV 2 2 0 2 S' N' M',iN (i+1),tableV 3 3 3 1 S N M,strV x] (.sc (.bool true)) ⟨[],0,0⟩):=by
 by_cases ha:argB S.length i num den
 ·have ha':=ha
  unfold argB at ha'
  have hs:=v.s
  obtain ⟨k,rfl⟩:∃ k:Nat,i=k:=⟨i.toNat,by omega⟩
  by_cases hf:freshF S x=0
  ·have hv:=val_insert v hf ha
   have hc:=check_p w 3 2 2 0 2 _ _ _ hv.mod
   rw[(val_iff _ _ _).2 hv] at hc
   exact .inr ⟨by omega,by omega,_,_,_,insert_p w 1 S N M v.mod k num den x hx v ha hf,hc,without_p w 3 S N M (k+1) _ x v v.mod (by omega) (by omega) hx (by simp[betL])⟩
  ·exact .inl ⟨_,hf,insert_e w 1 S N M v.mod k num den x hx v ha hf⟩
 ·exact .inl ⟨2,by decide,insert_bad w 1 S N M v.mod i num den x hi hnum hden ((val_iff S N M).2 v) ha⟩
theorem next_res (S N:List (List UInt8)) (M:List (List Int)) (v:Val S N M) (x:List UInt8) (hx:x.length≤1000):
  (∃ e:Int,e ≠ 0∧VSpec (EN w 6) 21 [tableV 3 3 3 1 S N M,strV x] (.tup [noT,iN e]) ⟨[],0,0⟩)∨
  (∃ S' N' M',VSpec (EN w 6) 21 [tableV 3 3 3 1 S N M,strV x] (.tup [tableV 2 2 0 2 S' N' M',iN 0]) ⟨[],0,0⟩∧VSpec (EN w 6) 19 [tableV 2 2 0 2 S' N' M'] (iN 0) ⟨[],0,0⟩∧
   VSpec (EN w 6) 20 [tableV 2 2 0 2 S' N' M',iN S.length,tableV 3 3 3 1 S N M,strV x] (.sc (.bool true)) ⟨[],0,0⟩):=by
 by_cases hs:S.length<2
 ·exact .inl ⟨22,by decide,next_short w 1 S N M v.mod x v hs⟩
 by_cases hf:freshF S x=0
 ·by_cases hok:nxtOK S.length M
  ·have hv:=val_next v hf (by omega) hok
   have hc:=check_p w 3 2 2 0 2 _ _ _ hv.mod
   rw[(val_iff _ _ _).2 hv] at hc
   exact .inr ⟨_,_,_,next_p w 1 S N M v.mod x hx v hs hf hok,hc,without_p w 3 S N M S.length _ x v v.mod (by omega) (Nat.le_refl _) hx (by simp)⟩
  ·exact .inl ⟨16,by decide,next_big w 1 S N M v.mod x hx v hs hf hok⟩
 ·exact .inl ⟨_,hf,next_e w 1 S N M v.mod x hx v hs hf⟩
theorem snap_res (S N:List (List UInt8)) (M:List (List Int)) (v:Val S N M) (step:Int) (hst:isInt step):
  (∃ e:Int,(e=2∨e=16)∧VSpec (EN w 6) 22 [tableV 3 3 3 1 S N M,iN step] (.tup [noT,iN e]) ⟨[],0,0⟩)∨
  (1≤step∧step≤10000∧VSpec (EN w 6) 22 [tableV 3 3 3 1 S N M,iN step] (.tup [tableV 2 2 0 0 S N (snpM M step),iN 0]) ⟨[],0,0⟩∧VSpec (EN w 6) 19 [tableV 2 2 0 0 S N (snpM M step)] (iN 0) ⟨[],0,0⟩):=by
 by_cases ha:1≤step∧step≤10000
 ·have hp:=snap_p w 2 S N M v.mod step v ha.1 ha.2
  by_cases hf:fitM step M M.length=true
  ·rw[if_pos hf] at hp
   have hv:=val_snap v ha.1 ha.2 hf
   have hc:=check_p w 3 2 2 0 0 _ _ _ hv.mod
   rw[(val_iff _ _ _).2 hv] at hc
   exact .inr ⟨ha.1,ha.2,hp,hc⟩
  ·rw[if_neg hf] at hp
   exact .inl ⟨16,.inr rfl,hp⟩
 ·exact .inl ⟨2,.inl rfl,snap_bad w 2 S N M v.mod step hst v ha⟩
end
section
variable (w:World)
theorem ordered_g (S N:List (List UInt8)) (M:List (List Int)) (i num den step:Int) (x:List UInt8)
  (hm:S.length≤140737488351232∧N.length≤140737488351232∧M.length≤140737488351232) (zs:∀ j,j<S.length→S[j]!.length≤140737488351232) (zn:∀ j,j<N.length→N[j]!.length≤140737488351232) (zm:∀ j,j<M.length→M[j]!.length≤140737488351232) (hs:x.length≤140737488351232) (hi:isInt i) (hnum:isInt num) (hden:isInt den) (hstep:isInt step)
  {C:Ctx} (hC:C.E=EN w 6) (h0:C.w0.nx=0):
  gC C c6.code [] (vargs 0 [tableV 3 3 3 1 S N M,iN i,iN num,iN den,iN step,strV x]) ⟨[],0,0⟩ (RetV C c6.res (.sc (.bool true)) ⟨[],0,0⟩):=by
 have hal:=fun st=>alive_o w 5 st
 have hg:=great_p w 5 3 3 3 1 S N M hm zs zn zm
 have hsz:=mk_size x
 cases hG:greatS S N M with
 |true=>
  rw[hG] at hg
  repeat' (first|(simp (disch:=first|omega|assumption|exact bd (by with_unfolding_all rfl)|exact Or.inl rfl|exact Or.inl trivial|exact okL_map _ (fun _=>rfl) _|(simp only[VVlen]<;>omega)|fail) only[VV0,VV1,VV2,VV3,VV4,VV5,VV6,VV7,VV8,VV9,mkFnV,vargs,slotsL,opdsA,Nat.reduceEqDiff,Nat.reduceLT,Nat.reduceAdd,Nat.reduceBEq,Int.reduceAdd,Int.reduceSub,Int.reduceLT,Int.reduceLE,Int.reduceEq,Int.reduceNeg,↓reduceIte,reduceCtorEq,scL,scD,expand,List.replicate,c6])|apply gC_drawW|((first|apply gI_dec|apply gG_dec|apply gPG_dec|apply gI_var|apply gG_var|apply gPG_var)<;>intro _))
  refine callV_flat (by rw[hC];exact hal _) ?_
  repeat' (first|(simp (disch:=first|omega|assumption|exact bd (by with_unfolding_all rfl)|exact Or.inl rfl|exact Or.inl trivial|exact okL_map _ (fun _=>rfl) _|(simp only[VVlen]<;>omega)|fail) only[VV0,VV1,VV2,VV3,VV4,VV5,VV6,VV7,VV8,VV9,mkFnV,vargs,slotsL,opdsA,Nat.reduceEqDiff,Nat.reduceLT,Nat.reduceAdd,Nat.reduceBEq,Int.reduceAdd,Int.reduceSub,Int.reduceLT,Int.reduceLE,Int.reduceEq,Int.reduceNeg,↓reduceIte,reduceCtorEq,scL,scD,expand,List.replicate])|apply gC_drawW|((first|apply gI_dec|apply gG_dec|apply gPG_dec|apply gI_var|apply gG_var|apply gPG_var)<;>intro _))
  refine callV_flat (by rw[hC];exact hg.flat rfl rfl) ?_
  repeat' (first|(simp (disch:=first|omega|assumption|exact bd (by with_unfolding_all rfl)|exact Or.inl rfl|exact Or.inl trivial|exact okL_map _ (fun _=>rfl) _|(simp only[VVlen]<;>omega)|fail) only[VV0,VV1,VV2,VV3,VV4,VV5,VV6,VV7,VV8,VV9,mkFnV,vargs,slotsL,opdsA,Nat.reduceEqDiff,Nat.reduceLT,Nat.reduceAdd,Nat.reduceBEq,Int.reduceAdd,Int.reduceSub,Int.reduceLT,Int.reduceLE,Int.reduceEq,Int.reduceNeg,↓reduceIte,reduceCtorEq,scL,scD,expand,List.replicate])|apply gC_drawW|((first|apply gI_dec|apply gG_dec|apply gPG_dec|apply gI_var|apply gG_var|apply gPG_var)<;>intro _))
  exact weak_flat rfl h0 rfl
 |false=>
  rw[hG] at hg
  have hM:=mod_great hG
  have hrc:=rcheck_p w 3 3 3 3 1 S N M hM
  by_cases hc:checkS S N M=0
  ·rw[hc] at hrc
   by_cases hx:100<x.length
   ·repeat' (first|(simp (disch:=first|omega|assumption|exact bd (by with_unfolding_all rfl)|exact Or.inl rfl|exact Or.inl trivial|exact okL_map _ (fun _=>rfl) _|(simp only[VVlen]<;>omega)|fail) only[VV0,VV1,VV2,VV3,VV4,VV5,VV6,VV7,VV8,VV9,mkFnV,vargs,slotsL,opdsA,Nat.reduceEqDiff,Nat.reduceLT,Nat.reduceAdd,Nat.reduceBEq,Int.reduceAdd,Int.reduceSub,Int.reduceLT,Int.reduceLE,Int.reduceEq,Int.reduceNeg,↓reduceIte,reduceCtorEq,scL,scD,expand,List.replicate,c6])|apply gC_drawW|((first|apply gI_dec|apply gG_dec|apply gPG_dec|apply gI_var|apply gG_var|apply gPG_var)<;>intro _))
    refine callV_flat (by rw[hC];exact hal _) ?_
    repeat' (first|(simp (disch:=first|omega|assumption|exact bd (by with_unfolding_all rfl)|exact Or.inl rfl|exact Or.inl trivial|exact okL_map _ (fun _=>rfl) _|(simp only[VVlen]<;>omega)|fail) only[VV0,VV1,VV2,VV3,VV4,VV5,VV6,VV7,VV8,VV9,mkFnV,vargs,slotsL,opdsA,Nat.reduceEqDiff,Nat.reduceLT,Nat.reduceAdd,Nat.reduceBEq,Int.reduceAdd,Int.reduceSub,Int.reduceLT,Int.reduceLE,Int.reduceEq,Int.reduceNeg,↓reduceIte,reduceCtorEq,scL,scD,expand,List.replicate])|apply gC_drawW|((first|apply gI_dec|apply gG_dec|apply gPG_dec|apply gI_var|apply gG_var|apply gPG_var)<;>intro _))
    refine callV_flat (by rw[hC];exact hg.flat rfl rfl) ?_
    repeat' (first|(simp (disch:=first|omega|assumption|exact bd (by with_unfolding_all rfl)|exact Or.inl rfl|exact Or.inl trivial|exact okL_map _ (fun _=>rfl) _|(simp only[VVlen]<;>omega)|fail) only[VV0,VV1,VV2,VV3,VV4,VV5,VV6,VV7,VV8,VV9,mkFnV,vargs,slotsL,opdsA,Nat.reduceEqDiff,Nat.reduceLT,Nat.reduceAdd,Nat.reduceBEq,Int.reduceAdd,Int.reduceSub,Int.reduceLT,Int.reduceLE,Int.reduceEq,Int.reduceNeg,↓reduceIte,reduceCtorEq,scL,scD,expand,List.replicate])|apply gC_drawW|((first|apply gI_dec|apply gG_dec|apply gPG_dec|apply gI_var|apply gG_var|apply gPG_var)<;>intro _))
    refine callV_flat (by rw[hC];exact hrc.flat rfl rfl) ?_
    repeat' (first|(simp (disch:=first|omega|assumption|exact bd (by with_unfolding_all rfl)|exact Or.inl rfl|exact Or.inl trivial|exact okL_map _ (fun _=>rfl) _|(simp only[VVlen]<;>omega)|fail) only[VV0,VV1,VV2,VV3,VV4,VV5,VV6,VV7,VV8,VV9,mkFnV,vargs,slotsL,opdsA,Nat.reduceEqDiff,Nat.reduceLT,Nat.reduceAdd,Nat.reduceBEq,Int.reduceAdd,Int.reduceSub,Int.reduceLT,Int.reduceLE,Int.reduceEq,Int.reduceNeg,↓reduceIte,reduceCtorEq,scL,scD,expand,List.replicate])|apply gC_drawW|((first|apply gI_dec|apply gG_dec|apply gPG_dec|apply gI_var|apply gG_var|apply gPG_var)<;>intro _))
    all_goals try (exfalso;omega)
    exact weak_flat rfl h0 rfl
   ·have v:=(val_iff S N M).1 hc
    have hI:=insert_res w S N M v i num den x hi hnum hden (by omega)
    have hN:=next_res w S N M v x (by omega)
    have hSn:=snap_res w S N M v step hstep
    have hS:=v.s
    have eM:(snpM M step).length=M.length:=by simp
    generalize hQ:snpM M step=Q at hSn eM
    repeat' (first|(simp (disch:=first|omega|assumption|exact bd (by with_unfolding_all rfl)|exact Or.inl rfl|exact Or.inl trivial|exact okL_map _ (fun _=>rfl) _|(simp only[VVlen]<;>omega)|fail) only[VV0,VV1,VV2,VV3,VV4,VV5,VV6,VV7,VV8,VV9,mkFnV,vargs,slotsL,opdsA,Nat.reduceEqDiff,Nat.reduceLT,Nat.reduceAdd,Nat.reduceBEq,Int.reduceAdd,Int.reduceSub,Int.reduceLT,Int.reduceLE,Int.reduceEq,Int.reduceNeg,↓reduceIte,reduceCtorEq,scL,scD,expand,List.replicate,c6])|apply gC_drawW|((first|apply gI_dec|apply gG_dec|apply gPG_dec|apply gI_var|apply gG_var|apply gPG_var)<;>intro _))
    refine callV_flat (by rw[hC];exact hal _) ?_
    repeat' (first|(simp (disch:=first|omega|assumption|exact bd (by with_unfolding_all rfl)|exact Or.inl rfl|exact Or.inl trivial|exact okL_map _ (fun _=>rfl) _|(simp only[VVlen]<;>omega)|fail) only[VV0,VV1,VV2,VV3,VV4,VV5,VV6,VV7,VV8,VV9,mkFnV,vargs,slotsL,opdsA,Nat.reduceEqDiff,Nat.reduceLT,Nat.reduceAdd,Nat.reduceBEq,Int.reduceAdd,Int.reduceSub,Int.reduceLT,Int.reduceLE,Int.reduceEq,Int.reduceNeg,↓reduceIte,reduceCtorEq,scL,scD,expand,List.replicate])|apply gC_drawW|((first|apply gI_dec|apply gG_dec|apply gPG_dec|apply gI_var|apply gG_var|apply gPG_var)<;>intro _))
    refine callV_flat (by rw[hC];exact hg.flat rfl rfl) ?_
    repeat' (first|(simp (disch:=first|omega|assumption|exact bd (by with_unfolding_all rfl)|exact Or.inl rfl|exact Or.inl trivial|exact okL_map _ (fun _=>rfl) _|(simp only[VVlen]<;>omega)|fail) only[VV0,VV1,VV2,VV3,VV4,VV5,VV6,VV7,VV8,VV9,mkFnV,vargs,slotsL,opdsA,Nat.reduceEqDiff,Nat.reduceLT,Nat.reduceAdd,Nat.reduceBEq,Int.reduceAdd,Int.reduceSub,Int.reduceLT,Int.reduceLE,Int.reduceEq,Int.reduceNeg,↓reduceIte,reduceCtorEq,scL,scD,expand,List.replicate])|apply gC_drawW|((first|apply gI_dec|apply gG_dec|apply gPG_dec|apply gI_var|apply gG_var|apply gPG_var)<;>intro _))
    refine callV_flat (by rw[hC];exact hrc.flat rfl rfl) ?_
    repeat' (first|(simp (disch:=first|omega|assumption|exact bd (by with_unfolding_all rfl)|exact Or.inl rfl|exact Or.inl trivial|exact okL_map _ (fun _=>rfl) _|(simp only[VVlen]<;>omega)|fail) only[VV0,VV1,VV2,VV3,VV4,VV5,VV6,VV7,VV8,VV9,mkFnV,vargs,slotsL,opdsA,Nat.reduceEqDiff,Nat.reduceLT,Nat.reduceAdd,Nat.reduceBEq,Int.reduceAdd,Int.reduceSub,Int.reduceLT,Int.reduceLE,Int.reduceEq,Int.reduceNeg,↓reduceIte,reduceCtorEq,scL,scD,expand,List.replicate])|apply gC_drawW|((first|apply gI_dec|apply gG_dec|apply gPG_dec|apply gI_var|apply gG_var|apply gPG_var)<;>intro _))
    all_goals try (exfalso;omega)
    rcases hI with ⟨e1,he1,pI⟩|⟨i0,i1,S1,N1,M1,pI,pIc,pIw⟩
    ·refine callV_fin (by rw[hC];exact pI) rfl rfl (fun _=>rfl) ?_
     repeat' (first|(simp (disch:=first|omega|assumption|exact bd (by with_unfolding_all rfl)|exact Or.inl rfl|exact Or.inl trivial|exact okL_map _ (fun _=>rfl) _|(simp only[VVlen]<;>omega)|fail) only[VV0,VV1,VV2,VV3,VV4,VV5,VV6,VV7,VV8,VV9,mkFnV,vargs,slotsL,opdsA,Nat.reduceEqDiff,Nat.reduceLT,Nat.reduceAdd,Nat.reduceBEq,Int.reduceAdd,Int.reduceSub,Int.reduceLT,Int.reduceLE,Int.reduceEq,Int.reduceNeg,↓reduceIte,reduceCtorEq,scL,scD,expand,List.replicate])|apply gC_drawW|((first|apply gI_dec|apply gG_dec|apply gPG_dec|apply gI_var|apply gG_var|apply gPG_var)<;>intro _))
     all_goals try (exfalso;omega)
     rcases hN with ⟨e2,he2,pN⟩|⟨S2,N2,M2,pN,pNc,pNw⟩
     ·refine callV_fin (by rw[hC];exact pN) rfl rfl (fun _=>rfl) ?_
      repeat' (first|(simp (disch:=first|omega|assumption|exact bd (by with_unfolding_all rfl)|exact Or.inl rfl|exact Or.inl trivial|exact okL_map _ (fun _=>rfl) _|(simp only[VVlen]<;>omega)|fail) only[VV0,VV1,VV2,VV3,VV4,VV5,VV6,VV7,VV8,VV9,mkFnV,vargs,slotsL,opdsA,Nat.reduceEqDiff,Nat.reduceLT,Nat.reduceAdd,Nat.reduceBEq,Int.reduceAdd,Int.reduceSub,Int.reduceLT,Int.reduceLE,Int.reduceEq,Int.reduceNeg,↓reduceIte,reduceCtorEq,scL,scD,expand,List.replicate])|apply gC_drawW|((first|apply gI_dec|apply gG_dec|apply gPG_dec|apply gI_var|apply gG_var|apply gPG_var)<;>intro _))
      all_goals try (exfalso;omega)
      rcases hSn with ⟨e3,he3,pS⟩|⟨t1,t2,pS,pSc⟩
      ·rcases he3 with rfl|rfl
       ·refine callV_fin (by rw[hC];exact pS) rfl rfl (fun _=>rfl) ?_
        repeat' (first|(simp (disch:=first|omega|assumption|exact bd (by with_unfolding_all rfl)|exact Or.inl rfl|exact Or.inl trivial|exact okL_map _ (fun _=>rfl) _|(simp only[VVlen]<;>omega)|fail) only[VV0,VV1,VV2,VV3,VV4,VV5,VV6,VV7,VV8,VV9,mkFnV,vargs,slotsL,opdsA,Nat.reduceEqDiff,Nat.reduceLT,Nat.reduceAdd,Nat.reduceBEq,Int.reduceAdd,Int.reduceSub,Int.reduceLT,Int.reduceLE,Int.reduceEq,Int.reduceNeg,↓reduceIte,reduceCtorEq,scL,scD,expand,List.replicate])|apply gC_drawW|((first|apply gI_dec|apply gG_dec|apply gPG_dec|apply gI_var|apply gG_var|apply gPG_var)<;>intro _))
        all_goals try (exfalso;omega)
        exact weak_flat rfl h0 rfl
       ·refine callV_fin (by rw[hC];exact pS) rfl rfl (fun _=>rfl) ?_
        repeat' (first|(simp (disch:=first|omega|assumption|exact bd (by with_unfolding_all rfl)|exact Or.inl rfl|exact Or.inl trivial|exact okL_map _ (fun _=>rfl) _|(simp only[VVlen]<;>omega)|fail) only[VV0,VV1,VV2,VV3,VV4,VV5,VV6,VV7,VV8,VV9,mkFnV,vargs,slotsL,opdsA,Nat.reduceEqDiff,Nat.reduceLT,Nat.reduceAdd,Nat.reduceBEq,Int.reduceAdd,Int.reduceSub,Int.reduceLT,Int.reduceLE,Int.reduceEq,Int.reduceNeg,↓reduceIte,reduceCtorEq,scL,scD,expand,List.replicate])|apply gC_drawW|((first|apply gI_dec|apply gG_dec|apply gPG_dec|apply gI_var|apply gG_var|apply gPG_var)<;>intro _))
        all_goals try (exfalso;omega)
        exact weak_flat rfl h0 rfl
      ·refine callV_fin (by rw[hC];exact pS) rfl rfl (fun _=>rfl) ?_
       repeat' (first|(simp (disch:=first|omega|assumption|exact bd (by with_unfolding_all rfl)|exact Or.inl rfl|exact Or.inl trivial|exact okL_map _ (fun _=>rfl) _|(simp only[VVlen]<;>omega)|fail) only[VV0,VV1,VV2,VV3,VV4,VV5,VV6,VV7,VV8,VV9,mkFnV,vargs,slotsL,opdsA,Nat.reduceEqDiff,Nat.reduceLT,Nat.reduceAdd,Nat.reduceBEq,Int.reduceAdd,Int.reduceSub,Int.reduceLT,Int.reduceLE,Int.reduceEq,Int.reduceNeg,↓reduceIte,reduceCtorEq,scL,scD,expand,List.replicate])|apply gC_drawW|((first|apply gI_dec|apply gG_dec|apply gPG_dec|apply gI_var|apply gG_var|apply gPG_var)<;>intro _))
       all_goals try (exfalso;omega)
       refine callV_flat (by rw[hC];exact pSc.flat rfl rfl) ?_
       repeat' (first|(simp (disch:=first|omega|assumption|exact bd (by with_unfolding_all rfl)|exact Or.inl rfl|exact Or.inl trivial|exact okL_map _ (fun _=>rfl) _|(simp only[VVlen]<;>omega)|fail) only[VV0,VV1,VV2,VV3,VV4,VV5,VV6,VV7,VV8,VV9,mkFnV,vargs,slotsL,opdsA,Nat.reduceEqDiff,Nat.reduceLT,Nat.reduceAdd,Nat.reduceBEq,Int.reduceAdd,Int.reduceSub,Int.reduceLT,Int.reduceLE,Int.reduceEq,Int.reduceNeg,↓reduceIte,reduceCtorEq,scL,scD,expand,List.replicate])|apply gC_drawW|((first|apply gI_dec|apply gG_dec|apply gPG_dec|apply gI_var|apply gG_var|apply gPG_var)<;>intro _))
       all_goals try (exfalso;omega)
       refine gL_weak (weak_to [(3,1),(0,0)] 2 h0 rfl rfl rfl rfl) ?_
       subst hQ
       refine snap_loop w 5 hC h0 S N M step v t1 t2 ?_
       repeat' (first|(simp (disch:=first|omega|assumption|exact bd (by with_unfolding_all rfl)|exact Or.inl rfl|exact Or.inl trivial|exact okL_map _ (fun _=>rfl) _|(simp only[VVlen]<;>omega)|fail) only[VV0,VV1,VV2,VV3,VV4,VV5,VV6,VV7,VV8,VV9,mkFnV,vargs,slotsL,opdsA,Nat.reduceEqDiff,Nat.reduceLT,Nat.reduceAdd,Nat.reduceBEq,Int.reduceAdd,Int.reduceSub,Int.reduceLT,Int.reduceLE,Int.reduceEq,Int.reduceNeg,↓reduceIte,reduceCtorEq,scL,scD,expand,List.replicate])|apply gC_drawW|((first|apply gI_dec|apply gG_dec|apply gPG_dec|apply gI_var|apply gG_var|apply gPG_var)<;>intro _))
       exact weak_flat rfl h0 rfl
     ·refine callV_fin (by rw[hC];exact pN) rfl rfl (fun _=>rfl) ?_
      repeat' (first|(simp (disch:=first|omega|assumption|exact bd (by with_unfolding_all rfl)|exact Or.inl rfl|exact Or.inl trivial|exact okL_map _ (fun _=>rfl) _|(simp only[VVlen]<;>omega)|fail) only[VV0,VV1,VV2,VV3,VV4,VV5,VV6,VV7,VV8,VV9,mkFnV,vargs,slotsL,opdsA,Nat.reduceEqDiff,Nat.reduceLT,Nat.reduceAdd,Nat.reduceBEq,Int.reduceAdd,Int.reduceSub,Int.reduceLT,Int.reduceLE,Int.reduceEq,Int.reduceNeg,↓reduceIte,reduceCtorEq,scL,scD,expand,List.replicate])|apply gC_drawW|((first|apply gI_dec|apply gG_dec|apply gPG_dec|apply gI_var|apply gG_var|apply gPG_var)<;>intro _))
      all_goals try (exfalso;omega)
      refine callV_flat (by rw[hC];exact pNc.flat rfl rfl) ?_
      repeat' (first|(simp (disch:=first|omega|assumption|exact bd (by with_unfolding_all rfl)|exact Or.inl rfl|exact Or.inl trivial|exact okL_map _ (fun _=>rfl) _|(simp only[VVlen]<;>omega)|fail) only[VV0,VV1,VV2,VV3,VV4,VV5,VV6,VV7,VV8,VV9,mkFnV,vargs,slotsL,opdsA,Nat.reduceEqDiff,Nat.reduceLT,Nat.reduceAdd,Nat.reduceBEq,Int.reduceAdd,Int.reduceSub,Int.reduceLT,Int.reduceLE,Int.reduceEq,Int.reduceNeg,↓reduceIte,reduceCtorEq,scL,scD,expand,List.replicate])|apply gC_drawW|((first|apply gI_dec|apply gG_dec|apply gPG_dec|apply gI_var|apply gG_var|apply gPG_var)<;>intro _))
      all_goals try (exfalso;omega)
      refine callV_flat (by rw[hC];exact pNw.flat rfl rfl) ?_
      repeat' (first|(simp (disch:=first|omega|assumption|exact bd (by with_unfolding_all rfl)|exact Or.inl rfl|exact Or.inl trivial|exact okL_map _ (fun _=>rfl) _|(simp only[VVlen]<;>omega)|fail) only[VV0,VV1,VV2,VV3,VV4,VV5,VV6,VV7,VV8,VV9,mkFnV,vargs,slotsL,opdsA,Nat.reduceEqDiff,Nat.reduceLT,Nat.reduceAdd,Nat.reduceBEq,Int.reduceAdd,Int.reduceSub,Int.reduceLT,Int.reduceLE,Int.reduceEq,Int.reduceNeg,↓reduceIte,reduceCtorEq,scL,scD,expand,List.replicate])|apply gC_drawW|((first|apply gI_dec|apply gG_dec|apply gPG_dec|apply gI_var|apply gG_var|apply gPG_var)<;>intro _))
      all_goals try (exfalso;omega)
      rcases hSn with ⟨e3,he3,pS⟩|⟨t1,t2,pS,pSc⟩
      ·rcases he3 with rfl|rfl
       ·refine callV_fin (by rw[hC];exact pS) rfl rfl (fun _=>rfl) ?_
        repeat' (first|(simp (disch:=first|omega|assumption|exact bd (by with_unfolding_all rfl)|exact Or.inl rfl|exact Or.inl trivial|exact okL_map _ (fun _=>rfl) _|(simp only[VVlen]<;>omega)|fail) only[VV0,VV1,VV2,VV3,VV4,VV5,VV6,VV7,VV8,VV9,mkFnV,vargs,slotsL,opdsA,Nat.reduceEqDiff,Nat.reduceLT,Nat.reduceAdd,Nat.reduceBEq,Int.reduceAdd,Int.reduceSub,Int.reduceLT,Int.reduceLE,Int.reduceEq,Int.reduceNeg,↓reduceIte,reduceCtorEq,scL,scD,expand,List.replicate])|apply gC_drawW|((first|apply gI_dec|apply gG_dec|apply gPG_dec|apply gI_var|apply gG_var|apply gPG_var)<;>intro _))
        all_goals try (exfalso;omega)
        exact weak_flat rfl h0 rfl
       ·refine callV_fin (by rw[hC];exact pS) rfl rfl (fun _=>rfl) ?_
        repeat' (first|(simp (disch:=first|omega|assumption|exact bd (by with_unfolding_all rfl)|exact Or.inl rfl|exact Or.inl trivial|exact okL_map _ (fun _=>rfl) _|(simp only[VVlen]<;>omega)|fail) only[VV0,VV1,VV2,VV3,VV4,VV5,VV6,VV7,VV8,VV9,mkFnV,vargs,slotsL,opdsA,Nat.reduceEqDiff,Nat.reduceLT,Nat.reduceAdd,Nat.reduceBEq,Int.reduceAdd,Int.reduceSub,Int.reduceLT,Int.reduceLE,Int.reduceEq,Int.reduceNeg,↓reduceIte,reduceCtorEq,scL,scD,expand,List.replicate])|apply gC_drawW|((first|apply gI_dec|apply gG_dec|apply gPG_dec|apply gI_var|apply gG_var|apply gPG_var)<;>intro _))
        all_goals try (exfalso;omega)
        exact weak_flat rfl h0 rfl
      ·refine callV_fin (by rw[hC];exact pS) rfl rfl (fun _=>rfl) ?_
       repeat' (first|(simp (disch:=first|omega|assumption|exact bd (by with_unfolding_all rfl)|exact Or.inl rfl|exact Or.inl trivial|exact okL_map _ (fun _=>rfl) _|(simp only[VVlen]<;>omega)|fail) only[VV0,VV1,VV2,VV3,VV4,VV5,VV6,VV7,VV8,VV9,mkFnV,vargs,slotsL,opdsA,Nat.reduceEqDiff,Nat.reduceLT,Nat.reduceAdd,Nat.reduceBEq,Int.reduceAdd,Int.reduceSub,Int.reduceLT,Int.reduceLE,Int.reduceEq,Int.reduceNeg,↓reduceIte,reduceCtorEq,scL,scD,expand,List.replicate])|apply gC_drawW|((first|apply gI_dec|apply gG_dec|apply gPG_dec|apply gI_var|apply gG_var|apply gPG_var)<;>intro _))
       all_goals try (exfalso;omega)
       refine callV_flat (by rw[hC];exact pSc.flat rfl rfl) ?_
       repeat' (first|(simp (disch:=first|omega|assumption|exact bd (by with_unfolding_all rfl)|exact Or.inl rfl|exact Or.inl trivial|exact okL_map _ (fun _=>rfl) _|(simp only[VVlen]<;>omega)|fail) only[VV0,VV1,VV2,VV3,VV4,VV5,VV6,VV7,VV8,VV9,mkFnV,vargs,slotsL,opdsA,Nat.reduceEqDiff,Nat.reduceLT,Nat.reduceAdd,Nat.reduceBEq,Int.reduceAdd,Int.reduceSub,Int.reduceLT,Int.reduceLE,Int.reduceEq,Int.reduceNeg,↓reduceIte,reduceCtorEq,scL,scD,expand,List.replicate])|apply gC_drawW|((first|apply gI_dec|apply gG_dec|apply gPG_dec|apply gI_var|apply gG_var|apply gPG_var)<;>intro _))
       all_goals try (exfalso;omega)
       refine gL_weak (weak_to [(3,1),(0,0)] 2 h0 rfl rfl rfl rfl) ?_
       subst hQ
       refine snap_loop w 5 hC h0 S N M step v t1 t2 ?_
       repeat' (first|(simp (disch:=first|omega|assumption|exact bd (by with_unfolding_all rfl)|exact Or.inl rfl|exact Or.inl trivial|exact okL_map _ (fun _=>rfl) _|(simp only[VVlen]<;>omega)|fail) only[VV0,VV1,VV2,VV3,VV4,VV5,VV6,VV7,VV8,VV9,mkFnV,vargs,slotsL,opdsA,Nat.reduceEqDiff,Nat.reduceLT,Nat.reduceAdd,Nat.reduceBEq,Int.reduceAdd,Int.reduceSub,Int.reduceLT,Int.reduceLE,Int.reduceEq,Int.reduceNeg,↓reduceIte,reduceCtorEq,scL,scD,expand,List.replicate])|apply gC_drawW|((first|apply gI_dec|apply gG_dec|apply gPG_dec|apply gI_var|apply gG_var|apply gPG_var)<;>intro _))
       exact weak_flat rfl h0 rfl
    ·refine callV_fin (by rw[hC];exact pI) rfl rfl (fun _=>rfl) ?_
     repeat' (first|(simp (disch:=first|omega|assumption|exact bd (by with_unfolding_all rfl)|exact Or.inl rfl|exact Or.inl trivial|exact okL_map _ (fun _=>rfl) _|(simp only[VVlen]<;>omega)|fail) only[VV0,VV1,VV2,VV3,VV4,VV5,VV6,VV7,VV8,VV9,mkFnV,vargs,slotsL,opdsA,Nat.reduceEqDiff,Nat.reduceLT,Nat.reduceAdd,Nat.reduceBEq,Int.reduceAdd,Int.reduceSub,Int.reduceLT,Int.reduceLE,Int.reduceEq,Int.reduceNeg,↓reduceIte,reduceCtorEq,scL,scD,expand,List.replicate])|apply gC_drawW|((first|apply gI_dec|apply gG_dec|apply gPG_dec|apply gI_var|apply gG_var|apply gPG_var)<;>intro _))
     all_goals try (exfalso;omega)
     refine callV_flat (by rw[hC];exact pIc.flat rfl rfl) ?_
     repeat' (first|(simp (disch:=first|omega|assumption|exact bd (by with_unfolding_all rfl)|exact Or.inl rfl|exact Or.inl trivial|exact okL_map _ (fun _=>rfl) _|(simp only[VVlen]<;>omega)|fail) only[VV0,VV1,VV2,VV3,VV4,VV5,VV6,VV7,VV8,VV9,mkFnV,vargs,slotsL,opdsA,Nat.reduceEqDiff,Nat.reduceLT,Nat.reduceAdd,Nat.reduceBEq,Int.reduceAdd,Int.reduceSub,Int.reduceLT,Int.reduceLE,Int.reduceEq,Int.reduceNeg,↓reduceIte,reduceCtorEq,scL,scD,expand,List.replicate])|apply gC_drawW|((first|apply gI_dec|apply gG_dec|apply gPG_dec|apply gI_var|apply gG_var|apply gPG_var)<;>intro _))
     all_goals try (exfalso;omega)
     refine callV_flat (by rw[hC];exact pIw.flat rfl rfl) ?_
     repeat' (first|(simp (disch:=first|omega|assumption|exact bd (by with_unfolding_all rfl)|exact Or.inl rfl|exact Or.inl trivial|exact okL_map _ (fun _=>rfl) _|(simp only[VVlen]<;>omega)|fail) only[VV0,VV1,VV2,VV3,VV4,VV5,VV6,VV7,VV8,VV9,mkFnV,vargs,slotsL,opdsA,Nat.reduceEqDiff,Nat.reduceLT,Nat.reduceAdd,Nat.reduceBEq,Int.reduceAdd,Int.reduceSub,Int.reduceLT,Int.reduceLE,Int.reduceEq,Int.reduceNeg,↓reduceIte,reduceCtorEq,scL,scD,expand,List.replicate])|apply gC_drawW|((first|apply gI_dec|apply gG_dec|apply gPG_dec|apply gI_var|apply gG_var|apply gPG_var)<;>intro _))
     all_goals try (exfalso;omega)
     rcases hN with ⟨e2,he2,pN⟩|⟨S2,N2,M2,pN,pNc,pNw⟩
     ·refine callV_fin (by rw[hC];exact pN) rfl rfl (fun _=>rfl) ?_
      repeat' (first|(simp (disch:=first|omega|assumption|exact bd (by with_unfolding_all rfl)|exact Or.inl rfl|exact Or.inl trivial|exact okL_map _ (fun _=>rfl) _|(simp only[VVlen]<;>omega)|fail) only[VV0,VV1,VV2,VV3,VV4,VV5,VV6,VV7,VV8,VV9,mkFnV,vargs,slotsL,opdsA,Nat.reduceEqDiff,Nat.reduceLT,Nat.reduceAdd,Nat.reduceBEq,Int.reduceAdd,Int.reduceSub,Int.reduceLT,Int.reduceLE,Int.reduceEq,Int.reduceNeg,↓reduceIte,reduceCtorEq,scL,scD,expand,List.replicate])|apply gC_drawW|((first|apply gI_dec|apply gG_dec|apply gPG_dec|apply gI_var|apply gG_var|apply gPG_var)<;>intro _))
      all_goals try (exfalso;omega)
      rcases hSn with ⟨e3,he3,pS⟩|⟨t1,t2,pS,pSc⟩
      ·rcases he3 with rfl|rfl
       ·refine callV_fin (by rw[hC];exact pS) rfl rfl (fun _=>rfl) ?_
        repeat' (first|(simp (disch:=first|omega|assumption|exact bd (by with_unfolding_all rfl)|exact Or.inl rfl|exact Or.inl trivial|exact okL_map _ (fun _=>rfl) _|(simp only[VVlen]<;>omega)|fail) only[VV0,VV1,VV2,VV3,VV4,VV5,VV6,VV7,VV8,VV9,mkFnV,vargs,slotsL,opdsA,Nat.reduceEqDiff,Nat.reduceLT,Nat.reduceAdd,Nat.reduceBEq,Int.reduceAdd,Int.reduceSub,Int.reduceLT,Int.reduceLE,Int.reduceEq,Int.reduceNeg,↓reduceIte,reduceCtorEq,scL,scD,expand,List.replicate])|apply gC_drawW|((first|apply gI_dec|apply gG_dec|apply gPG_dec|apply gI_var|apply gG_var|apply gPG_var)<;>intro _))
        all_goals try (exfalso;omega)
        exact weak_flat rfl h0 rfl
       ·refine callV_fin (by rw[hC];exact pS) rfl rfl (fun _=>rfl) ?_
        repeat' (first|(simp (disch:=first|omega|assumption|exact bd (by with_unfolding_all rfl)|exact Or.inl rfl|exact Or.inl trivial|exact okL_map _ (fun _=>rfl) _|(simp only[VVlen]<;>omega)|fail) only[VV0,VV1,VV2,VV3,VV4,VV5,VV6,VV7,VV8,VV9,mkFnV,vargs,slotsL,opdsA,Nat.reduceEqDiff,Nat.reduceLT,Nat.reduceAdd,Nat.reduceBEq,Int.reduceAdd,Int.reduceSub,Int.reduceLT,Int.reduceLE,Int.reduceEq,Int.reduceNeg,↓reduceIte,reduceCtorEq,scL,scD,expand,List.replicate])|apply gC_drawW|((first|apply gI_dec|apply gG_dec|apply gPG_dec|apply gI_var|apply gG_var|apply gPG_var)<;>intro _))
        all_goals try (exfalso;omega)
        exact weak_flat rfl h0 rfl
      ·refine callV_fin (by rw[hC];exact pS) rfl rfl (fun _=>rfl) ?_
       repeat' (first|(simp (disch:=first|omega|assumption|exact bd (by with_unfolding_all rfl)|exact Or.inl rfl|exact Or.inl trivial|exact okL_map _ (fun _=>rfl) _|(simp only[VVlen]<;>omega)|fail) only[VV0,VV1,VV2,VV3,VV4,VV5,VV6,VV7,VV8,VV9,mkFnV,vargs,slotsL,opdsA,Nat.reduceEqDiff,Nat.reduceLT,Nat.reduceAdd,Nat.reduceBEq,Int.reduceAdd,Int.reduceSub,Int.reduceLT,Int.reduceLE,Int.reduceEq,Int.reduceNeg,↓reduceIte,reduceCtorEq,scL,scD,expand,List.replicate])|apply gC_drawW|((first|apply gI_dec|apply gG_dec|apply gPG_dec|apply gI_var|apply gG_var|apply gPG_var)<;>intro _))
       all_goals try (exfalso;omega)
       refine callV_flat (by rw[hC];exact pSc.flat rfl rfl) ?_
       repeat' (first|(simp (disch:=first|omega|assumption|exact bd (by with_unfolding_all rfl)|exact Or.inl rfl|exact Or.inl trivial|exact okL_map _ (fun _=>rfl) _|(simp only[VVlen]<;>omega)|fail) only[VV0,VV1,VV2,VV3,VV4,VV5,VV6,VV7,VV8,VV9,mkFnV,vargs,slotsL,opdsA,Nat.reduceEqDiff,Nat.reduceLT,Nat.reduceAdd,Nat.reduceBEq,Int.reduceAdd,Int.reduceSub,Int.reduceLT,Int.reduceLE,Int.reduceEq,Int.reduceNeg,↓reduceIte,reduceCtorEq,scL,scD,expand,List.replicate])|apply gC_drawW|((first|apply gI_dec|apply gG_dec|apply gPG_dec|apply gI_var|apply gG_var|apply gPG_var)<;>intro _))
       all_goals try (exfalso;omega)
       refine gL_weak (weak_to [(3,1),(0,0)] 2 h0 rfl rfl rfl rfl) ?_
       subst hQ
       refine snap_loop w 5 hC h0 S N M step v t1 t2 ?_
       repeat' (first|(simp (disch:=first|omega|assumption|exact bd (by with_unfolding_all rfl)|exact Or.inl rfl|exact Or.inl trivial|exact okL_map _ (fun _=>rfl) _|(simp only[VVlen]<;>omega)|fail) only[VV0,VV1,VV2,VV3,VV4,VV5,VV6,VV7,VV8,VV9,mkFnV,vargs,slotsL,opdsA,Nat.reduceEqDiff,Nat.reduceLT,Nat.reduceAdd,Nat.reduceBEq,Int.reduceAdd,Int.reduceSub,Int.reduceLT,Int.reduceLE,Int.reduceEq,Int.reduceNeg,↓reduceIte,reduceCtorEq,scL,scD,expand,List.replicate])|apply gC_drawW|((first|apply gI_dec|apply gG_dec|apply gPG_dec|apply gI_var|apply gG_var|apply gPG_var)<;>intro _))
       exact weak_flat rfl h0 rfl
     ·refine callV_fin (by rw[hC];exact pN) rfl rfl (fun _=>rfl) ?_
      repeat' (first|(simp (disch:=first|omega|assumption|exact bd (by with_unfolding_all rfl)|exact Or.inl rfl|exact Or.inl trivial|exact okL_map _ (fun _=>rfl) _|(simp only[VVlen]<;>omega)|fail) only[VV0,VV1,VV2,VV3,VV4,VV5,VV6,VV7,VV8,VV9,mkFnV,vargs,slotsL,opdsA,Nat.reduceEqDiff,Nat.reduceLT,Nat.reduceAdd,Nat.reduceBEq,Int.reduceAdd,Int.reduceSub,Int.reduceLT,Int.reduceLE,Int.reduceEq,Int.reduceNeg,↓reduceIte,reduceCtorEq,scL,scD,expand,List.replicate])|apply gC_drawW|((first|apply gI_dec|apply gG_dec|apply gPG_dec|apply gI_var|apply gG_var|apply gPG_var)<;>intro _))
      all_goals try (exfalso;omega)
      refine callV_flat (by rw[hC];exact pNc.flat rfl rfl) ?_
      repeat' (first|(simp (disch:=first|omega|assumption|exact bd (by with_unfolding_all rfl)|exact Or.inl rfl|exact Or.inl trivial|exact okL_map _ (fun _=>rfl) _|(simp only[VVlen]<;>omega)|fail) only[VV0,VV1,VV2,VV3,VV4,VV5,VV6,VV7,VV8,VV9,mkFnV,vargs,slotsL,opdsA,Nat.reduceEqDiff,Nat.reduceLT,Nat.reduceAdd,Nat.reduceBEq,Int.reduceAdd,Int.reduceSub,Int.reduceLT,Int.reduceLE,Int.reduceEq,Int.reduceNeg,↓reduceIte,reduceCtorEq,scL,scD,expand,List.replicate])|apply gC_drawW|((first|apply gI_dec|apply gG_dec|apply gPG_dec|apply gI_var|apply gG_var|apply gPG_var)<;>intro _))
      all_goals try (exfalso;omega)
      refine callV_flat (by rw[hC];exact pNw.flat rfl rfl) ?_
      repeat' (first|(simp (disch:=first|omega|assumption|exact bd (by with_unfolding_all rfl)|exact Or.inl rfl|exact Or.inl trivial|exact okL_map _ (fun _=>rfl) _|(simp only[VVlen]<;>omega)|fail) only[VV0,VV1,VV2,VV3,VV4,VV5,VV6,VV7,VV8,VV9,mkFnV,vargs,slotsL,opdsA,Nat.reduceEqDiff,Nat.reduceLT,Nat.reduceAdd,Nat.reduceBEq,Int.reduceAdd,Int.reduceSub,Int.reduceLT,Int.reduceLE,Int.reduceEq,Int.reduceNeg,↓reduceIte,reduceCtorEq,scL,scD,expand,List.replicate])|apply gC_drawW|((first|apply gI_dec|apply gG_dec|apply gPG_dec|apply gI_var|apply gG_var|apply gPG_var)<;>intro _))
      all_goals try (exfalso;omega)
      rcases hSn with ⟨e3,he3,pS⟩|⟨t1,t2,pS,pSc⟩
      ·rcases he3 with rfl|rfl
       ·refine callV_fin (by rw[hC];exact pS) rfl rfl (fun _=>rfl) ?_
        repeat' (first|(simp (disch:=first|omega|assumption|exact bd (by with_unfolding_all rfl)|exact Or.inl rfl|exact Or.inl trivial|exact okL_map _ (fun _=>rfl) _|(simp only[VVlen]<;>omega)|fail) only[VV0,VV1,VV2,VV3,VV4,VV5,VV6,VV7,VV8,VV9,mkFnV,vargs,slotsL,opdsA,Nat.reduceEqDiff,Nat.reduceLT,Nat.reduceAdd,Nat.reduceBEq,Int.reduceAdd,Int.reduceSub,Int.reduceLT,Int.reduceLE,Int.reduceEq,Int.reduceNeg,↓reduceIte,reduceCtorEq,scL,scD,expand,List.replicate])|apply gC_drawW|((first|apply gI_dec|apply gG_dec|apply gPG_dec|apply gI_var|apply gG_var|apply gPG_var)<;>intro _))
        all_goals try (exfalso;omega)
        exact weak_flat rfl h0 rfl
       ·refine callV_fin (by rw[hC];exact pS) rfl rfl (fun _=>rfl) ?_
        repeat' (first|(simp (disch:=first|omega|assumption|exact bd (by with_unfolding_all rfl)|exact Or.inl rfl|exact Or.inl trivial|exact okL_map _ (fun _=>rfl) _|(simp only[VVlen]<;>omega)|fail) only[VV0,VV1,VV2,VV3,VV4,VV5,VV6,VV7,VV8,VV9,mkFnV,vargs,slotsL,opdsA,Nat.reduceEqDiff,Nat.reduceLT,Nat.reduceAdd,Nat.reduceBEq,Int.reduceAdd,Int.reduceSub,Int.reduceLT,Int.reduceLE,Int.reduceEq,Int.reduceNeg,↓reduceIte,reduceCtorEq,scL,scD,expand,List.replicate])|apply gC_drawW|((first|apply gI_dec|apply gG_dec|apply gPG_dec|apply gI_var|apply gG_var|apply gPG_var)<;>intro _))
        all_goals try (exfalso;omega)
        exact weak_flat rfl h0 rfl
      ·refine callV_fin (by rw[hC];exact pS) rfl rfl (fun _=>rfl) ?_
       repeat' (first|(simp (disch:=first|omega|assumption|exact bd (by with_unfolding_all rfl)|exact Or.inl rfl|exact Or.inl trivial|exact okL_map _ (fun _=>rfl) _|(simp only[VVlen]<;>omega)|fail) only[VV0,VV1,VV2,VV3,VV4,VV5,VV6,VV7,VV8,VV9,mkFnV,vargs,slotsL,opdsA,Nat.reduceEqDiff,Nat.reduceLT,Nat.reduceAdd,Nat.reduceBEq,Int.reduceAdd,Int.reduceSub,Int.reduceLT,Int.reduceLE,Int.reduceEq,Int.reduceNeg,↓reduceIte,reduceCtorEq,scL,scD,expand,List.replicate])|apply gC_drawW|((first|apply gI_dec|apply gG_dec|apply gPG_dec|apply gI_var|apply gG_var|apply gPG_var)<;>intro _))
       all_goals try (exfalso;omega)
       refine callV_flat (by rw[hC];exact pSc.flat rfl rfl) ?_
       repeat' (first|(simp (disch:=first|omega|assumption|exact bd (by with_unfolding_all rfl)|exact Or.inl rfl|exact Or.inl trivial|exact okL_map _ (fun _=>rfl) _|(simp only[VVlen]<;>omega)|fail) only[VV0,VV1,VV2,VV3,VV4,VV5,VV6,VV7,VV8,VV9,mkFnV,vargs,slotsL,opdsA,Nat.reduceEqDiff,Nat.reduceLT,Nat.reduceAdd,Nat.reduceBEq,Int.reduceAdd,Int.reduceSub,Int.reduceLT,Int.reduceLE,Int.reduceEq,Int.reduceNeg,↓reduceIte,reduceCtorEq,scL,scD,expand,List.replicate])|apply gC_drawW|((first|apply gI_dec|apply gG_dec|apply gPG_dec|apply gI_var|apply gG_var|apply gPG_var)<;>intro _))
       all_goals try (exfalso;omega)
       refine gL_weak (weak_to [(3,1),(0,0)] 2 h0 rfl rfl rfl rfl) ?_
       subst hQ
       refine snap_loop w 5 hC h0 S N M step v t1 t2 ?_
       repeat' (first|(simp (disch:=first|omega|assumption|exact bd (by with_unfolding_all rfl)|exact Or.inl rfl|exact Or.inl trivial|exact okL_map _ (fun _=>rfl) _|(simp only[VVlen]<;>omega)|fail) only[VV0,VV1,VV2,VV3,VV4,VV5,VV6,VV7,VV8,VV9,mkFnV,vargs,slotsL,opdsA,Nat.reduceEqDiff,Nat.reduceLT,Nat.reduceAdd,Nat.reduceBEq,Int.reduceAdd,Int.reduceSub,Int.reduceLT,Int.reduceLE,Int.reduceEq,Int.reduceNeg,↓reduceIte,reduceCtorEq,scL,scD,expand,List.replicate])|apply gC_drawW|((first|apply gI_dec|apply gG_dec|apply gPG_dec|apply gI_var|apply gG_var|apply gPG_var)<;>intro _))
       exact weak_flat rfl h0 rfl
  ·generalize checkS S N M=e at*
   repeat' (first|(simp (disch:=first|omega|assumption|exact bd (by with_unfolding_all rfl)|exact Or.inl rfl|exact Or.inl trivial|exact okL_map _ (fun _=>rfl) _|(simp only[VVlen]<;>omega)|fail) only[VV0,VV1,VV2,VV3,VV4,VV5,VV6,VV7,VV8,VV9,mkFnV,vargs,slotsL,opdsA,Nat.reduceEqDiff,Nat.reduceLT,Nat.reduceAdd,Nat.reduceBEq,Int.reduceAdd,Int.reduceSub,Int.reduceLT,Int.reduceLE,Int.reduceEq,Int.reduceNeg,↓reduceIte,reduceCtorEq,scL,scD,expand,List.replicate,c6])|apply gC_drawW|((first|apply gI_dec|apply gG_dec|apply gPG_dec|apply gI_var|apply gG_var|apply gPG_var)<;>intro _))
   refine callV_flat (by rw[hC];exact hal _) ?_
   repeat' (first|(simp (disch:=first|omega|assumption|exact bd (by with_unfolding_all rfl)|exact Or.inl rfl|exact Or.inl trivial|exact okL_map _ (fun _=>rfl) _|(simp only[VVlen]<;>omega)|fail) only[VV0,VV1,VV2,VV3,VV4,VV5,VV6,VV7,VV8,VV9,mkFnV,vargs,slotsL,opdsA,Nat.reduceEqDiff,Nat.reduceLT,Nat.reduceAdd,Nat.reduceBEq,Int.reduceAdd,Int.reduceSub,Int.reduceLT,Int.reduceLE,Int.reduceEq,Int.reduceNeg,↓reduceIte,reduceCtorEq,scL,scD,expand,List.replicate])|apply gC_drawW|((first|apply gI_dec|apply gG_dec|apply gPG_dec|apply gI_var|apply gG_var|apply gPG_var)<;>intro _))
   refine callV_flat (by rw[hC];exact hg.flat rfl rfl) ?_
   repeat' (first|(simp (disch:=first|omega|assumption|exact bd (by with_unfolding_all rfl)|exact Or.inl rfl|exact Or.inl trivial|exact okL_map _ (fun _=>rfl) _|(simp only[VVlen]<;>omega)|fail) only[VV0,VV1,VV2,VV3,VV4,VV5,VV6,VV7,VV8,VV9,mkFnV,vargs,slotsL,opdsA,Nat.reduceEqDiff,Nat.reduceLT,Nat.reduceAdd,Nat.reduceBEq,Int.reduceAdd,Int.reduceSub,Int.reduceLT,Int.reduceLE,Int.reduceEq,Int.reduceNeg,↓reduceIte,reduceCtorEq,scL,scD,expand,List.replicate])|apply gC_drawW|((first|apply gI_dec|apply gG_dec|apply gPG_dec|apply gI_var|apply gG_var|apply gPG_var)<;>intro _))
   refine callV_flat (by rw[hC];exact hrc.flat rfl rfl) ?_
   repeat' (first|(simp (disch:=first|omega|assumption|exact bd (by with_unfolding_all rfl)|exact Or.inl rfl|exact Or.inl trivial|exact okL_map _ (fun _=>rfl) _|(simp only[VVlen]<;>omega)|fail) only[VV0,VV1,VV2,VV3,VV4,VV5,VV6,VV7,VV8,VV9,mkFnV,vargs,slotsL,opdsA,Nat.reduceEqDiff,Nat.reduceLT,Nat.reduceAdd,Nat.reduceBEq,Int.reduceAdd,Int.reduceSub,Int.reduceLT,Int.reduceLE,Int.reduceEq,Int.reduceNeg,↓reduceIte,reduceCtorEq,scL,scD,expand,List.replicate])|apply gC_drawW|((first|apply gI_dec|apply gG_dec|apply gPG_dec|apply gI_var|apply gG_var|apply gPG_var)<;>intro _))
   all_goals try (exfalso;omega)
   exact weak_flat rfl h0 rfl
end
end Go.Proofs.YteibgbbfcjgjiaaDoor
