/- What is proved: the law KnitlogWhere returns true for every input.
   Texts: D44V, C44VA, R44V, H44V, P41a, P41b, P41c, P41d, P41e, N44a, N44b, N44c, N44d, K33a, K33b, N44e, N44f, N44g, N44h, N44i, N44j, N44k, N44l, N44m, N44n, N44o, N44p, N44q, N44r, N44s, N44t, N44u, N44v, N44w, N44x, N44y, E44t, N44za, N44zb, N44zc, N44zd, N44ze, N44zf, N44zg, E44u, E44v, E44w.
-/
import Derived.Test.YtgohenjcanfolaaGreatDoorPart5
import Derived.KernelRfl
import Derived.Test.YtgohenjcanfolaaGreatDoorProg
import Derived.Lib.Join
namespace Go.Proofs.YtgohenjcanfolaaGreatDoor
open Go Go.Itp
set_option maxRecDepth 100000
theorem harm_do:Harm Tryz.prog 114:=harm_nil (ms:=#[]) Tryz.func114 (by kernel_rfl) rfl rfl (by decide) (by decide)
end Go.Proofs.YtgohenjcanfolaaGreatDoor
/-
  The seat's functions as the interpreter runs them: reckoned out of the loaded form, and shown equal to it.
-/
namespace Go.Proofs.YtgohenjcanfolaaGreatDoor
open Go Go.Itp
set_option maxRecDepth 100000
set_option maxHeartbeats 40000000
noncomputable section
abbrev gzI : List Nat := [44, 46, 92, 175, 176, 177, 210, 78, 128, 169, 62, 114, 115, 116, 117, 118, 119, 131, 153, 154, 155, 156, 158, 159, 171, 191, 194, 198, 217, 190, 192, 109, 152, 218, 221, 222, 228, 229, 230, 231, 232, 233, 234, 235, 236, 237, 238, 239, 240, 241, 242, 243, 244, 245, 246, 247]
theorem gk {n : Nat} {f : Func} {a : AFun} (h1 : Tryz.prog.funcs[n]? = some f) (h2 : (f.name == "runtime.NumGoroutine") = false := by kernel_rfl) (h : gzT Tryz.prog f a.code = some (a.code, a.n, a.res) := by kernel_rfl) : FunOK Tryz.prog n a := gok h1 h2 h
def c7 : AFun := gzx Tryz.prog gzI true Tryz.f7
def c9r : AFun := gzx Tryz.prog gzI true Tryz.f9
def c9l0 : AC := gzl c9r 0 []
attribute [local irreducible] c9l0
def c9 : AFun := gzn c9r [c9l0]
def c11r : AFun := gzx Tryz.prog gzI true Tryz.f11
def c11l0 : AC := gzl c11r 0 []
attribute [local irreducible] c11l0
def c11 : AFun := gzn c11r [c11l0]
def c15r : AFun := gzx Tryz.prog gzI true Tryz.f15
def c15l0 : AC := gzl c15r 0 []
attribute [local irreducible] c15l0
def c15 : AFun := gzn c15r [c15l0]
def c18 : AFun := gzx Tryz.prog gzI true Tryz.f18
def c22r : AFun := gzx Tryz.prog gzI true Tryz.f22
def c22b0 : AC := gzl c22r 2 []
attribute [local irreducible] c22b0
def c22a0 : AC := gzl c22r 1 []
attribute [local irreducible] c22a0
def c22l0 : AC := gzl c22r 0 []
attribute [local irreducible] c22l0
def c22 : AFun := gzn c22r [c22l0, c22a0, c22b0]
def c23r : AFun := gzx Tryz.prog gzI true Tryz.f23
def c23l0 : AC := gzl c23r 0 []
attribute [local irreducible] c23l0
def c23 : AFun := gzn c23r [c23l0]
def c27r : AFun := gzx Tryz.prog gzI true Tryz.f27
def c27l0 : AC := gzl c27r 0 []
attribute [local irreducible] c27l0
def c27 : AFun := gzn c27r [c27l0]
def c29r : AFun := gzx Tryz.prog gzI true Tryz.f29
def c29l0 : AC := gzl c29r 3 []
attribute [local irreducible] c29l0
def c29l1 : AC := gzl c29r 2 []
attribute [local irreducible] c29l1
def c29l2 : AC := gzl c29r 1 [c29l1, c29l0]
attribute [local irreducible] c29l2
def c29l3 : AC := gzl c29r 0 []
attribute [local irreducible] c29l3
def c29 : AFun := gzn c29r [c29l3, c29l2, c29l1, c29l0]
def c30r : AFun := gzx Tryz.prog gzI true Tryz.f30
def c30l0 : AC := gzl c30r 2 []
attribute [local irreducible] c30l0
def c30l1 : AC := gzl c30r 1 [c30l0]
attribute [local irreducible] c30l1
def c30l2 : AC := gzl c30r 0 []
attribute [local irreducible] c30l2
def c30 : AFun := gzn c30r [c30l2, c30l1, c30l0]
def c31 : AFun := gzx Tryz.prog gzI true Tryz.f31
def c32 : AFun := gzx Tryz.prog gzI true Tryz.f32
def c34 : AFun := gzx Tryz.prog gzI true Tryz.f34
def c35 : AFun := gzx Tryz.prog gzI true Tryz.f35
def c36 : AFun := gzx Tryz.prog gzI true Tryz.f36
def c38 : AFun := gzx Tryz.prog gzI true Tryz.f38
def c39 : AFun := gzx Tryz.prog gzI true Tryz.f39
def c41 : AFun := gzx Tryz.prog gzI true Tryz.f41
def c42 : AFun := gzx Tryz.prog gzI true Tryz.f42
def c44 : AFun := gzx Tryz.prog gzI false Tryz.f44
def c46 : AFun := gzx Tryz.prog gzI false Tryz.f46
def c48r : AFun := gzx Tryz.prog gzI true Tryz.f48
def c48l0 : AC := gzl c48r 0 []
attribute [local irreducible] c48l0
def c48 : AFun := gzn c48r [c48l0]
def c49 : AFun := gzx Tryz.prog gzI true Tryz.f49
def c50r : AFun := gzx Tryz.prog gzI true Tryz.f50
def c50l0 : AC := gzl c50r 0 []
attribute [local irreducible] c50l0
def c50 : AFun := gzn c50r [c50l0]
def c53r : AFun := gzx Tryz.prog gzI true Tryz.f53
def c53l0 : AC := gzl c53r 0 []
attribute [local irreducible] c53l0
def c53 : AFun := gzn c53r [c53l0]
def c58r : AFun := gzx Tryz.prog gzI true Tryz.f58
def c58l0 : AC := gzl c58r 2 []
attribute [local irreducible] c58l0
def c58l1 : AC := gzl c58r 1 []
attribute [local irreducible] c58l1
def c58l2 : AC := gzl c58r 0 []
attribute [local irreducible] c58l2
def c58 : AFun := gzn c58r [c58l2, c58l1, c58l0]
def c59 : AFun := gzx Tryz.prog gzI true Tryz.f59
def c60 : AFun := gzx Tryz.prog gzI true Tryz.f60
def c61r : AFun := gzx Tryz.prog gzI true Tryz.f61
def c61l0 : AC := gzl c61r 1 []
attribute [local irreducible] c61l0
def c61l1 : AC := gzl c61r 0 []
attribute [local irreducible] c61l1
def c61 : AFun := gzn c61r [c61l1, c61l0]
def c62 : AFun := gzx Tryz.prog gzI false (gzFd Tryz.f62)
def c63 : AFun := gzx Tryz.prog gzI true Tryz.f63
def c64 : AFun := gzx Tryz.prog gzI true Tryz.f64
def c65r : AFun := gzx Tryz.prog gzI true Tryz.f65
def c65l0 : AC := gzl c65r 1 []
attribute [local irreducible] c65l0
def c65l1 : AC := gzl c65r 0 []
attribute [local irreducible] c65l1
def c65 : AFun := gzn c65r [c65l1, c65l0]
def c66 : AFun := gzx Tryz.prog gzI true Tryz.f66
def c67r : AFun := gzx Tryz.prog gzI true Tryz.f67
def c67l0 : AC := gzl c67r 0 []
attribute [local irreducible] c67l0
def c67 : AFun := gzn c67r [c67l0]
def c68 : AFun := gzx Tryz.prog gzI true Tryz.f68
def c69r : AFun := gzx Tryz.prog gzI true Tryz.f69
def c69l0 : AC := gzl c69r 0 []
attribute [local irreducible] c69l0
def c69 : AFun := gzn c69r [c69l0]
def c70 : AFun := gzx Tryz.prog gzI true Tryz.f70
def c71 : AFun := gzx Tryz.prog gzI true Tryz.f71
def c72r : AFun := gzx Tryz.prog gzI true Tryz.f72
def c72l0 : AC := gzl c72r 0 []
attribute [local irreducible] c72l0
def c72 : AFun := gzn c72r [c72l0]
def c73 : AFun := gzx Tryz.prog gzI true Tryz.f73
def c74 : AFun := gzx Tryz.prog gzI true Tryz.f74
def c75 : AFun := gzx Tryz.prog gzI true Tryz.f75
def c76r : AFun := gzx Tryz.prog gzI true Tryz.f76
def c76b0 : AC := gzl c76r 1 []
attribute [local irreducible] c76b0
def c76a0 : AC := gzl c76r 0 []
attribute [local irreducible] c76a0
def c76 : AFun := gzn c76r [c76a0, c76b0]
def c77r : AFun := gzx Tryz.prog gzI true Tryz.f77
def c77l0 : AC := gzl c77r 0 []
attribute [local irreducible] c77l0
def c77 : AFun := gzn c77r [c77l0]
def c78r : AFun := gzx Tryz.prog gzI false Tryz.f78
def c78l0 : AC := gzl c78r 0 []
attribute [local irreducible] c78l0
def c78 : AFun := gzn c78r [c78l0]
def c79r : AFun := gzx Tryz.prog gzI true Tryz.f79
def c79l0 : AC := gzl c79r 0 []
attribute [local irreducible] c79l0
def c79 : AFun := gzn c79r [c79l0]
def c80r : AFun := gzx Tryz.prog gzI true Tryz.f80
def c80l0 : AC := gzl c80r 1 []
attribute [local irreducible] c80l0
def c80l1 : AC := gzl c80r 0 [c80l0]
attribute [local irreducible] c80l1
def c80 : AFun := gzn c80r [c80l1, c80l0]
def c81r : AFun := gzx Tryz.prog gzI true Tryz.f81
def c81b0 : AC := gzl c81r 1 []
attribute [local irreducible] c81b0
def c81a0 : AC := gzl c81r 0 []
attribute [local irreducible] c81a0
def c81 : AFun := gzn c81r [c81a0, c81b0]
def c82 : AFun := gzx Tryz.prog gzI true Tryz.f82
def c83 : AFun := gzx Tryz.prog gzI true Tryz.f83
def c84 : AFun := gzx Tryz.prog gzI true Tryz.f84
def c85 : AFun := gzx Tryz.prog gzI true Tryz.f85
def c87r : AFun := gzx Tryz.prog gzI true Tryz.f87
def c87b0 : AC := gzl c87r 1 []
attribute [local irreducible] c87b0
def c87a0 : AC := gzl c87r 0 []
attribute [local irreducible] c87a0
def c87 : AFun := gzn c87r [c87a0, c87b0]
def c88r : AFun := gzx Tryz.prog gzI true Tryz.f88
def c88l0 : AC := gzl c88r 0 []
attribute [local irreducible] c88l0
def c88 : AFun := gzn c88r [c88l0]
def c90 : AFun := gzx Tryz.prog gzI true Tryz.f90
def c91r : AFun := gzx Tryz.prog gzI true Tryz.f91
def c91l0 : AC := gzl c91r 0 []
attribute [local irreducible] c91l0
def c91 : AFun := gzn c91r [c91l0]
def c92 : AFun := gzx Tryz.prog gzI false Tryz.f92
def c95r : AFun := gzx Tryz.prog gzI true Tryz.f95
def c95l0 : AC := gzl c95r 0 []
attribute [local irreducible] c95l0
def c95 : AFun := gzn c95r [c95l0]
def c97 : AFun := gzx Tryz.prog gzI true Tryz.f97
def c98 : AFun := gzx Tryz.prog gzI true Tryz.f98
def c99 : AFun := gzx Tryz.prog gzI true Tryz.f99
def c100 : AFun := gzx Tryz.prog gzI true Tryz.f100
def c101r : AFun := gzx Tryz.prog gzI true Tryz.f101
def c101l0 : AC := gzl c101r 0 []
attribute [local irreducible] c101l0
def c101 : AFun := gzn c101r [c101l0]
def c103 : AFun := gzx Tryz.prog gzI true Tryz.f103
def c104 : AFun := gzx Tryz.prog gzI true Tryz.f104
def c105r : AFun := gzx Tryz.prog gzI true Tryz.f105
def c105l0 : AC := gzl c105r 0 []
attribute [local irreducible] c105l0
def c105 : AFun := gzn c105r [c105l0]
def c106 : AFun := gzx Tryz.prog gzI true Tryz.f106
def c107r : AFun := gzx Tryz.prog gzI true Tryz.f107
def c107l0 : AC := gzl c107r 0 []
attribute [local irreducible] c107l0
def c107 : AFun := gzn c107r [c107l0]
def c108 : AFun := gzx Tryz.prog gzI true Tryz.f108
def c109r : AFun := gzx Tryz.prog gzI false Tryz.f109
def c109l0 : AC := gzl c109r 0 []
attribute [local irreducible] c109l0
def c109 : AFun := gzn c109r [c109l0]
def c110 : AFun := gzx Tryz.prog gzI true Tryz.f110
def c111 : AFun := gzx Tryz.prog gzI true Tryz.f111
def c112 : AFun := gzx Tryz.prog gzI true Tryz.f112
def c113 : AFun := gzx Tryz.prog gzI true Tryz.f113
def c115 : AFun := gzx Tryz.prog gzI false Tryz.f115
def c116 : AFun := gzx Tryz.prog gzI false Tryz.f116
def c117 : AFun := gzx Tryz.prog gzI false Tryz.f117
def c118 : AFun := gzx Tryz.prog gzI false Tryz.f118
def c119 : AFun := gzx Tryz.prog gzI false Tryz.f119
def c120r : AFun := gzx Tryz.prog gzI true Tryz.f120
def c120l0 : AC := gzl c120r 0 []
attribute [local irreducible] c120l0
def c120 : AFun := gzn c120r [c120l0]
def c121 : AFun := gzx Tryz.prog gzI true Tryz.f121
def c122 : AFun := gzx Tryz.prog gzI true Tryz.f122
def c123 : AFun := gzx Tryz.prog gzI true Tryz.f123
def c124 : AFun := gzx Tryz.prog gzI true Tryz.f124
def c125 : AFun := gzx Tryz.prog gzI true Tryz.f125
def c126 : AFun := gzx Tryz.prog gzI true Tryz.f126
def c127 : AFun := gzx Tryz.prog gzI true Tryz.f127
def c128 : AFun := gzx Tryz.prog gzI false Tryz.f128
def c129 : AFun := gzx Tryz.prog gzI true Tryz.f129
def c130r : AFun := gzx Tryz.prog gzI true Tryz.f130
def c130l0 : AC := gzl c130r 0 []
attribute [local irreducible] c130l0
def c130 : AFun := gzn c130r [c130l0]
def c131 : AFun := gzx Tryz.prog gzI false Tryz.f131
def c133 : AFun := gzx Tryz.prog gzI true Tryz.f133
def c134 : AFun := gzx Tryz.prog gzI true Tryz.f134
def c135 : AFun := gzx Tryz.prog gzI true Tryz.f135
def c136r : AFun := gzx Tryz.prog gzI true Tryz.f136
def c136l0 : AC := gzl c136r 1 []
attribute [local irreducible] c136l0
def c136l1 : AC := gzl c136r 0 []
attribute [local irreducible] c136l1
def c136 : AFun := gzn c136r [c136l1, c136l0]
def c141r : AFun := gzx Tryz.prog gzI true Tryz.f141
def c141l0 : AC := gzl c141r 0 []
attribute [local irreducible] c141l0
def c141 : AFun := gzn c141r [c141l0]
def c142 : AFun := gzx Tryz.prog gzI true Tryz.f142
def c143r : AFun := gzx Tryz.prog gzI true Tryz.f143
def c143l0 : AC := gzl c143r 0 []
attribute [local irreducible] c143l0
def c143 : AFun := gzn c143r [c143l0]
def c144 : AFun := gzx Tryz.prog gzI true Tryz.f144
def c145r : AFun := gzx Tryz.prog gzI true Tryz.f145
def c145l0 : AC := gzl c145r 0 []
attribute [local irreducible] c145l0
def c145 : AFun := gzn c145r [c145l0]
def c146 : AFun := gzx Tryz.prog gzI true Tryz.f146
def c147 : AFun := gzx Tryz.prog gzI true Tryz.f147
def c150 : AFun := gzx Tryz.prog gzI true Tryz.f150
def c151 : AFun := gzx Tryz.prog gzI true Tryz.f151
def c152r : AFun := gzx Tryz.prog gzI false Tryz.f152
def c152l0 : AC := gzl c152r 1 []
attribute [local irreducible] c152l0
def c152l1 : AC := gzl c152r 0 [c152l0]
attribute [local irreducible] c152l1
def c152 : AFun := gzn c152r [c152l1, c152l0]
def c153 : AFun := gzx Tryz.prog gzI false Tryz.f153
def c154 : AFun := gzx Tryz.prog gzI false Tryz.f154
def c155 : AFun := gzx Tryz.prog gzI false Tryz.f155
def c156 : AFun := gzx Tryz.prog gzI false Tryz.f156
def c157 : AFun := gzx Tryz.prog gzI true Tryz.f157
def c158 : AFun := gzx Tryz.prog gzI false Tryz.f158
def c159 : AFun := gzx Tryz.prog gzI false Tryz.f159
def c160r : AFun := gzx Tryz.prog gzI true Tryz.f160
def c160l0 : AC := gzl c160r 0 []
attribute [local irreducible] c160l0
def c160 : AFun := gzn c160r [c160l0]
def c161 : AFun := gzx Tryz.prog gzI true Tryz.f161
def c162 : AFun := gzx Tryz.prog gzI true Tryz.f162
def c163r : AFun := gzx Tryz.prog gzI true Tryz.f163
def c163l0 : AC := gzl c163r 0 []
attribute [local irreducible] c163l0
def c163 : AFun := gzn c163r [c163l0]
def c164r : AFun := gzx Tryz.prog gzI true Tryz.f164
def c164l0 : AC := gzl c164r 0 []
attribute [local irreducible] c164l0
def c164 : AFun := gzn c164r [c164l0]
def c165r : AFun := gzx Tryz.prog gzI true Tryz.f165
def c165l0 : AC := gzl c165r 0 []
attribute [local irreducible] c165l0
def c165 : AFun := gzn c165r [c165l0]
def c166 : AFun := gzx Tryz.prog gzI true Tryz.f166
def c167 : AFun := gzx Tryz.prog gzI true Tryz.f167
def c168r : AFun := gzx Tryz.prog gzI true Tryz.f168
def c168l0 : AC := gzl c168r 0 []
attribute [local irreducible] c168l0
def c168 : AFun := gzn c168r [c168l0]
def c169r : AFun := gzx Tryz.prog gzI false Tryz.f169
def c169l0 : AC := gzl c169r 0 []
attribute [local irreducible] c169l0
def c169 : AFun := gzn c169r [c169l0]
def c170 : AFun := gzx Tryz.prog gzI true Tryz.f170
def c171 : AFun := gzx Tryz.prog gzI false Tryz.f171
def c173 : AFun := gzx Tryz.prog gzI true Tryz.f173
def c174 : AFun := gzx Tryz.prog gzI true Tryz.f174
def c175r : AFun := gzx Tryz.prog gzI false Tryz.f175
def c175l0 : AC := gzl c175r 0 []
attribute [local irreducible] c175l0
def c175 : AFun := gzn c175r [c175l0]
def c176r : AFun := gzx Tryz.prog gzI false Tryz.f176
def c176l0 : AC := gzl c176r 1 []
attribute [local irreducible] c176l0
def c176l1 : AC := gzl c176r 0 []
attribute [local irreducible] c176l1
def c176 : AFun := gzn c176r [c176l1, c176l0]
def c177 : AFun := gzx Tryz.prog gzI false Tryz.f177
def c178 : AFun := gzx Tryz.prog gzI true Tryz.f178
def c180 : AFun := gzx Tryz.prog gzI true Tryz.f180
def c181r : AFun := gzx Tryz.prog gzI true Tryz.f181
def c181l0 : AC := gzl c181r 1 []
attribute [local irreducible] c181l0
def c181l1 : AC := gzl c181r 0 []
attribute [local irreducible] c181l1
def c181 : AFun := gzn c181r [c181l1, c181l0]
def c182 : AFun := gzx Tryz.prog gzI true Tryz.f182
def c183 : AFun := gzx Tryz.prog gzI true Tryz.f183
def c184 : AFun := gzx Tryz.prog gzI true Tryz.f184
def c185 : AFun := gzx Tryz.prog gzI true Tryz.f185
def c186 : AFun := gzx Tryz.prog gzI true Tryz.f186
def c187 : AFun := gzx Tryz.prog gzI true Tryz.f187
def c188 : AFun := gzx Tryz.prog gzI true Tryz.f188
def c190 : AFun := gzx Tryz.prog gzI false Tryz.f190
def c191 : AFun := gzx Tryz.prog gzI false Tryz.f191
def c192r : AFun := gzx Tryz.prog gzI false Tryz.f192
def c192l0 : AC := gzl c192r 0 []
attribute [local irreducible] c192l0
def c192 : AFun := gzn c192r [c192l0]
def c193 : AFun := gzx Tryz.prog gzI true Tryz.f193
def c194 : AFun := gzx Tryz.prog gzI false Tryz.f194
def c195r : AFun := gzx Tryz.prog gzI true Tryz.f195
def c195l0 : AC := gzl c195r 0 []
attribute [local irreducible] c195l0
def c195 : AFun := gzn c195r [c195l0]
def c196 : AFun := gzx Tryz.prog gzI true Tryz.f196
def c198 : AFun := gzx Tryz.prog gzI false Tryz.f198
def c199 : AFun := gzx Tryz.prog gzI true Tryz.f199
def c200 : AFun := gzx Tryz.prog gzI true Tryz.f200
def c201 : AFun := gzx Tryz.prog gzI true Tryz.f201
def c202 : AFun := gzx Tryz.prog gzI true Tryz.f202
def c203 : AFun := gzx Tryz.prog gzI true Tryz.f203
def c204r : AFun := gzx Tryz.prog gzI true Tryz.f204
def c204l0 : AC := gzl c204r 0 []
attribute [local irreducible] c204l0
def c204 : AFun := gzn c204r [c204l0]
def c205 : AFun := gzx Tryz.prog gzI true Tryz.f205
def c206 : AFun := gzx Tryz.prog gzI true Tryz.f206
def c207 : AFun := gzx Tryz.prog gzI true Tryz.f207
def c208 : AFun := gzx Tryz.prog gzI true Tryz.f208
def c209 : AFun := gzx Tryz.prog gzI true Tryz.f209
def c210 : AFun := gzx Tryz.prog gzI false Tryz.f210
def c212r : AFun := gzx Tryz.prog gzI true Tryz.f212
def c212l0 : AC := gzl c212r 1 []
attribute [local irreducible] c212l0
def c212l1 : AC := gzl c212r 0 []
attribute [local irreducible] c212l1
def c212 : AFun := gzn c212r [c212l1, c212l0]
def c213r : AFun := gzx Tryz.prog gzI true Tryz.f213
def c213l0 : AC := gzl c213r 0 []
attribute [local irreducible] c213l0
def c213 : AFun := gzn c213r [c213l0]
def c214 : AFun := gzx Tryz.prog gzI true Tryz.f214
def c215 : AFun := gzx Tryz.prog gzI true Tryz.f215
def c216 : AFun := gzx Tryz.prog gzI true Tryz.f216
def c217r : AFun := gzx Tryz.prog gzI false Tryz.f217
def c217b0 : AC := gzl c217r 1 []
attribute [local irreducible] c217b0
def c217a0 : AC := gzl c217r 0 []
attribute [local irreducible] c217a0
def c217 : AFun := gzn c217r [c217a0, c217b0]
def c218r : AFun := gzx Tryz.prog gzI false Tryz.f218
def c218l0 : AC := gzl c218r 0 []
attribute [local irreducible] c218l0
def c218 : AFun := gzn c218r [c218l0]
def c219 : AFun := gzx Tryz.prog gzI true Tryz.f219
def c221 : AFun := gzx Tryz.prog gzI false Tryz.f221
def c222 : AFun := gzx Tryz.prog gzI false Tryz.f222
def c223 : AFun := gzx Tryz.prog gzI true Tryz.f223
def c224 : AFun := gzx Tryz.prog gzI true Tryz.f224
def c226 : AFun := gzx Tryz.prog gzI true Tryz.f226
def c227r : AFun := gzx Tryz.prog gzI true Tryz.f227
def c227l0 : AC := gzl c227r 0 []
attribute [local irreducible] c227l0
def c227 : AFun := gzn c227r [c227l0]
def c228r : AFun := gzx Tryz.prog gzI false Tryz.f228
def c228l0 : AC := gzl c228r 1 []
attribute [local irreducible] c228l0
def c228l1 : AC := gzl c228r 0 [c228l0]
attribute [local irreducible] c228l1
def c228 : AFun := gzn c228r [c228l1, c228l0]
def c238 : AFun := gzx Tryz.prog gzI false Tryz.f238
def c239r : AFun := gzx Tryz.prog gzI false Tryz.f239
def c239l0 : AC := gzl c239r 0 []
attribute [local irreducible] c239l0
def c239 : AFun := gzn c239r [c239l0]
def c246r : AFun := gzx Tryz.prog gzI false Tryz.f246
def c246l0 : AC := gzl c246r 0 []
attribute [local irreducible] c246l0
def c246 : AFun := gzn c246r [c246l0]
def fns0 : FuncId → Option AFun
  | 7 => some c7
  | 9 => some c9
  | 11 => some c11
  | 15 => some c15
  | 18 => some c18
  | 22 => some c22
  | 23 => some c23
  | 27 => some c27
  | 29 => some c29
  | 30 => some c30
  | 31 => some c31
  | 32 => some c32
  | 34 => some c34
  | 35 => some c35
  | 36 => some c36
  | 38 => some c38
  | 39 => some c39
  | 41 => some c41
  | 42 => some c42
  | 44 => some c44
  | 46 => some c46
  | 48 => some c48
  | 49 => some c49
  | 50 => some c50
  | 53 => some c53
  | 58 => some c58
  | 59 => some c59
  | 60 => some c60
  | 61 => some c61
  | 62 => some c62
  | 63 => some c63
  | 64 => some c64
  | 65 => some c65
  | 66 => some c66
  | 67 => some c67
  | 68 => some c68
  | 69 => some c69
  | 70 => some c70
  | 71 => some c71
  | 72 => some c72
  | 73 => some c73
  | 74 => some c74
  | 75 => some c75
  | 76 => some c76
  | 77 => some c77
  | 78 => some c78
  | 79 => some c79
  | 80 => some c80
  | 81 => some c81
  | 82 => some c82
  | 83 => some c83
  | 84 => some c84
  | 85 => some c85
  | 87 => some c87
  | 88 => some c88
  | 90 => some c90
  | 91 => some c91
  | 92 => some c92
  | 95 => some c95
  | 97 => some c97
  | _ => none
theorem fns0_ok : FunsOK Tryz.prog fns0 := by
  intro f af h
  unfold fns0 at h
  split at h
  · cases h; exact gk Tryz.func7
  · cases h; exact gk Tryz.func9
  · cases h; exact gk Tryz.func11
  · cases h; exact gk Tryz.func15
  · cases h; exact gk Tryz.func18
  · cases h; exact gk Tryz.func22
  · cases h; exact gk Tryz.func23
  · cases h; exact gk Tryz.func27
  · cases h; exact gk Tryz.func29
  · cases h; exact gk Tryz.func30
  · cases h; exact gk Tryz.func31
  · cases h; exact gk Tryz.func32
  · cases h; exact gk Tryz.func34
  · cases h; exact gk Tryz.func35
  · cases h; exact gk Tryz.func36
  · cases h; exact gk Tryz.func38
  · cases h; exact gk Tryz.func39
  · cases h; exact gk Tryz.func41
  · cases h; exact gk Tryz.func42
  · cases h; exact gk Tryz.func44
  · cases h; exact gk Tryz.func46
  · cases h; exact gk Tryz.func48
  · cases h; exact gk Tryz.func49
  · cases h; exact gk Tryz.func50
  · cases h; exact gk Tryz.func53
  · cases h; exact gk Tryz.func58
  · cases h; exact gk Tryz.func59
  · cases h; exact gk Tryz.func60
  · cases h; exact gk Tryz.func61
  · cases h; exact gokD (t := 6) Tryz.func62 (by kernel_rfl) Tryz.func114 rfl (by kernel_rfl) harm_do (by kernel_rfl)
  · cases h; exact gk Tryz.func63
  · cases h; exact gk Tryz.func64
  · cases h; exact gk Tryz.func65
  · cases h; exact gk Tryz.func66
  · cases h; exact gk Tryz.func67
  · cases h; exact gk Tryz.func68
  · cases h; exact gk Tryz.func69
  · cases h; exact gk Tryz.func70
  · cases h; exact gk Tryz.func71
  · cases h; exact gk Tryz.func72
  · cases h; exact gk Tryz.func73
  · cases h; exact gk Tryz.func74
  · cases h; exact gk Tryz.func75
  · cases h; exact gk Tryz.func76
  · cases h; exact gk Tryz.func77
  · cases h; exact gk Tryz.func78
  · cases h; exact gk Tryz.func79
  · cases h; exact gk Tryz.func80
  · cases h; exact gk Tryz.func81
  · cases h; exact gk Tryz.func82
  · cases h; exact gk Tryz.func83
  · cases h; exact gk Tryz.func84
  · cases h; exact gk Tryz.func85
  · cases h; exact gk Tryz.func87
  · cases h; exact gk Tryz.func88
  · cases h; exact gk Tryz.func90
  · cases h; exact gk Tryz.func91
  · cases h; exact gk Tryz.func92
  · cases h; exact gk Tryz.func95
  · cases h; exact gk Tryz.func97
  · cases h
def fns1 : FuncId → Option AFun
  | 98 => some c98
  | 99 => some c99
  | 100 => some c100
  | 101 => some c101
  | 103 => some c103
  | 104 => some c104
  | 105 => some c105
  | 106 => some c106
  | 107 => some c107
  | 108 => some c108
  | 109 => some c109
  | 110 => some c110
  | 111 => some c111
  | 112 => some c112
  | 113 => some c113
  | 115 => some c115
  | 116 => some c116
  | 117 => some c117
  | 118 => some c118
  | 119 => some c119
  | 120 => some c120
  | 121 => some c121
  | 122 => some c122
  | 123 => some c123
  | 124 => some c124
  | 125 => some c125
  | 126 => some c126
  | 127 => some c127
  | 128 => some c128
  | 129 => some c129
  | 130 => some c130
  | 131 => some c131
  | 133 => some c133
  | 134 => some c134
  | 135 => some c135
  | 136 => some c136
  | 141 => some c141
  | 142 => some c142
  | 143 => some c143
  | 144 => some c144
  | 145 => some c145
  | 146 => some c146
  | 147 => some c147
  | 150 => some c150
  | 151 => some c151
  | 152 => some c152
  | 153 => some c153
  | 154 => some c154
  | 155 => some c155
  | 156 => some c156
  | 157 => some c157
  | 158 => some c158
  | 159 => some c159
  | 160 => some c160
  | 161 => some c161
  | 162 => some c162
  | 163 => some c163
  | 164 => some c164
  | 165 => some c165
  | 166 => some c166
  | _ => none
theorem fns1_ok : FunsOK Tryz.prog fns1 := by
  intro f af h
  unfold fns1 at h
  split at h
  · cases h; exact gk Tryz.func98
  · cases h; exact gk Tryz.func99
  · cases h; exact gk Tryz.func100
  · cases h; exact gk Tryz.func101
  · cases h; exact gk Tryz.func103
  · cases h; exact gk Tryz.func104
  · cases h; exact gk Tryz.func105
  · cases h; exact gk Tryz.func106
  · cases h; exact gk Tryz.func107
  · cases h; exact gk Tryz.func108
  · cases h; exact gk Tryz.func109
  · cases h; exact gk Tryz.func110
  · cases h; exact gk Tryz.func111
  · cases h; exact gk Tryz.func112
  · cases h; exact gk Tryz.func113
  · cases h; exact gk Tryz.func115
  · cases h; exact gk Tryz.func116
  · cases h; exact gk Tryz.func117
  · cases h; exact gk Tryz.func118
  · cases h; exact gk Tryz.func119
  · cases h; exact gk Tryz.func120
  · cases h; exact gk Tryz.func121
  · cases h; exact gk Tryz.func122
  · cases h; exact gk Tryz.func123
  · cases h; exact gk Tryz.func124
  · cases h; exact gk Tryz.func125
  · cases h; exact gk Tryz.func126
  · cases h; exact gk Tryz.func127
  · cases h; exact gk Tryz.func128
  · cases h; exact gk Tryz.func129
  · cases h; exact gk Tryz.func130
  · cases h; exact gk Tryz.func131
  · cases h; exact gk Tryz.func133
  · cases h; exact gk Tryz.func134
  · cases h; exact gk Tryz.func135
  · cases h; exact gk Tryz.func136
  · cases h; exact gk Tryz.func141
  · cases h; exact gk Tryz.func142
  · cases h; exact gk Tryz.func143
  · cases h; exact gk Tryz.func144
  · cases h; exact gk Tryz.func145
  · cases h; exact gk Tryz.func146
  · cases h; exact gk Tryz.func147
  · cases h; exact gk Tryz.func150
  · cases h; exact gk Tryz.func151
  · cases h; exact gk Tryz.func152
  · cases h; exact gk Tryz.func153
  · cases h; exact gk Tryz.func154
  · cases h; exact gk Tryz.func155
  · cases h; exact gk Tryz.func156
  · cases h; exact gk Tryz.func157
  · cases h; exact gk Tryz.func158
  · cases h; exact gk Tryz.func159
  · cases h; exact gk Tryz.func160
  · cases h; exact gk Tryz.func161
  · cases h; exact gk Tryz.func162
  · cases h; exact gk Tryz.func163
  · cases h; exact gk Tryz.func164
  · cases h; exact gk Tryz.func165
  · cases h; exact gk Tryz.func166
  · cases h
def fns2 : FuncId → Option AFun
  | 167 => some c167
  | 168 => some c168
  | 169 => some c169
  | 170 => some c170
  | 171 => some c171
  | 173 => some c173
  | 174 => some c174
  | 175 => some c175
  | 176 => some c176
  | 177 => some c177
  | 178 => some c178
  | 180 => some c180
  | 181 => some c181
  | 182 => some c182
  | 183 => some c183
  | 184 => some c184
  | 185 => some c185
  | 186 => some c186
  | 187 => some c187
  | 188 => some c188
  | 190 => some c190
  | 191 => some c191
  | 192 => some c192
  | 193 => some c193
  | 194 => some c194
  | 195 => some c195
  | 196 => some c196
  | 198 => some c198
  | 199 => some c199
  | 200 => some c200
  | 201 => some c201
  | 202 => some c202
  | 203 => some c203
  | 204 => some c204
  | 205 => some c205
  | 206 => some c206
  | 207 => some c207
  | 208 => some c208
  | 209 => some c209
  | 210 => some c210
  | 212 => some c212
  | 213 => some c213
  | 214 => some c214
  | 215 => some c215
  | 216 => some c216
  | 217 => some c217
  | 218 => some c218
  | 219 => some c219
  | 221 => some c221
  | 222 => some c222
  | 223 => some c223
  | 224 => some c224
  | 226 => some c226
  | 227 => some c227
  | 228 => some c228
  | 238 => some c238
  | 239 => some c239
  | 246 => some c246
  | _ => none
theorem fns2_ok : FunsOK Tryz.prog fns2 := by
  intro f af h
  unfold fns2 at h
  split at h
  · cases h; exact gk Tryz.func167
  · cases h; exact gk Tryz.func168
  · cases h; exact gk Tryz.func169
  · cases h; exact gk Tryz.func170
  · cases h; exact gk Tryz.func171
  · cases h; exact gk Tryz.func173
  · cases h; exact gk Tryz.func174
  · cases h; exact gk Tryz.func175
  · cases h; exact gk Tryz.func176
  · cases h; exact gk Tryz.func177
  · cases h; exact gk Tryz.func178
  · cases h; exact gk Tryz.func180
  · cases h; exact gk Tryz.func181
  · cases h; exact gk Tryz.func182
  · cases h; exact gk Tryz.func183
  · cases h; exact gk Tryz.func184
  · cases h; exact gk Tryz.func185
  · cases h; exact gk Tryz.func186
  · cases h; exact gk Tryz.func187
  · cases h; exact gk Tryz.func188
  · cases h; exact gk Tryz.func190
  · cases h; exact gk Tryz.func191
  · cases h; exact gk Tryz.func192
  · cases h; exact gk Tryz.func193
  · cases h; exact gk Tryz.func194
  · cases h; exact gk Tryz.func195
  · cases h; exact gk Tryz.func196
  · cases h; exact gk Tryz.func198
  · cases h; exact gk Tryz.func199
  · cases h; exact gk Tryz.func200
  · cases h; exact gk Tryz.func201
  · cases h; exact gk Tryz.func202
  · cases h; exact gk Tryz.func203
  · cases h; exact gk Tryz.func204
  · cases h; exact gk Tryz.func205
  · cases h; exact gk Tryz.func206
  · cases h; exact gk Tryz.func207
  · cases h; exact gk Tryz.func208
  · cases h; exact gk Tryz.func209
  · cases h; exact gk Tryz.func210
  · cases h; exact gk Tryz.func212
  · cases h; exact gk Tryz.func213
  · cases h; exact gk Tryz.func214
  · cases h; exact gk Tryz.func215
  · cases h; exact gk Tryz.func216
  · cases h; exact gk Tryz.func217
  · cases h; exact gk Tryz.func218
  · cases h; exact gk Tryz.func219
  · cases h; exact gk Tryz.func221
  · cases h; exact gk Tryz.func222
  · cases h; exact gk Tryz.func223
  · cases h; exact gk Tryz.func224
  · cases h; exact gk Tryz.func226
  · cases h; exact gk Tryz.func227
  · cases h; exact gk Tryz.func228
  · cases h; exact gk Tryz.func238
  · cases h; exact gk Tryz.func239
  · cases h; exact gk Tryz.func246
  · cases h
def fns (f : FuncId) : Option AFun := (fns0 f).or ((fns1 f).or (fns2 f))
theorem fns_ok : FunsOK Tryz.prog fns := by
  intro f af h
  unfold fns at h
  rcases Option.or_eq_some_iff.1 h with h | ⟨_, h⟩
  · exact fns0_ok f af h
  rcases Option.or_eq_some_iff.1 h with h | ⟨_, h⟩
  · exact fns1_ok f af h
  exact fns2_ok f af h
end
end Go.Proofs.YtgohenjcanfolaaGreatDoor
namespace Go.Proofs.YtgohenjcanfolaaGreatDoor
open Go Go.Itp
set_option maxRecDepth 100000
def prims0:List (FuncId × Prim × TypeId):= [(137,.same,0),(211,.indexByte,0),(96,.count,0),(225,.makeNoZero,5)]
theorem prims_all:AllPrims Tryz.prog prims0:=
 ⟨⟨⟨Tryz.f137,Tryz.func137,by kernel_rfl,by kernel_rfl,by kernel_rfl,rfl⟩⟩,⟨⟨Tryz.f211,Tryz.func211,by kernel_rfl,by kernel_rfl,by kernel_rfl,rfl⟩⟩,⟨⟨Tryz.f96,Tryz.func96,by kernel_rfl,by kernel_rfl,by kernel_rfl,rfl⟩⟩,
  ⟨⟨Tryz.f225,Tryz.func225,by kernel_rfl,by kernel_rfl,#[3],97,by kernel_rfl,rfl,Tryz.underlying97⟩⟩,trivial⟩
theorem run_alive:runsTo true (body (callP (fun _ _=>none) many fns (primsOf prims0) 40) c18 [] St.empty)=true:=by kernel_rfl
end Go.Proofs.YtgohenjcanfolaaGreatDoor
namespace Go.Proofs.YtgohenjcanfolaaGreatDoor
open Go Go.Itp
open Go.RowKit (Below)
set_option maxRecDepth 100000
set_option linter.unusedVariables false
theorem own:ownKnob Tryz.prog.godebug=none:=by kernel_rfl
theorem mixed:Tryz.prog.follows .mixedOrders=true:=by kernel_rfl
def known:List (FuncId × List Value × Bool):= [(18,[],true)]
theorem has_alive:∃ fn c,Tryz.prog.funcs[(18:Nat)]? =some fn∧fn.body=some c∧(fn.name== "runtime.NumGoroutine")=false:=⟨Tryz.f18,_,Tryz.func18,rfl,by kernel_rfl⟩
theorem known_ok:Answers Tryz.prog (fun _ _=>none) known:=
 ⟨answer_of mixed fns_ok (fun w _=>primsOf_ok prims0 prims_all w) (f:=18) (af:=c18) rfl rfl run_alive,has_alive,trivial⟩
abbrev PR (w:World):FuncId→List Value→St→Option (Value × List Blk):=primT known
noncomputable abbrev EN (w:World) (n:Nat):Env:=callP (oldOf w) many fns (PR w) n
theorem prims_ok (W:World):PrimsOK Tryz.prog (PR W) W:=primT_ok (old:=fun _ _=>none) (fun _ _ _ h=>by cases h) known known_ok
theorem law_of {W:World} {f:FuncId} {af:AFun} (hf:fns f=some af) {xs:List Value} (hxs:idsL 0 xs= []) (n:Nat) {v:Value} {s':St} (hb:body (EN W n) af xs St.empty=some (v,s')) (hv:ids 0 v= []):
  Calls Tryz.prog f xs.toArray W fun e w'=>e= .returned v∧Below W.heap.size W w':=
 law_at mixed fns_ok (oldOf_ok W) (prims_ok W) hf hxs n hb hv
theorem alive_o (w:World) (n:Nat) (st:VSt):VSpecO (EN w (n+1)) 18 st [] (.sc (.bool true)):=by
 intro s μ F xsI w0 hsr hx
 have:xsI= []:=by simpa [VRepL] using hx
 subst this
 exact ⟨.bool true,rfl,fun w=> .mksc rfl⟩
end Go.Proofs.YtgohenjcanfolaaGreatDoor
namespace Go.Itp
set_option linter.unusedVariables false
set_option linter.unusedSimpArgs false
set_option maxRecDepth 10000
structure Sti where
 kind:Nat
 purl:Bool
 a:Int
 b:Int
abbrev wKnit:List UInt8:= [107,110,105,116]
abbrev wPurl:List UInt8:= [112,117,114,108]
abbrev wSlip:List UInt8:= [115,108,105,112]
abbrev wWith:List UInt8:= [119,105,116,104]
abbrev wYarn:List UInt8:= [121,97,114,110]
abbrev wIn:List UInt8:= [105,110]
abbrev wFront:List UInt8:= [102,114,111,110,116]
abbrev wOver:List UInt8:= [111,118,101,114]
abbrev wTog:List UInt8:= [116,111,103,101,116,104,101,114]
abbrev wFirst:List UInt8:= [40,102,105,114,115,116]
abbrev wOn:List UInt8:= [111,110]
abbrev wTop:List UInt8:= [116,111,112,41]
abbrev wMake:List UInt8:= [109,97,107,101]
abbrev wOut:List UInt8:= [111,117,116]
abbrev wOf:List UInt8:= [111,102]
abbrev w1:List UInt8:= [49]
abbrev wWise:List UInt8:= [112,117,114,108,119,105,115,101]
abbrev wCross:List UInt8:= [99,114,111,115,115]
abbrev wBehind:List UInt8:= [98,101,104,105,110,100]
abbrev wCast:List UInt8:= [99,97,115,116]
abbrev wBind:List UInt8:= [98,105,110,100]
abbrev wOff:List UInt8:= [111,102,102]
abbrev wTimes:List UInt8:= [116,105,109,101,115]
theorem Sti.ext' {x y:Sti} (h1:x.kind=y.kind) (h2:x.purl=y.purl) (h3:x.a=y.a) (h4:x.b=y.b):x=y:=by
 cases x;cases y;simp_all
instance:DecidableEq Sti:=fun x y=>decidable_of_iff (x.kind=y.kind∧x.purl=y.purl∧x.a=y.a∧x.b=y.b) ⟨fun ⟨h1,h2,h3,h4⟩=>Sti.ext' h1 h2 h3 h4,fun h=>by subst h;exact ⟨rfl,rfl,rfl,rfl⟩⟩
def sti0:Sti:=⟨0,false,0,0⟩
instance:Inhabited Sti:=⟨sti0⟩
def StiP (x:Sti):Prop:=
 (x.kind=1∨x.kind=8)∧x.a=0∧x.b=0∨
 x.kind=2∧x.purl=false∧x.a=0∧x.b=0∨
 (x.kind=3∨x.kind=4∨x.kind=5)∧2≤x.a∧x.a≤4∧x.b=0∨
 (x.kind=6∨x.kind=7)∧(1≤x.a∧x.a≤6)∧1≤x.b∧x.b≤6∨
 x.kind=9∧x.purl=false∧1≤x.a∧x.a≤200∧x.b=0∨
 x.kind=10∧1≤x.a∧x.a≤200∧x.b=0
instance stiP_dec (x:Sti):Decidable (StiP x):=by unfold StiP;infer_instance
def stiOK (x:Sti):Bool:=decide (StiP x)
theorem stiOK_iff {x:Sti}:stiOK x=true↔StiP x:=by unfold stiOK;exact decide_eq_true_iff
theorem StiP.bounds {x:Sti} (h:StiP x):1≤x.kind∧x.kind≤10∧0≤x.a∧x.a≤200∧0≤x.b∧x.b≤6:=by
 unfold StiP at h
 omega
def sideW (p:Bool):List UInt8:=if p=true then wPurl else wKnit
def wiseW (p:Bool):List (List UInt8):=if p=true then [wWise] else []
def baseW (x:Sti) (n:Int):List (List UInt8):=match x.kind with
 |1=> [sideW x.purl,Lib.itoa n]
 |2=> [wYarn,wOver]
 |3=> [sideW x.purl,Lib.itoa x.a,wTog,wFirst,wOn,wTop]
 |4=> [sideW x.purl,Lib.itoa x.a,wTog]
 |5=> [wMake,Lib.itoa x.a,wOut,wOf,w1]++wiseW x.purl
 |6=> [wCross,Lib.itoa x.a,wIn,wFront,wOf,Lib.itoa x.b]++wiseW x.purl
 |7=> [wCross,Lib.itoa x.a,wBehind,Lib.itoa x.b]++wiseW x.purl
 |8=> [wSlip,Lib.itoa n]++if x.purl=true then [wWith,wYarn,wIn,wFront] else []
 |9=> [wCast,wOn,Lib.itoa x.a]
 |_=> [wBind,wOff,Lib.itoa x.a]++wiseW x.purl
def timesW (x:Sti) (n:Int):List (List UInt8):=if 1<n∧x.kind ≠ 1∧x.kind ≠ 8 then [Lib.itoa n,wTimes] else []
def phraseW (x:Sti) (n:Int):List (List UInt8):=baseW x n++timesW x n
def phraseS (x:Sti) (n:Int):List UInt8:=join 32 (phraseW x n)
def okW (w:List UInt8):Prop:=(32:UInt8) ∉ w∧(44:UInt8) ∉ w∧(10:UInt8) ∉ w∧w ≠ []
instance okW_dec (w:List UInt8):Decidable (okW w):=by unfold okW;infer_instance
end Go.Itp
namespace Go.Itp
set_option linter.unusedVariables false
set_option linter.unusedSimpArgs false
set_option maxRecDepth 10000
def usedS (x:Sti):Int:=if x.kind=2∨x.kind=9 then 0 else if x.kind=3∨x.kind=4∨x.kind=10 then x.a else if x.kind=6∨x.kind=7 then x.a+x.b else 1
def madeS (x:Sti):Int:=if x.kind=10 then 0 else if x.kind=5∨x.kind=9 then x.a else if x.kind=6∨x.kind=7 then x.a+x.b else 1
def sumS (f:Sti→Int):List Sti→Int
 | []=>0
 |x::l=>f x+sumS f l
def allF (L:List Sti):Int:=if 200<L.length then 4 else if L.all stiOK=true then (if 200<sumS usedS L∨200<sumS madeS L then 4 else 0) else 8
def runsS:List Sti→List (Sti × Nat)
 | []=> []
 |x::l=>match runsS l with
  | []=> [(x,1)]
  |(y,n)::r=>if y=x then (x,n+1)::r else (x,1)::(y,n)::r
def phr (r:Sti × Nat):List UInt8:=phraseS r.1 r.2
def jnC:List (List UInt8)→List UInt8
 | []=> []
 | [w]=>w
 |w::ws=>w++44::32::jnC ws
def nothingS:List UInt8:= [110,111,116,104,105,110,103]
def wordsS (L:List Sti):List UInt8:=if L= [] then nothingS else jnC ((runsS L).map phr)
def cellsF (L:List Sti):List UInt8 × Int:=if allF L=0 then (if 2000<(wordsS L).length then ([],4) else (wordsS L,0)) else ([],allF L)
theorem allF_ok {L:List Sti} (h:allF L=0):L.length≤200∧L.all stiOK=true∧sumS usedS L≤200∧sumS madeS L≤200:=by
 unfold allF at h
 split at h
 ·exact absurd h (by decide)
 split at h
 ·split at h
  ·exact absurd h (by decide)
  ·rename_i h1 h2 h3
   exact ⟨by omega,h2,by omega,by omega⟩
 ·exact absurd h (by decide)
def faceS (b:Bool):List UInt8:=if b=true then [98,97,99,107] else [102,114,111,110,116]
def faceW (b:Bool):List UInt8:=40::faceS b++ [41,58]
def rowW:List UInt8:= [114,111,119]
def headS (b:Bool) (n:Int):List UInt8:=rowW++32::(Lib.itoa n++32::(faceW b++ [32]))
def rowF (b:Bool) (L:List Sti) (n:Int):List UInt8 × Int:=if allF L=0 then (if n<1∨100<n then ([],2) else if (cellsF L).2=0 then (headS b n++(cellsF L).1++ [46],0) else ([],(cellsF L).2)) else ([],allF L)
open Classical in
noncomputable def readR (s:List UInt8):Option (Bool × List Sti × Int):=if h:∃ r:Bool × List Sti × Int,rowF r.1 r.2.1 r.2.2=(s,0) then some (Classical.choose h) else none
abbrev ChT:=Int × List (Bool × List Sti)
def rowsE:List (Bool × List Sti)→Int
 | []=>0
 |r::l=>if allF r.2=0 then rowsE l else allF r.2
def checkF (c:ChT):Int:=if 100<c.2.length then 4 else if c.1<0∨200<c.1 then 8 else rowsE c.2
def linesF:Int→List (Bool × List Sti)→List UInt8 × Int
 |_,[]=>([],0)
 |n,r::l=>if (rowF r.1 r.2 n).2=0 then (if (linesF (n+1) l).2=0 then ((rowF r.1 r.2 n).1++10::(linesF (n+1) l).1,0) else ([],(linesF (n+1) l).2)) else ([],(rowF r.1 r.2 n).2)
def startS (n:Int):List UInt8:= [115,116,97,114,116]++32::([119,105,116,104]++32::(Lib.itoa n++32:: [115,116,105,116,99,104,101,115,46]))
def chartF (c:ChT):List UInt8 × Int:=if checkF c=0 then (if (linesF 1 c.2).2=0 then (if 60000<(startS c.1++10::(linesF 1 c.2).1).length then ([],4) else (startS c.1++10::(linesF 1 c.2).1,0)) else ([],(linesF 1 c.2).2)) else ([],checkF c)
open Classical in
noncomputable def readT (s:List UInt8):Option ChT:=if h:∃ c:ChT,chartF c=(s,0) then some (Classical.choose h) else none
end Go.Itp
namespace Go.Itp
set_option linter.unusedVariables false
set_option linter.unusedSimpArgs false
set_option maxRecDepth 10000
def fill:List (List UInt8)→List Int→List UInt8
 | [],_=> []
 | [p],_=>p
 |p::ps,[]=>p++35::fill ps []
 |p::ps,v::vs=>p++(Lib.itoa v++fill ps vs)
def noDig (r:List UInt8):Prop:=∀ c,r.head? =some c→isDig c=false
instance noDig_dec (r:List UInt8):Decidable (noDig r):=decidable_of_iff (r.head?.all (fun c=> !isDig c)=true) (by
 cases r with
 |nil=>simp[noDig]
 |cons c r=>simp[noDig])
end Go.Itp
namespace Go.Proofs.YtgohenjcanfolaaGreatDoor
open Go Go.Itp
set_option maxRecDepth 100000
set_option maxHeartbeats 400000
set_option linter.unusedSimpArgs false
set_option linter.unusedVariables false
def fL:Nat→List UInt8
 |3=> [102]|4=> [108]|5=> [109]|6=> [120]|7=> [121]|8=> [115]|10=> [111]
 |_=> []
def fA0:Nat→Int
 |3=>2|4=>2|5=>2|6=>1|7=>1|9=>1|10=>1
 |_=>0
def fA1:Nat→Int
 |3=>4|4=>4|5=>4|6=>6|7=>6|9=>200|10=>200
 |_=>0
def fB0:Nat→Int
 |6=>1|7=>1
 |_=>0
def fB1:Nat→Int
 |6=>6|7=>6
 |_=>0
def fS:Nat→Bool
 |2=>false|9=>false
 |_=>true
def fU:Nat→Nat
 |1=>1|2=>0|3=>2|4=>2|5=>1|6=>3|7=>3|8=>1|9=>0
 |_=>2
def fM:Nat→Nat
 |1=>1|2=>1|3=>1|4=>1|5=>2|6=>3|7=>3|8=>1|9=>2
 |_=>0
def formV (k:Nat):List Value:= [.string ⟨(fL k).toArray⟩,.int .i64 (fA0 k),.int .i64 (fA1 k),.int .i64 (fB0 k),.int .i64 (fB1 k),.bool (fS k),.int .i64 (fU k),.int .i64 (fM k)]
def formsD:List D:=(formV 1++formV 2++formV 3++formV 4++formV 5++formV 6++formV 7++formV 8++formV 9++formV 10).map D.sc
theorem put8 (s g u m:Value) (a b c d:Value):vfill (putAll (putAll [.sc s,.sc (.int .i64 0),.sc (.int .i64 0),.sc (.int .i64 0),.sc (.int .i64 0),.sc (.bool false),.sc (.int .i64 0),.sc (.int .i64 0)] 1 [.sc a,.sc b]) 3 [.sc c,.sc d]) [(5,1,.sc g),(6,1,.sc u),(7,1,.sc m)]=some [.sc s,.sc a,.sc b,.sc c,.sc d,.sc g,.sc u,.sc m]:=(rfl)
theorem row8 (nx t:Nat):mkRowV nx t 8 10 [.string ⟨#[]⟩,.int .i64 0,.int .i64 0,.int .i64 0,.int .i64 0,.bool false,.int .i64 0,.int .i64 0] [(0,8,.agg [.sc (.string ⟨#[]⟩),.sc (.int .i64 0),.sc (.int .i64 0),.sc (.int .i64 0),.sc (.int .i64 0),.sc (.bool true),.sc (.int .i64 1),.sc (.int .i64 1)]),(8,8,.agg [.sc (.string ⟨#[]⟩),.sc (.int .i64 0),.sc (.int .i64 0),.sc (.int .i64 0),.sc (.int .i64 0),.sc (.bool false),.sc (.int .i64 0),.sc (.int .i64 1)]),(16,8,.agg [.sc (.string ⟨#[102]⟩),.sc (.int .i64 2),.sc (.int .i64 4),.sc (.int .i64 0),.sc (.int .i64 0),.sc (.bool true),.sc (.int .i64 2),.sc (.int .i64 1)]),(24,8,.agg [.sc (.string ⟨#[108]⟩),.sc (.int .i64 2),.sc (.int .i64 4),.sc (.int .i64 0),.sc (.int .i64 0),.sc (.bool true),.sc (.int .i64 2),.sc (.int .i64 1)]),(32,8,.agg [.sc (.string ⟨#[109]⟩),.sc (.int .i64 2),.sc (.int .i64 4),.sc (.int .i64 0),.sc (.int .i64 0),.sc (.bool true),.sc (.int .i64 1),.sc (.int .i64 2)]),(40,8,.agg [.sc (.string ⟨#[120]⟩),.sc (.int .i64 1),.sc (.int .i64 6),.sc (.int .i64 1),.sc (.int .i64 6),.sc (.bool true),.sc (.int .i64 3),.sc (.int .i64 3)]),(48,8,.agg [.sc (.string ⟨#[121]⟩),.sc (.int .i64 1),.sc (.int .i64 6),.sc (.int .i64 1),.sc (.int .i64 6),.sc (.bool true),.sc (.int .i64 3),.sc (.int .i64 3)]),(56,8,.agg [.sc (.string ⟨#[115]⟩),.sc (.int .i64 0),.sc (.int .i64 0),.sc (.int .i64 0),.sc (.int .i64 0),.sc (.bool true),.sc (.int .i64 1),.sc (.int .i64 1)]),(64,8,.agg [.sc (.string ⟨#[]⟩),.sc (.int .i64 1),.sc (.int .i64 200),.sc (.int .i64 0),.sc (.int .i64 0),.sc (.bool false),.sc (.int .i64 0),.sc (.int .i64 2)]),(72,8,.agg [.sc (.string ⟨#[111]⟩),.sc (.int .i64 1),.sc (.int .i64 200),.sc (.int .i64 0),.sc (.int .i64 0),.sc (.bool true),.sc (.int .i64 2),.sc (.int .i64 0)])]=some (.ref nx 0 10 10,some (.row t 8 false false formsD),[]):=(rfl)
theorem formsD_at (k:Nat) (h1:1≤k) (h2:k≤10):dload formsD ((k - 1)*8) (some 8)=some (.agg ((formV k).map V.sc)):=by
 rcases (by omega:k=1∨k=2∨k=3∨k=4∨k=5∨k=6∨k=7∨k=8∨k=9∨k=10) with rfl|rfl|rfl|rfl|rfl|rfl|rfl|rfl|rfl|rfl<;>rfl
attribute [local irreducible] formsD
theorem stiP_form {x:Sti} (h1:1≤x.kind) (h2:x.kind≤10):StiP x↔(fA0 x.kind≤x.a∧x.a≤fA1 x.kind)∧(fB0 x.kind≤x.b∧x.b≤fB1 x.kind)∧(x.purl=true→fS x.kind=true):=by
 obtain ⟨k,p,a,b⟩:=x
 simp only at h1 h2 ⊢
 unfold StiP
 simp only
 rcases (by omega:k=1∨k=2∨k=3∨k=4∨k=5∨k=6∨k=7∨k=8∨k=9∨k=10) with rfl|rfl|rfl|rfl|rfl|rfl|rfl|rfl|rfl|rfl
 all_goals
  cases p<;>simp[fA0,fA1,fB0,fB1,fS]<;>omega
theorem stiP_kind {x:Sti} (h:¬ (1≤x.kind∧x.kind≤10)):stiOK x=false:=by
 rw[← Bool.not_eq_true,stiOK_iff]
 intro hx
 exact h ⟨hx.bounds.1,hx.bounds.2.1⟩
def loopsF (x:Sti) (h:Nat):Int:=if h=0 then 0 else if h=1 then 1 else if h=2 then x.a else x.a+x.b
theorem usedS_form {x:Sti} (h1:1≤x.kind) (h2:x.kind≤10):usedS x=loopsF x (fU x.kind)∧madeS x=loopsF x (fM x.kind):=by
 obtain ⟨k,p,a,b⟩:=x
 simp only at h1 h2 ⊢
 rcases (by omega:k=1∨k=2∨k=3∨k=4∨k=5∨k=6∨k=7∨k=8∨k=9∨k=10) with rfl|rfl|rfl|rfl|rfl|rfl|rfl|rfl|rfl|rfl
 all_goals
  simp[usedS,madeS,loopsF,fU,fM]
theorem fUM_le (k:Nat):fU k≤3∧fM k≤3:=by
 constructor
 ·unfold fU;split<;>decide
 ·unfold fM;split<;>decide
abbrev stiV (x:Sti):V:= .agg [.sc (.int .u8 x.kind),.sc (.bool x.purl),.sc (.int .i64 x.a),.sc (.int .i64 x.b)]
theorem tn0:Int.toNat 0=0:=rfl
theorem tn1:Int.toNat 1=1:=rfl
section
variable (w:World) (n:Nat)
theorem forms_p (k:Nat) (hk:1≤k) (hk2:k≤10):VSpec (EN w (n+1)) 129 [.sc (.int .u8 k)] (.tup [.agg ((formV k).map V.sc),.sc (.bool true)]) ⟨[],0,0⟩:=by
 refine vspec_flat rfl rfl (fun _ _=>rfl) (Nat.le_of_ble_eq_true rfl) (oldVals w) rfl fun C hC h0=>?_
 have hld:=formsD_at k hk hk2
 have hw:IntKind.u8.wrap ((k:Int) - 1)=((k - 1:Nat):Int):=by rw[wrap_u8 _ (by omega) (by omega)];omega
 unfold formV at hld ⊢
 simp (disch:=try exact z0z) only[WA,slotsL,opdsA,Nat.reduceEqDiff,Nat.reduceLT,Nat.reduceAdd,Nat.reduceBEq,Int.reduceAdd,Int.reduceSub,Int.reduceLT,Int.reduceLE,Int.reduceEq,Int.reduceNeg,↓reduceIte,reduceCtorEq,List.replicate,c129,put8,↓row8]
 rw[hw]
 simp (disch:=try exact z0z) only[WA,slotsL,opdsA,Nat.reduceEqDiff,Nat.reduceLT,Nat.reduceAdd,Nat.reduceBEq,Int.reduceAdd,Int.reduceSub,Int.reduceLT,Int.reduceLE,Int.reduceEq,Int.reduceNeg,↓reduceIte,reduceCtorEq,List.replicate,hld]
 exact weak_flat rfl h0 rfl
theorem forms0_p (k:Nat) (hk:¬ (1≤k∧k≤10)) (hb:k<256):VSpec (EN w (n+1)) 129 [.sc (.int .u8 k)] (.tup [.agg [.sc (.string ⟨#[]⟩),.sc (.int .i64 0),.sc (.int .i64 0),.sc (.int .i64 0),.sc (.int .i64 0),.sc (.bool false),.sc (.int .i64 0),.sc (.int .i64 0)],.sc (.bool false)]) ⟨[],0,0⟩:=by
 have hne:¬ (k:Int)<1→10<(k:Int):=by omega
 by_cases h1:(k:Int)<1
 all_goals
  refine vspec_flat rfl rfl (fun _ _=>rfl) (Nat.le_of_ble_eq_true rfl) (oldVals w) rfl fun C hC h0=>?_
  repeat' (first|(simp (disch:=try exact z0z) only[WA,slotsL,opdsA,Nat.reduceEqDiff,Nat.reduceLT,Nat.reduceAdd,Nat.reduceBEq,Int.reduceAdd,Int.reduceSub,Int.reduceLT,Int.reduceLE,Int.reduceEq,Int.reduceNeg,↓reduceIte,reduceCtorEq,List.replicate,c129,put8,↓row8])|apply gC_drawW|((first|apply gI_dec|apply gG_dec|apply gPG_dec|apply gI_var|apply gG_var|apply gPG_var)<;>intro _))
  all_goals try (exfalso;omega)
  exact weak_flat rfl h0 rfl
theorem within_p (v lo hi:Int):VSpec (EN w (n+1)) 202 [.sc (.int .i64 v),.agg [.sc (.int .i64 lo),.sc (.int .i64 hi)]] (.sc (.bool (decide (lo≤v∧v≤hi)))) ⟨[],0,0⟩:=by
 refine vspec_flat rfl rfl (fun _ _=>rfl) (Nat.le_of_ble_eq_true rfl) (oldVals w) rfl fun C hC h0=>?_
 by_cases h1:lo≤v
 ·by_cases h2:v≤hi
  ·rw[decide_eq_true ⟨h1,h2⟩]
   repeat' (first|(simp (disch:=try exact z0z) only[WA,slotsL,opdsA,Nat.reduceEqDiff,Nat.reduceLT,Nat.reduceAdd,Nat.reduceBEq,Int.reduceAdd,Int.reduceSub,Int.reduceLT,Int.reduceLE,Int.reduceEq,Int.reduceNeg,↓reduceIte,reduceCtorEq,List.replicate,c202,tn0,tn1])|apply gC_drawW|((first|apply gI_dec|apply gG_dec|apply gPG_dec|apply gI_var|apply gG_var|apply gPG_var)<;>intro _))
   all_goals try (exfalso;omega)
   exact weak_flat rfl h0 rfl
  ·rw[decide_eq_false (fun h=>h2 h.2)]
   repeat' (first|(simp (disch:=try exact z0z) only[WA,slotsL,opdsA,Nat.reduceEqDiff,Nat.reduceLT,Nat.reduceAdd,Nat.reduceBEq,Int.reduceAdd,Int.reduceSub,Int.reduceLT,Int.reduceLE,Int.reduceEq,Int.reduceNeg,↓reduceIte,reduceCtorEq,List.replicate,c202,tn0,tn1])|apply gC_drawW|((first|apply gI_dec|apply gG_dec|apply gPG_dec|apply gI_var|apply gG_var|apply gPG_var)<;>intro _))
   all_goals try (exfalso;omega)
   exact weak_flat rfl h0 rfl
 ·rw[decide_eq_false (fun h=>h1 h.1)]
  repeat' (first|(simp (disch:=try exact z0z) only[WA,slotsL,opdsA,Nat.reduceEqDiff,Nat.reduceLT,Nat.reduceAdd,Nat.reduceBEq,Int.reduceAdd,Int.reduceSub,Int.reduceLT,Int.reduceLE,Int.reduceEq,Int.reduceNeg,↓reduceIte,reduceCtorEq,List.replicate,c202,tn0,tn1])|apply gC_drawW|((first|apply gI_dec|apply gG_dec|apply gPG_dec|apply gI_var|apply gG_var|apply gPG_var)<;>intro _))
  all_goals try (exfalso;omega)
  exact weak_flat rfl h0 rfl
end
end Go.Proofs.YtgohenjcanfolaaGreatDoor
namespace Go.Proofs.YtgohenjcanfolaaGreatDoor
open Go Go.Itp
set_option maxRecDepth 100000
set_option maxHeartbeats 400000
set_option linter.unusedSimpArgs false
set_option linter.unusedVariables false
def stiD (L:List Sti):List D:=L.flatMap fun x=> [.sc (.int .u8 x.kind),.sc (.bool x.purl),.sc (.int .i64 x.a),.sc (.int .i64 x.b)]
theorem stiD_len (L:List Sti):(stiD L).length=L.length*4:=by
 induction L with
 |nil=>rfl
 |cons p L ih=>
  have e:stiD (p::L)= [.sc (.int .u8 p.kind),.sc (.bool p.purl),.sc (.int .i64 p.a),.sc (.int .i64 p.b)]++stiD L:=by simp[stiD]
  rw[e,List.length_append,ih];simp;omega
theorem stiD_agg (L:List Sti) (k:Nat) (hk:k<L.length):dload (stiD L) (k*4) (some 4)=some (stiV L[k]!):=by
 have:=dload_flat (fun x:Sti=> [D.sc (.int .u8 x.kind),.sc (.bool x.purl),.sc (.int .i64 x.a),.sc (.int .i64 x.b)]) 4 L (fun _=>rfl) (by decide) k hk
 unfold stiD
 rw[this]
 rfl
theorem ix0 (a b c d:V):idxVV 4 1 none (.agg [a,b,c,d]) (.sc (.int .i64 ((0:Nat):Int)))=some a:=(rfl)
theorem ix1 (a b c d:V):idxVV 4 1 none (.agg [a,b,c,d]) (.sc (.int .i64 ((1:Nat):Int)))=some b:=(rfl)
theorem ix2 (a b c d:V):idxVV 4 1 none (.agg [a,b,c,d]) (.sc (.int .i64 ((2:Nat):Int)))=some c:=(rfl)
theorem ix3 (a b c d:V):idxVV 4 1 none (.agg [a,b,c,d]) (.sc (.int .i64 ((3:Nat):Int)))=some d:=(rfl)
section
variable (w:World) (n:Nat)
theorem scheck_p (x:Sti) (hk:x.kind<256):VSpec (EN w (n+2)) 167 [stiV x] (.sc (.int .i64 (if stiOK x=true then 0 else 8))) ⟨[],0,0⟩:=by
 by_cases hr:1≤x.kind∧x.kind≤10
 ·have hf:=forms_p w n x.kind hr.1 hr.2
  have w1:=within_p w n x.a (fA0 x.kind) (fA1 x.kind)
  have w2:=within_p w n x.b (fB0 x.kind) (fB1 x.kind)
  have he:stiOK x=(decide (fA0 x.kind≤x.a∧x.a≤fA1 x.kind) && (decide (fB0 x.kind≤x.b∧x.b≤fB1 x.kind) && (!x.purl||fS x.kind))):=by
   have h1:=stiP_form hr.1 hr.2
   rw[Bool.eq_iff_iff,stiOK_iff,h1]
   cases x.purl<;>simp
  rw[he]
  unfold formV at hf
  generalize decide (fA0 x.kind≤x.a∧x.a≤fA1 x.kind)=A at*
  generalize decide (fB0 x.kind≤x.b∧x.b≤fB1 x.kind)=B at*
  generalize fS x.kind=S at*
  obtain ⟨k,p,a,b⟩:=x
  simp only at hf w1 w2 ⊢
  have go:∀ e:Int,(A=false∧e=8)∨(A=true∧B=false∧e=8)∨(A=true∧B=true∧p=false∧e=0)∨(A=true∧B=true∧p=true∧S=false∧e=8)∨(A=true∧B=true∧p=true∧S=true∧e=0)→VSpec (EN w (n+2)) 167 [stiV ⟨k,p,a,b⟩] (.sc (.int .i64 e)) ⟨[],0,0⟩:=by
   rintro e (⟨rfl,rfl⟩|⟨rfl,rfl,rfl⟩|⟨rfl,rfl,rfl,rfl⟩|⟨rfl,rfl,rfl,rfl,rfl⟩|⟨rfl,rfl,rfl,rfl,rfl⟩)
   all_goals
    refine vspec_flat rfl rfl (fun _ _=>rfl) (Nat.le_of_ble_eq_true rfl) (oldVals w) rfl fun C hC h0=>?_
    repeat' (first|(simp (disch:=try exact z0z) only[WA,slotsL,opdsA,Nat.reduceEqDiff,Nat.reduceLT,Nat.reduceAdd,Nat.reduceBEq,Int.reduceAdd,Int.reduceSub,Int.reduceLT,Int.reduceLE,Int.reduceEq,Int.reduceNeg,↓reduceIte,reduceCtorEq,List.replicate,c167])|apply gC_drawW|((first|apply gI_dec|apply gG_dec|apply gPG_dec|apply gI_var|apply gG_var|apply gPG_var)<;>intro _))
    refine callV_flat (by rw[hC];exact hf.flat rfl rfl) ?_
    repeat' (first|(simp (disch:=try exact z0z) only[WA,slotsL,opdsA,Nat.reduceEqDiff,Nat.reduceLT,Nat.reduceAdd,Nat.reduceBEq,Int.reduceAdd,Int.reduceSub,Int.reduceLT,Int.reduceLE,Int.reduceEq,Int.reduceNeg,↓reduceIte,reduceCtorEq,List.replicate])|apply gC_drawW|((first|apply gI_dec|apply gG_dec|apply gPG_dec|apply gI_var|apply gG_var|apply gPG_var)<;>intro _))
    refine callV_flat (by rw[hC];exact w1.flat rfl rfl) ?_
    repeat' (first|(simp (disch:=try exact z0z) only[WA,slotsL,opdsA,Nat.reduceEqDiff,Nat.reduceLT,Nat.reduceAdd,Nat.reduceBEq,Int.reduceAdd,Int.reduceSub,Int.reduceLT,Int.reduceLE,Int.reduceEq,Int.reduceNeg,↓reduceIte,reduceCtorEq,List.replicate])|apply gC_drawW|((first|apply gI_dec|apply gG_dec|apply gPG_dec|apply gI_var|apply gG_var|apply gPG_var)<;>intro _))
   ·exact weak_flat rfl h0 rfl
   all_goals
    refine callV_flat (by rw[hC];exact w2.flat rfl rfl) ?_
    repeat' (first|(simp (disch:=try exact z0z) only[WA,slotsL,opdsA,Nat.reduceEqDiff,Nat.reduceLT,Nat.reduceAdd,Nat.reduceBEq,Int.reduceAdd,Int.reduceSub,Int.reduceLT,Int.reduceLE,Int.reduceEq,Int.reduceNeg,↓reduceIte,reduceCtorEq,List.replicate])|apply gC_drawW|((first|apply gI_dec|apply gG_dec|apply gPG_dec|apply gI_var|apply gG_var|apply gPG_var)<;>intro _))
    exact weak_flat rfl h0 rfl
  refine go _ ?_
  cases A<;>cases B<;>cases p<;>cases S<;>simp
 ·have hf:=forms0_p w n x.kind hr hk
  rw[stiP_kind hr]
  obtain ⟨k,p,a,b⟩:=x
  refine vspec_flat rfl rfl (fun _ _=>rfl) (Nat.le_of_ble_eq_true rfl) (oldVals w) rfl fun C hC h0=>?_
  repeat' (first|(simp (disch:=try exact z0z) only[WA,slotsL,opdsA,Nat.reduceEqDiff,Nat.reduceLT,Nat.reduceAdd,Nat.reduceBEq,Int.reduceAdd,Int.reduceSub,Int.reduceLT,Int.reduceLE,Int.reduceEq,Int.reduceNeg,↓reduceIte,reduceCtorEq,List.replicate,c167])|apply gC_drawW|((first|apply gI_dec|apply gG_dec|apply gPG_dec|apply gI_var|apply gG_var|apply gPG_var)<;>intro _))
  refine callV_flat (by rw[hC];exact hf.flat rfl rfl) ?_
  repeat' (first|(simp (disch:=try exact z0z) only[WA,slotsL,opdsA,Nat.reduceEqDiff,Nat.reduceLT,Nat.reduceAdd,Nat.reduceBEq,Int.reduceAdd,Int.reduceSub,Int.reduceLT,Int.reduceLE,Int.reduceEq,Int.reduceNeg,↓reduceIte,reduceCtorEq,List.replicate])|apply gC_drawW|((first|apply gI_dec|apply gG_dec|apply gPG_dec|apply gI_var|apply gG_var|apply gPG_var)<;>intro _))
  exact weak_flat rfl h0 rfl
theorem loops_p (x:Sti) (h:Nat) (hh:h≤3) (ha: -1000000≤x.a∧x.a≤1000000) (hb: -1000000≤x.b∧x.b≤1000000):VSpec (EN w (n+1)) 203 [stiV x,.sc (.int .i64 h)] (.sc (.int .i64 (loopsF x h))) ⟨[],0,0⟩:=by
 obtain ⟨k,p,a,b⟩:=x
 simp only at ha hb
 rcases (by omega:h=0∨h=1∨h=2∨h=3) with rfl|rfl|rfl|rfl
 all_goals
  refine vspec_flat rfl rfl (fun _ _=>rfl) (Nat.le_of_ble_eq_true rfl) (oldVals w) rfl fun C hC h0=>?_
  repeat' (first|(simp (disch:=try exact z0z) only[WA,slotsL,opdsA,Nat.reduceEqDiff,Nat.reduceLT,Nat.reduceAdd,Nat.reduceBEq,Int.reduceAdd,Int.reduceSub,Int.reduceLT,Int.reduceLE,Int.reduceEq,Int.reduceNeg,↓reduceIte,reduceCtorEq,List.replicate,c203,ix0,ix1,ix2,ix3])|apply gC_drawW|((first|apply gI_dec|apply gG_dec|apply gPG_dec|apply gI_var|apply gG_var|apply gPG_var)<;>intro _))
  all_goals try (exfalso;omega)
  exact weak_flat rfl h0 rfl
theorem sum_bound {f:Sti→Int} {L:List Sti} (h:∀ x ∈ L,0≤f x∧f x≤1000):0≤sumS f L∧sumS f L≤1000*L.length:=by
 induction L with
 |nil=>simp[sumS]
 |cons x L ih=>
  have h1:=h x (by simp)
  have h2:=ih fun y hy=>h y (List.mem_cons_of_mem _ hy)
  simp only[sumS,List.length_cons]
  omega
theorem sumS_take {f:Sti→Int} {L:List Sti} {k:Nat} (hk:k<L.length):sumS f (L.take (k+1))=sumS f (L.take k)+f L[k]! :=by
 have app:∀ A B:List Sti,sumS f (A++B)=sumS f A+sumS f B:=by
  intro A B
  induction A with
  |nil=>simp[sumS]
  |cons x A ih=>simp only[List.cons_append,sumS,ih];omega
 rw[List.take_succ_eq_append_getElem hk,app,getElem!_pos _ k hk]
 simp[sumS]
theorem used_bound {x:Sti} (h:StiP x):(0≤usedS x∧usedS x≤1000)∧0≤madeS x∧madeS x≤1000:=by
 have hb:=h.bounds
 unfold usedS madeS
 constructor
 ·split
  ·omega
  split
  ·omega
  split<;>omega
 ·split
  ·omega
  split
  ·omega
  split<;>omega
theorem ssum_p (s:Nat) (L:List Sti) (hL:L.length≤200) (hok:L.all stiOK=true):VSpec (EN w (n+2)) 168 [.sl s L.length (stiD L)] (.tup [.sc (.int .i64 (sumS usedS L)),.sc (.int .i64 (sumS madeS L))]) ⟨[],0,0⟩:=by
 refine vspec_flat rfl rfl (fun _ _=>rfl) (Nat.le_of_ble_eq_true rfl) (oldVals w) rfl fun C hC h0=>?_
 have hrn:C.E.rounds=many:=by rw[hC,callP_rounds]
 have hil:=stiD_len L
 repeat' (first|(simp (disch:=try exact z0z) only[WA,slotsL,opdsA,Nat.reduceEqDiff,Nat.reduceLT,Nat.reduceAdd,Nat.reduceBEq,Int.reduceAdd,Int.reduceSub,Int.reduceLT,Int.reduceLE,Int.reduceEq,Int.reduceNeg,↓reduceIte,reduceCtorEq,List.replicate,c168])|apply gC_drawW|((first|apply gI_dec|apply gG_dec|apply gPG_dec|apply gI_var|apply gG_var|apply gPG_var)<;>intro _))
 all_goals try (exfalso;omega)
 refine g_while (fun m fr st=>∃ (k:Nat),m=L.length - k∧k≤L.length∧fr= [(2,.sc (.int .i64 (sumS usedS (L.take k)))),(3,.sc (.int .i64 (sumS madeS (L.take k)))),(8,.sl s L.length (stiD L)),(9,.sc (.int .i64 L.length)),(10,.sc (.int .i64 k))]∧st=⟨[],0,0⟩) L.length ?_ ⟨_,_,.refl _ _,0,by omega,Nat.zero_le _,rfl,rfl⟩ ?_
 ·rw[hrn];unfold many;omega
 rintro m fr st ⟨k,rfl,hk,rfl,rfl⟩
 by_cases hlt:k<L.length
 case neg=>
  have:k=L.length:=by omega
  subst this
  rw[List.take_length]
  repeat' (first|(simp (disch:=try exact z0z) only[WA,slotsL,opdsA,Nat.reduceEqDiff,Nat.reduceLT,Nat.reduceAdd,Nat.reduceBEq,Int.reduceAdd,Int.reduceSub,Int.reduceLT,Int.reduceLE,Int.reduceEq,Int.reduceNeg,↓reduceIte,reduceCtorEq,List.replicate,c168l0])|apply gC_drawW|((first|apply gI_dec|apply gG_dec|apply gPG_dec|apply gI_var|apply gG_var|apply gPG_var)<;>intro _))
  all_goals try (exfalso;omega)
  exact weak_flat rfl h0 rfl
 have hag:=stiD_agg L k hlt
 have u1:=sumS_take (f:=usedS) hlt
 have u2:=sumS_take (f:=madeS) hlt
 have htk:∀ x ∈ L.take k,StiP x:=fun x hx=>stiOK_iff.1 (List.all_eq_true.1 hok x (List.mem_of_mem_take hx))
 have b1:=sum_bound (f:=usedS) fun x hx=>(used_bound (htk x hx)).1
 have b2:=sum_bound (f:=madeS) fun x hx=>(used_bound (htk x hx)).2
 have hl2:(L.take k).length≤200:=by rw[List.length_take];omega
 have hx:StiP L[k]! :=stiOK_iff.1 (List.all_eq_true.1 hok _ (by rw[getElem!_pos _ k hlt];exact List.getElem_mem hlt))
 generalize L[k]! =X at*
 have hb:=hx.bounds
 have c1:=used_bound hx
 have hf:=forms_p w n X.kind hb.1 hb.2.1
 have l1:=loops_p w n X (fU X.kind) (fUM_le _).1 (by omega) (by omega)
 have l2:=loops_p w n X (fM X.kind) (fUM_le _).2 (by omega) (by omega)
 have e:=usedS_form hb.1 hb.2.1
 rw[← e.1] at l1
 rw[← e.2] at l2
 unfold formV at hf
 generalize sumS usedS (L.take k)=U at*
 generalize sumS madeS (L.take k)=M at*
 generalize usedS X=uu at*
 generalize madeS X=mm at*
 obtain ⟨xk,xp,xa,xb⟩:=X
 repeat' (first|(simp (disch:=try exact z0z) only[WA,slotsL,opdsA,Nat.reduceEqDiff,Nat.reduceLT,Nat.reduceAdd,Nat.reduceBEq,Int.reduceAdd,Int.reduceSub,Int.reduceLT,Int.reduceLE,Int.reduceEq,Int.reduceNeg,↓reduceIte,reduceCtorEq,List.replicate,c168l0,hag])|apply gC_drawW|((first|apply gI_dec|apply gG_dec|apply gPG_dec|apply gI_var|apply gG_var|apply gPG_var)<;>intro _))
 all_goals try (exfalso;omega)
 refine callV_flat (by rw[hC];exact hf.flat rfl rfl) ?_
 repeat' (first|(simp (disch:=try exact z0z) only[WA,slotsL,opdsA,Nat.reduceEqDiff,Nat.reduceLT,Nat.reduceAdd,Nat.reduceBEq,Int.reduceAdd,Int.reduceSub,Int.reduceLT,Int.reduceLE,Int.reduceEq,Int.reduceNeg,↓reduceIte,reduceCtorEq,List.replicate])|apply gC_drawW|((first|apply gI_dec|apply gG_dec|apply gPG_dec|apply gI_var|apply gG_var|apply gPG_var)<;>intro _))
 refine callV_flat (by rw[hC];exact l1.flat rfl rfl) ?_
 repeat' (first|(simp (disch:=try exact z0z) only[WA,slotsL,opdsA,Nat.reduceEqDiff,Nat.reduceLT,Nat.reduceAdd,Nat.reduceBEq,Int.reduceAdd,Int.reduceSub,Int.reduceLT,Int.reduceLE,Int.reduceEq,Int.reduceNeg,↓reduceIte,reduceCtorEq,List.replicate])|apply gC_drawW|((first|apply gI_dec|apply gG_dec|apply gPG_dec|apply gI_var|apply gG_var|apply gPG_var)<;>intro _))
 refine callV_flat (by rw[hC];exact l2.flat rfl rfl) ?_
 repeat' (first|(simp (disch:=try exact z0z) only[WA,slotsL,opdsA,Nat.reduceEqDiff,Nat.reduceLT,Nat.reduceAdd,Nat.reduceBEq,Int.reduceAdd,Int.reduceSub,Int.reduceLT,Int.reduceLE,Int.reduceEq,Int.reduceNeg,↓reduceIte,reduceCtorEq,List.replicate])|apply gC_drawW|((first|apply gI_dec|apply gG_dec|apply gPG_dec|apply gI_var|apply gG_var|apply gPG_var)<;>intro _))
 all_goals try (exfalso;omega)
 refine ⟨L.length - (k+1),_,_,by omega,weak_to [] 0 h0 rfl rfl rfl rfl,k+1,rfl,by omega,?_,rfl⟩
 rw[u1,u2]
 rfl
end
abbrev KOK (L:List Sti):Prop:=∀ x ∈ L,x.kind<256
theorem KOK.at {L:List Sti} (h:KOK L) {k:Nat} (hk:k<L.length):L[k]!.kind<256:=h _ (by rw[getElem!_pos _ k hk];exact List.getElem_mem hk)
theorem stis_take {L:List Sti} {k:Nat} (hk:k<L.length) (h:(L.take k).all stiOK=true) (h2:stiOK L[k]! =true):(L.take (k+1)).all stiOK=true:=by
 rw[List.take_succ_eq_append_getElem hk,List.all_append,h]
 rw[getElem!_pos _ k hk] at h2
 simp[h2]
theorem stis_bad {L:List Sti} {k:Nat} (hk:k<L.length) (h2:stiOK L[k]! =false):¬ L.all stiOK=true:=fun h=>by
 rw[getElem!_pos _ k hk] at h2
 have:=List.all_eq_true.1 h _ (List.getElem_mem hk)
 rw[this] at h2;cases h2
section
variable (w:World) (n:Nat)
theorem sall1_p (x:Sti) (hk:x.kind<256):VSpec (EN w (n+3)) 166 [stiV x] (.sc (.bool (!stiOK x))) ⟨[],0,0⟩:=by
 have hc:=scheck_p w n x hk
 cases he:stiOK x with
 |true=>
  rw[he,if_pos rfl] at hc
  obtain ⟨xk,xp,xa,xb⟩:=x
  refine vspec_flat rfl rfl (fun _ _=>rfl) (Nat.le_of_ble_eq_true rfl) (oldVals w) rfl fun C hC h0=>?_
  repeat' (first|(simp (disch:=try exact z0z) only[WA,slotsL,opdsA,Nat.reduceEqDiff,Nat.reduceLT,Nat.reduceAdd,Nat.reduceBEq,Int.reduceAdd,Int.reduceSub,Int.reduceLT,Int.reduceLE,Int.reduceEq,Int.reduceNeg,↓reduceIte,reduceCtorEq,List.replicate,c166])|apply gC_drawW|((first|apply gI_dec|apply gG_dec|apply gPG_dec|apply gI_var|apply gG_var|apply gPG_var)<;>intro _))
  refine callV_flat (by rw[hC];exact hc.flat rfl rfl) ?_
  repeat' (first|(simp (disch:=try exact z0z) only[WA,slotsL,opdsA,Nat.reduceEqDiff,Nat.reduceLT,Nat.reduceAdd,Nat.reduceBEq,Int.reduceAdd,Int.reduceSub,Int.reduceLT,Int.reduceLE,Int.reduceEq,Int.reduceNeg,↓reduceIte,reduceCtorEq,List.replicate])|apply gC_drawW|((first|apply gI_dec|apply gG_dec|apply gPG_dec|apply gI_var|apply gG_var|apply gPG_var)<;>intro _))
  exact weak_flat rfl h0 rfl
 |false=>
  rw[he,if_neg (by decide)] at hc
  obtain ⟨xk,xp,xa,xb⟩:=x
  refine vspec_flat rfl rfl (fun _ _=>rfl) (Nat.le_of_ble_eq_true rfl) (oldVals w) rfl fun C hC h0=>?_
  repeat' (first|(simp (disch:=try exact z0z) only[WA,slotsL,opdsA,Nat.reduceEqDiff,Nat.reduceLT,Nat.reduceAdd,Nat.reduceBEq,Int.reduceAdd,Int.reduceSub,Int.reduceLT,Int.reduceLE,Int.reduceEq,Int.reduceNeg,↓reduceIte,reduceCtorEq,List.replicate,c166])|apply gC_drawW|((first|apply gI_dec|apply gG_dec|apply gPG_dec|apply gI_var|apply gG_var|apply gPG_var)<;>intro _))
  refine callV_flat (by rw[hC];exact hc.flat rfl rfl) ?_
  repeat' (first|(simp (disch:=try exact z0z) only[WA,slotsL,opdsA,Nat.reduceEqDiff,Nat.reduceLT,Nat.reduceAdd,Nat.reduceBEq,Int.reduceAdd,Int.reduceSub,Int.reduceLT,Int.reduceLE,Int.reduceEq,Int.reduceNeg,↓reduceIte,reduceCtorEq,List.replicate])|apply gC_drawW|((first|apply gI_dec|apply gG_dec|apply gPG_dec|apply gI_var|apply gG_var|apply gPG_var)<;>intro _))
  exact weak_flat rfl h0 rfl
theorem sindex_p (s:Nat) (L:List Sti) (hL:L.length≤200) (hK:KOK L):∃ r:Int,(L.all stiOK=true→r= -1)∧(¬ L.all stiOK=true→0≤r)∧
  VSpec (EN w (n+4)) 163 [.sl s L.length (stiD L),.sc (.func (.func 166) #[] #[])] (.sc (.int .i64 r)) ⟨[],0,0⟩:=by
 have main:∀ (j:Nat),j≤L.length→(L.take j).all stiOK=true→(j<L.length→stiOK L[j]! =false)→VSpec (EN w (n+4)) 163 [.sl s L.length (stiD L),.sc (.func (.func 166) #[] #[])] (.sc (.int .i64 (if j<L.length then (j:Int) else -1))) ⟨[],0,0⟩:=by
  intro j hj hall hbad
  refine vspec_flat rfl rfl (fun _ _=>rfl) (Nat.le_of_ble_eq_true rfl) (oldVals w) rfl fun C hC h0=>?_
  have hrn:C.E.rounds=many:=by rw[hC,callP_rounds]
  have hil:=stiD_len L
  repeat' (first|(simp (disch:=try exact z0z) only[WA,slotsL,opdsA,Nat.reduceEqDiff,Nat.reduceLT,Nat.reduceAdd,Nat.reduceBEq,Int.reduceAdd,Int.reduceSub,Int.reduceLT,Int.reduceLE,Int.reduceEq,Int.reduceNeg,↓reduceIte,reduceCtorEq,List.replicate,c163])|apply gC_drawW|((first|apply gI_dec|apply gG_dec|apply gPG_dec|apply gI_var|apply gG_var|apply gPG_var)<;>intro _))
  all_goals try (exfalso;omega)
  refine g_while (fun m fr st=>∃ (k:Nat),m=L.length - k∧k≤j∧fr= [(0,.sl s L.length (stiD L)),(1,.sc (.func (.func 166) #[] #[])),(7,.sc (.int .i64 L.length)),(8,.sc (.int .i64 k))]∧st=⟨[],0,0⟩) L.length ?_ ⟨_,_,.refl _ _,0,by omega,Nat.zero_le _,rfl,rfl⟩ ?_
  ·rw[hrn];unfold many;omega
  rintro m fr st ⟨k,rfl,hk,rfl,rfl⟩
  by_cases hlt:k<L.length
  case neg=>
   rw[if_neg (by omega)]
   repeat' (first|(simp (disch:=try exact z0z) only[WA,slotsL,opdsA,Nat.reduceEqDiff,Nat.reduceLT,Nat.reduceAdd,Nat.reduceBEq,Int.reduceAdd,Int.reduceSub,Int.reduceLT,Int.reduceLE,Int.reduceEq,Int.reduceNeg,↓reduceIte,reduceCtorEq,List.replicate,c163l0])|apply gC_drawW|((first|apply gI_dec|apply gG_dec|apply gPG_dec|apply gI_var|apply gG_var|apply gPG_var)<;>intro _))
   all_goals try (exfalso;omega)
   exact weak_flat rfl h0 rfl
  have hag:=stiD_agg L k hlt
  have h1:=sall1_p w n L[k]! (hK.at hlt)
  by_cases hkj:k=j
  ·subst hkj
   rw[hbad hlt] at h1
   rw[if_pos hlt]
   generalize L[k]! =X at*
   obtain ⟨xk,xp,xa,xb⟩:=X
   repeat' (first|(simp (disch:=try exact z0z) only[WA,slotsL,opdsA,Nat.reduceEqDiff,Nat.reduceLT,Nat.reduceAdd,Nat.reduceBEq,Int.reduceAdd,Int.reduceSub,Int.reduceLT,Int.reduceLE,Int.reduceEq,Int.reduceNeg,↓reduceIte,reduceCtorEq,List.replicate,c163l0,hag])|apply gC_drawW|((first|apply gI_dec|apply gG_dec|apply gPG_dec|apply gI_var|apply gG_var|apply gPG_var)<;>intro _))
   all_goals try (exfalso;omega)
   refine callV_flat (by rw[hC];exact h1.flat rfl rfl) ?_
   repeat' (first|(simp (disch:=try exact z0z) only[WA,slotsL,opdsA,Nat.reduceEqDiff,Nat.reduceLT,Nat.reduceAdd,Nat.reduceBEq,Int.reduceAdd,Int.reduceSub,Int.reduceLT,Int.reduceLE,Int.reduceEq,Int.reduceNeg,↓reduceIte,reduceCtorEq,List.replicate])|apply gC_drawW|((first|apply gI_dec|apply gG_dec|apply gPG_dec|apply gI_var|apply gG_var|apply gPG_var)<;>intro _))
   exact weak_flat rfl h0 rfl
  ·have ho:stiOK L[k]! =true:=List.all_eq_true.1 hall _ (by
    rw[getElem!_pos _ k hlt]
    exact List.mem_iff_getElem.2 ⟨k,by rw[List.length_take];omega,List.getElem_take⟩)
   rw[ho] at h1
   generalize L[k]! =X at*
   obtain ⟨xk,xp,xa,xb⟩:=X
   repeat' (first|(simp (disch:=try exact z0z) only[WA,slotsL,opdsA,Nat.reduceEqDiff,Nat.reduceLT,Nat.reduceAdd,Nat.reduceBEq,Int.reduceAdd,Int.reduceSub,Int.reduceLT,Int.reduceLE,Int.reduceEq,Int.reduceNeg,↓reduceIte,reduceCtorEq,List.replicate,c163l0,hag])|apply gC_drawW|((first|apply gI_dec|apply gG_dec|apply gPG_dec|apply gI_var|apply gG_var|apply gPG_var)<;>intro _))
   all_goals try (exfalso;omega)
   refine callV_flat (by rw[hC];exact h1.flat rfl rfl) ?_
   repeat' (first|(simp (disch:=try exact z0z) only[WA,slotsL,opdsA,Nat.reduceEqDiff,Nat.reduceLT,Nat.reduceAdd,Nat.reduceBEq,Int.reduceAdd,Int.reduceSub,Int.reduceLT,Int.reduceLE,Int.reduceEq,Int.reduceNeg,↓reduceIte,reduceCtorEq,List.replicate])|apply gC_drawW|((first|apply gI_dec|apply gG_dec|apply gPG_dec|apply gI_var|apply gG_var|apply gPG_var)<;>intro _))
   exact ⟨L.length - (k+1),_,_,by omega,.refl _ _,k+1,rfl,by omega,rfl,rfl⟩
 have hex:∃ j,j≤L.length∧(L.take j).all stiOK=true∧(j<L.length→stiOK L[j]! =false):=by
  have:∀ m,m≤L.length→(L.take m).all stiOK=true∨∃ j,j<m∧(L.take j).all stiOK=true∧stiOK L[j]! =false:=by
   intro m
   induction m with
   |zero=>intro _;exact .inl rfl
   |succ m ih=>
    intro hm
    rcases ih (by omega) with h|⟨j,h1,h2,h3⟩
    ·cases hc:stiOK L[m]! with
     |true=>exact .inl (stis_take (by omega) h hc)
     |false=>exact .inr ⟨m,by omega,h,hc⟩
    ·exact .inr ⟨j,by omega,h2,h3⟩
  rcases this L.length (Nat.le_refl _) with h|⟨j,h1,h2,h3⟩
  ·exact ⟨L.length,Nat.le_refl _,h,fun h=>absurd h (Nat.lt_irrefl _)⟩
  ·exact ⟨j,by omega,h2,fun _=>h3⟩
 obtain ⟨j,h1,h2,h3⟩:=hex
 refine ⟨_,fun hall=>?_,fun hall=>?_,main j h1 h2 h3⟩
 ·rw[if_neg fun h=>stis_bad h (h3 h) hall]
 ·by_cases h:j<L.length
  ·rw[if_pos h];omega
  ·have:j=L.length:=by omega
   subst this
   rw[List.take_length] at h2
   exact absurd h2 hall
theorem scontains_p (s:Nat) (L:List Sti) (hL:L.length≤200) (hK:KOK L):VSpec (EN w (n+5)) 123 [.sl s L.length (stiD L),.sc (.func (.func 166) #[] #[])] (.sc (.bool (!(L.all stiOK)))) ⟨[],0,0⟩:=by
 obtain ⟨r,h1,h2,hr⟩:=sindex_p w n s L hL hK
 cases ha:L.all stiOK with
 |true=>
  have e:=h1 ha
  subst e
  refine vspec_flat rfl rfl (fun _ _=>rfl) (Nat.le_of_ble_eq_true rfl) (oldVals w) rfl fun C hC h0=>?_
  repeat' (first|(simp (disch:=try exact z0z) only[WA,slotsL,opdsA,Nat.reduceEqDiff,Nat.reduceLT,Nat.reduceAdd,Nat.reduceBEq,Int.reduceAdd,Int.reduceSub,Int.reduceLT,Int.reduceLE,Int.reduceEq,Int.reduceNeg,↓reduceIte,reduceCtorEq,List.replicate,c123])|apply gC_drawW|((first|apply gI_dec|apply gG_dec|apply gPG_dec|apply gI_var|apply gG_var|apply gPG_var)<;>intro _))
  refine callV_flat (by rw[hC];exact hr.flat rfl rfl) ?_
  repeat' (first|(simp (disch:=try exact z0z) only[WA,slotsL,opdsA,Nat.reduceEqDiff,Nat.reduceLT,Nat.reduceAdd,Nat.reduceBEq,Int.reduceAdd,Int.reduceSub,Int.reduceLT,Int.reduceLE,Int.reduceEq,Int.reduceNeg,↓reduceIte,reduceCtorEq,List.replicate])|apply gC_drawW|((first|apply gI_dec|apply gG_dec|apply gPG_dec|apply gI_var|apply gG_var|apply gPG_var)<;>intro _))
  exact weak_flat rfl h0 rfl
 |false=>
  have e:=h2 (by rw[ha];decide)
  refine vspec_flat rfl rfl (fun _ _=>rfl) (Nat.le_of_ble_eq_true rfl) (oldVals w) rfl fun C hC h0=>?_
  repeat' (first|(simp (disch:=try exact z0z) only[WA,slotsL,opdsA,Nat.reduceEqDiff,Nat.reduceLT,Nat.reduceAdd,Nat.reduceBEq,Int.reduceAdd,Int.reduceSub,Int.reduceLT,Int.reduceLE,Int.reduceEq,Int.reduceNeg,↓reduceIte,reduceCtorEq,List.replicate,c123])|apply gC_drawW|((first|apply gI_dec|apply gG_dec|apply gPG_dec|apply gI_var|apply gG_var|apply gPG_var)<;>intro _))
  refine callV_flat (by rw[hC];exact hr.flat rfl rfl) ?_
  repeat' (first|(simp (disch:=try exact z0z) only[WA,slotsL,opdsA,Nat.reduceEqDiff,Nat.reduceLT,Nat.reduceAdd,Nat.reduceBEq,Int.reduceAdd,Int.reduceSub,Int.reduceLT,Int.reduceLE,Int.reduceEq,Int.reduceNeg,↓reduceIte,reduceCtorEq,List.replicate])|apply gC_drawW|((first|apply gI_dec|apply gG_dec|apply gPG_dec|apply gI_var|apply gG_var|apply gPG_var)<;>intro _))
  all_goals try (exfalso;omega)
  exact weak_flat rfl h0 rfl
theorem sall_p (s:Nat) (L:List Sti) (hL:L.length≤140737488351232) (hK:KOK L):VSpec (EN w (n+6)) 127 [.sl s L.length (stiD L)] (.sc (.int .i64 (allF L))) ⟨[],0,0⟩:=by
 have hil:=stiD_len L
 unfold allF
 by_cases h2:200<L.length
 ·rw[if_pos h2]
  refine vspec_flat rfl rfl (fun _ _=>rfl) (Nat.le_of_ble_eq_true rfl) (oldVals w) rfl fun C hC h0=>?_
  repeat' (first|(simp (disch:=try exact z0z) only[WA,slotsL,opdsA,Nat.reduceEqDiff,Nat.reduceLT,Nat.reduceAdd,Nat.reduceBEq,Int.reduceAdd,Int.reduceSub,Int.reduceLT,Int.reduceLE,Int.reduceEq,Int.reduceNeg,↓reduceIte,reduceCtorEq,List.replicate,c127])|apply gC_drawW|((first|apply gI_dec|apply gG_dec|apply gPG_dec|apply gI_var|apply gG_var|apply gPG_var)<;>intro _))
  all_goals try (exfalso;omega)
  exact weak_flat rfl h0 rfl
 rw[if_neg h2]
 have hc:=scontains_p w n s L (by omega) hK
 cases ha:L.all stiOK with
 |false=>
  rw[ha] at hc
  rw[if_neg (by decide)]
  refine vspec_flat rfl rfl (fun _ _=>rfl) (Nat.le_of_ble_eq_true rfl) (oldVals w) rfl fun C hC h0=>?_
  repeat' (first|(simp (disch:=try exact z0z) only[WA,slotsL,opdsA,Nat.reduceEqDiff,Nat.reduceLT,Nat.reduceAdd,Nat.reduceBEq,Int.reduceAdd,Int.reduceSub,Int.reduceLT,Int.reduceLE,Int.reduceEq,Int.reduceNeg,↓reduceIte,reduceCtorEq,List.replicate,c127])|apply gC_drawW|((first|apply gI_dec|apply gG_dec|apply gPG_dec|apply gI_var|apply gG_var|apply gPG_var)<;>intro _))
  all_goals try (exfalso;omega)
  refine callV_flat (by rw[hC];exact hc.flat rfl rfl) ?_
  repeat' (first|(simp (disch:=try exact z0z) only[WA,slotsL,opdsA,Nat.reduceEqDiff,Nat.reduceLT,Nat.reduceAdd,Nat.reduceBEq,Int.reduceAdd,Int.reduceSub,Int.reduceLT,Int.reduceLE,Int.reduceEq,Int.reduceNeg,↓reduceIte,reduceCtorEq,List.replicate])|apply gC_drawW|((first|apply gI_dec|apply gG_dec|apply gPG_dec|apply gI_var|apply gG_var|apply gPG_var)<;>intro _))
  exact weak_flat rfl h0 rfl
 |true=>
  rw[ha] at hc
  rw[if_pos rfl]
  have hs:=ssum_p w (n+3) s L (by omega) ha
  generalize sumS usedS L=U at*
  generalize sumS madeS L=M at*
  by_cases hm:200<U∨200<M
  ·rw[if_pos hm]
   have hmx:200<max U M:=by omega
   generalize hX:max U M=X at*
   refine vspec_flat rfl rfl (fun _ _=>rfl) (Nat.le_of_ble_eq_true rfl) (oldVals w) rfl fun C hC h0=>?_
   repeat' (first|(simp (disch:=try exact z0z) only[WA,slotsL,opdsA,Nat.reduceEqDiff,Nat.reduceLT,Nat.reduceAdd,Nat.reduceBEq,Int.reduceAdd,Int.reduceSub,Int.reduceLT,Int.reduceLE,Int.reduceEq,Int.reduceNeg,↓reduceIte,reduceCtorEq,List.replicate,c127])|apply gC_drawW|((first|apply gI_dec|apply gG_dec|apply gPG_dec|apply gI_var|apply gG_var|apply gPG_var)<;>intro _))
   all_goals try (exfalso;omega)
   refine callV_flat (by rw[hC];exact hc.flat rfl rfl) ?_
   repeat' (first|(simp (disch:=try exact z0z) only[WA,slotsL,opdsA,Nat.reduceEqDiff,Nat.reduceLT,Nat.reduceAdd,Nat.reduceBEq,Int.reduceAdd,Int.reduceSub,Int.reduceLT,Int.reduceLE,Int.reduceEq,Int.reduceNeg,↓reduceIte,reduceCtorEq,List.replicate])|apply gC_drawW|((first|apply gI_dec|apply gG_dec|apply gPG_dec|apply gI_var|apply gG_var|apply gPG_var)<;>intro _))
   refine callV_flat (by rw[hC];exact hs.flat rfl rfl) ?_
   repeat' (first|(simp (disch:=try exact z0z) only[WA,slotsL,opdsA,Nat.reduceEqDiff,Nat.reduceLT,Nat.reduceAdd,Nat.reduceBEq,Int.reduceAdd,Int.reduceSub,Int.reduceLT,Int.reduceLE,Int.reduceEq,Int.reduceNeg,↓reduceIte,reduceCtorEq,List.replicate,mmV_max,hX])|apply gC_drawW|((first|apply gI_dec|apply gG_dec|apply gPG_dec|apply gI_var|apply gG_var|apply gPG_var)<;>intro _))
   all_goals try (exfalso;omega)
   exact weak_flat rfl h0 rfl
  ·rw[if_neg hm]
   have hmx:max U M≤200:=by omega
   generalize hX:max U M=X at*
   refine vspec_flat rfl rfl (fun _ _=>rfl) (Nat.le_of_ble_eq_true rfl) (oldVals w) rfl fun C hC h0=>?_
   repeat' (first|(simp (disch:=try exact z0z) only[WA,slotsL,opdsA,Nat.reduceEqDiff,Nat.reduceLT,Nat.reduceAdd,Nat.reduceBEq,Int.reduceAdd,Int.reduceSub,Int.reduceLT,Int.reduceLE,Int.reduceEq,Int.reduceNeg,↓reduceIte,reduceCtorEq,List.replicate,c127])|apply gC_drawW|((first|apply gI_dec|apply gG_dec|apply gPG_dec|apply gI_var|apply gG_var|apply gPG_var)<;>intro _))
   all_goals try (exfalso;omega)
   refine callV_flat (by rw[hC];exact hc.flat rfl rfl) ?_
   repeat' (first|(simp (disch:=try exact z0z) only[WA,slotsL,opdsA,Nat.reduceEqDiff,Nat.reduceLT,Nat.reduceAdd,Nat.reduceBEq,Int.reduceAdd,Int.reduceSub,Int.reduceLT,Int.reduceLE,Int.reduceEq,Int.reduceNeg,↓reduceIte,reduceCtorEq,List.replicate])|apply gC_drawW|((first|apply gI_dec|apply gG_dec|apply gPG_dec|apply gI_var|apply gG_var|apply gPG_var)<;>intro _))
   refine callV_flat (by rw[hC];exact hs.flat rfl rfl) ?_
   repeat' (first|(simp (disch:=try exact z0z) only[WA,slotsL,opdsA,Nat.reduceEqDiff,Nat.reduceLT,Nat.reduceAdd,Nat.reduceBEq,Int.reduceAdd,Int.reduceSub,Int.reduceLT,Int.reduceLE,Int.reduceEq,Int.reduceNeg,↓reduceIte,reduceCtorEq,List.replicate,mmV_max,hX])|apply gC_drawW|((first|apply gI_dec|apply gG_dec|apply gPG_dec|apply gI_var|apply gG_var|apply gPG_var)<;>intro _))
   all_goals try (exfalso;omega)
   exact weak_flat rfl h0 rfl
end
set_option maxHeartbeats 1000000
section
variable (w:World) (n:Nat)
theorem rcheck_p (x:Sti) (hk:x.kind<256):VSpec (EN w (n+1)) 199 [stiV x] (.sc (.int .i64 (if stiOK x=true then 0 else 8))) ⟨[],0,0⟩:=by
 have go:∀ e:Int,(StiP x∧e=0)∨(¬ StiP x∧e=8)→VSpec (EN w (n+1)) 199 [stiV x] (.sc (.int .i64 e)) ⟨[],0,0⟩:=by
  obtain ⟨k,p,a,b⟩:=x
  unfold StiP
  simp only at hk ⊢
  rcases (by omega:k=1∨k=2∨k=3∨k=4∨k=5∨k=6∨k=7∨k=8∨k=9∨k=10∨k=0∨10<k) with rfl|rfl|rfl|rfl|rfl|rfl|rfl|rfl|rfl|rfl|rfl|h10
  all_goals
   rintro e (⟨he,rfl⟩|⟨he,rfl⟩)
  all_goals
   cases p
  all_goals
   simp (config:={decide:=true}) only[reduceCtorEq,false_and,and_false,false_or,or_false,true_or,or_true,true_and,and_true,not_true_eq_false,not_false_eq_true] at he
  all_goals
   refine vspec_flat rfl rfl (fun _ _=>rfl) (Nat.le_of_ble_eq_true rfl) (oldVals w) rfl fun C hC h0=>?_
   repeat' (first|(simp (disch:=try exact z0z) only[WA,slotsL,opdsA,Nat.reduceEqDiff,Nat.reduceLT,Nat.reduceAdd,Nat.reduceBEq,Int.reduceAdd,Int.reduceSub,Int.reduceLT,Int.reduceLE,Int.reduceEq,Int.reduceNeg,↓reduceIte,reduceCtorEq,List.replicate,c199])|apply gC_drawW|((first|apply gI_dec|apply gG_dec|apply gPG_dec|apply gI_var|apply gG_var|apply gPG_var)<;>intro _))
  all_goals try (exfalso;omega)
  all_goals exact weak_flat rfl h0 rfl
 refine go _ ?_
 by_cases h:StiP x
 ·exact .inl ⟨h,by rw[if_pos (stiOK_iff.2 h)]⟩
 ·exact .inr ⟨h,by rw[if_neg fun hh=>h (stiOK_iff.1 hh)]⟩
theorem rused_p (x:Sti) (hx:StiP x):VSpec (EN w (n+1)) 200 [stiV x] (.sc (.int .i64 (usedS x))) ⟨[],0,0⟩∧VSpec (EN w (n+1)) 201 [stiV x] (.sc (.int .i64 (madeS x))) ⟨[],0,0⟩:=by
 have hb:=hx.bounds
 obtain ⟨k,p,a,b⟩:=x
 simp only at hb
 clear hx
 constructor
 all_goals
  rcases (by omega:k=1∨k=2∨k=3∨k=4∨k=5∨k=6∨k=7∨k=8∨k=9∨k=10) with rfl|rfl|rfl|rfl|rfl|rfl|rfl|rfl|rfl|rfl
  all_goals
   refine vspec_flat rfl rfl (fun _ _=>rfl) (Nat.le_of_ble_eq_true rfl) (oldVals w) rfl fun C hC h0=>?_
   repeat' (first|(simp (disch:=try exact z0z) only[WA,slotsL,opdsA,Nat.reduceEqDiff,Nat.reduceLT,Nat.reduceAdd,Nat.reduceBEq,Int.reduceAdd,Int.reduceSub,Int.reduceLT,Int.reduceLE,Int.reduceEq,Int.reduceNeg,↓reduceIte,reduceCtorEq,List.replicate,c200,c201])|apply gC_drawW|((first|apply gI_dec|apply gG_dec|apply gPG_dec|apply gI_var|apply gG_var|apply gPG_var)<;>intro _))
   exact weak_flat rfl h0 rfl
theorem rsums_p (s:Nat) (L:List Sti) (hL:L.length≤200) (hok:L.all stiOK=true):VSpec (EN w (n+2)) 165 [.sl s L.length (stiD L)] (.tup [.sc (.int .i64 (sumS usedS L)),.sc (.int .i64 (sumS madeS L))]) ⟨[],0,0⟩:=by
 refine vspec_flat rfl rfl (fun _ _=>rfl) (Nat.le_of_ble_eq_true rfl) (oldVals w) rfl fun C hC h0=>?_
 have hrn:C.E.rounds=many:=by rw[hC,callP_rounds]
 have hil:=stiD_len L
 repeat' (first|(simp (disch:=try exact z0z) only[WA,slotsL,opdsA,Nat.reduceEqDiff,Nat.reduceLT,Nat.reduceAdd,Nat.reduceBEq,Int.reduceAdd,Int.reduceSub,Int.reduceLT,Int.reduceLE,Int.reduceEq,Int.reduceNeg,↓reduceIte,reduceCtorEq,List.replicate,c165])|apply gC_drawW|((first|apply gI_dec|apply gG_dec|apply gPG_dec|apply gI_var|apply gG_var|apply gPG_var)<;>intro _))
 all_goals try (exfalso;omega)
 refine g_while (fun m fr st=>∃ (k:Nat),m=L.length - k∧k≤L.length∧fr= [(0,.sl s L.length (stiD L)),(4,.sc (.int .i64 (sumS usedS (L.take k)))),(5,.sc (.int .i64 (sumS madeS (L.take k)))),(6,.sc (.int .i64 k))]∧st=⟨[],0,0⟩) L.length ?_ ⟨_,_,.refl _ _,0,by omega,Nat.zero_le _,rfl,rfl⟩ ?_
 ·rw[hrn];unfold many;omega
 rintro m fr st ⟨k,rfl,hk,rfl,rfl⟩
 by_cases hlt:k<L.length
 case neg=>
  have:k=L.length:=by omega
  subst this
  rw[List.take_length]
  repeat' (first|(simp (disch:=try exact z0z) only[WA,slotsL,opdsA,Nat.reduceEqDiff,Nat.reduceLT,Nat.reduceAdd,Nat.reduceBEq,Int.reduceAdd,Int.reduceSub,Int.reduceLT,Int.reduceLE,Int.reduceEq,Int.reduceNeg,↓reduceIte,reduceCtorEq,List.replicate,c165l0])|apply gC_drawW|((first|apply gI_dec|apply gG_dec|apply gPG_dec|apply gI_var|apply gG_var|apply gPG_var)<;>intro _))
  all_goals try (exfalso;omega)
  exact weak_flat rfl h0 rfl
 have hag:=stiD_agg L k hlt
 have u1:=sumS_take (f:=usedS) hlt
 have u2:=sumS_take (f:=madeS) hlt
 have htk:∀ x ∈ L.take k,StiP x:=fun x hx=>stiOK_iff.1 (List.all_eq_true.1 hok x (List.mem_of_mem_take hx))
 have b1:=sum_bound (f:=usedS) fun x hx=>(used_bound (htk x hx)).1
 have b2:=sum_bound (f:=madeS) fun x hx=>(used_bound (htk x hx)).2
 have hl2:(L.take k).length≤200:=by rw[List.length_take];omega
 have hx:StiP L[k]! :=stiOK_iff.1 (List.all_eq_true.1 hok _ (by rw[getElem!_pos _ k hlt];exact List.getElem_mem hlt))
 generalize L[k]! =X at*
 have c1:=used_bound hx
 obtain ⟨l1,l2⟩:=rused_p w n X hx
 generalize sumS usedS (L.take k)=U at*
 generalize sumS madeS (L.take k)=M at*
 generalize usedS X=uu at*
 generalize madeS X=mm at*
 obtain ⟨xk,xp,xa,xb⟩:=X
 repeat' (first|(simp (disch:=try exact z0z) only[WA,slotsL,opdsA,Nat.reduceEqDiff,Nat.reduceLT,Nat.reduceAdd,Nat.reduceBEq,Int.reduceAdd,Int.reduceSub,Int.reduceLT,Int.reduceLE,Int.reduceEq,Int.reduceNeg,↓reduceIte,reduceCtorEq,List.replicate,c165l0,hag])|apply gC_drawW|((first|apply gI_dec|apply gG_dec|apply gPG_dec|apply gI_var|apply gG_var|apply gPG_var)<;>intro _))
 all_goals try (exfalso;omega)
 refine callV_flat (by rw[hC];exact l1.flat rfl rfl) ?_
 repeat' (first|(simp (disch:=try exact z0z) only[WA,slotsL,opdsA,Nat.reduceEqDiff,Nat.reduceLT,Nat.reduceAdd,Nat.reduceBEq,Int.reduceAdd,Int.reduceSub,Int.reduceLT,Int.reduceLE,Int.reduceEq,Int.reduceNeg,↓reduceIte,reduceCtorEq,List.replicate,hag])|apply gC_drawW|((first|apply gI_dec|apply gG_dec|apply gPG_dec|apply gI_var|apply gG_var|apply gPG_var)<;>intro _))
 refine callV_flat (by rw[hC];exact l2.flat rfl rfl) ?_
 repeat' (first|(simp (disch:=try exact z0z) only[WA,slotsL,opdsA,Nat.reduceEqDiff,Nat.reduceLT,Nat.reduceAdd,Nat.reduceBEq,Int.reduceAdd,Int.reduceSub,Int.reduceLT,Int.reduceLE,Int.reduceEq,Int.reduceNeg,↓reduceIte,reduceCtorEq,List.replicate])|apply gC_drawW|((first|apply gI_dec|apply gG_dec|apply gPG_dec|apply gI_var|apply gG_var|apply gPG_var)<;>intro _))
 all_goals try (exfalso;omega)
 refine ⟨L.length - (k+1),_,_,by omega,.refl _ _,k+1,rfl,by omega,?_,rfl⟩
 rw[u1,u2]
 rfl
theorem rall_p (s:Nat) (L:List Sti) (hL:L.length≤140737488351232) (hK:KOK L):VSpec (EN w (n+3)) 164 [.sl s L.length (stiD L)] (.sc (.int .i64 (allF L))) ⟨[],0,0⟩:=by
 refine vspec_flat rfl rfl (fun _ _=>rfl) (Nat.le_of_ble_eq_true rfl) (oldVals w) rfl fun C hC h0=>?_
 have hrn:C.E.rounds=many:=by rw[hC,callP_rounds]
 have hil:=stiD_len L
 unfold allF
 by_cases h2:200<L.length
 ·rw[if_pos h2]
  repeat' (first|(simp (disch:=try exact z0z) only[WA,slotsL,opdsA,Nat.reduceEqDiff,Nat.reduceLT,Nat.reduceAdd,Nat.reduceBEq,Int.reduceAdd,Int.reduceSub,Int.reduceLT,Int.reduceLE,Int.reduceEq,Int.reduceNeg,↓reduceIte,reduceCtorEq,List.replicate,c164])|apply gC_drawW|((first|apply gI_dec|apply gG_dec|apply gPG_dec|apply gI_var|apply gG_var|apply gPG_var)<;>intro _))
  all_goals try (exfalso;omega)
  exact weak_flat rfl h0 rfl
 rw[if_neg h2]
 repeat' (first|(simp (disch:=try exact z0z) only[WA,slotsL,opdsA,Nat.reduceEqDiff,Nat.reduceLT,Nat.reduceAdd,Nat.reduceBEq,Int.reduceAdd,Int.reduceSub,Int.reduceLT,Int.reduceLE,Int.reduceEq,Int.reduceNeg,↓reduceIte,reduceCtorEq,List.replicate,c164])|apply gC_drawW|((first|apply gI_dec|apply gG_dec|apply gPG_dec|apply gI_var|apply gG_var|apply gPG_var)<;>intro _))
 all_goals try (exfalso;omega)
 refine g_while (fun m fr st=>∃ (k:Nat),m=L.length - k∧k≤L.length∧(L.take k).all stiOK=true∧fr= [(0,.sl s L.length (stiD L)),(3,.sc (.int .i64 k))]∧st=⟨[],0,0⟩) L.length ?_ ⟨_,_,.refl _ _,0,by omega,Nat.zero_le _,rfl,rfl,rfl⟩ ?_
 ·rw[hrn];unfold many;omega
 rintro m fr st ⟨k,rfl,hk,hall,rfl,rfl⟩
 by_cases hlt:k<L.length
 ·have hag:=stiD_agg L k hlt
  have hc:=rcheck_p w (n+1) L[k]! (hK.at hlt)
  cases hx:stiOK L[k]! with
  |true=>
   have hst:=stis_take hlt hall hx
   rw[hx,if_pos rfl] at hc
   generalize L[k]! =X at*
   obtain ⟨xk,xp,xa,xb⟩:=X
   repeat' (first|(simp (disch:=try exact z0z) only[WA,slotsL,opdsA,Nat.reduceEqDiff,Nat.reduceLT,Nat.reduceAdd,Nat.reduceBEq,Int.reduceAdd,Int.reduceSub,Int.reduceLT,Int.reduceLE,Int.reduceEq,Int.reduceNeg,↓reduceIte,reduceCtorEq,List.replicate,c164l0,hag])|apply gC_drawW|((first|apply gI_dec|apply gG_dec|apply gPG_dec|apply gI_var|apply gG_var|apply gPG_var)<;>intro _))
   all_goals try (exfalso;omega)
   refine callV_flat (by rw[hC];exact hc.flat rfl rfl) ?_
   repeat' (first|(simp (disch:=try exact z0z) only[WA,slotsL,opdsA,Nat.reduceEqDiff,Nat.reduceLT,Nat.reduceAdd,Nat.reduceBEq,Int.reduceAdd,Int.reduceSub,Int.reduceLT,Int.reduceLE,Int.reduceEq,Int.reduceNeg,↓reduceIte,reduceCtorEq,List.replicate])|apply gC_drawW|((first|apply gI_dec|apply gG_dec|apply gPG_dec|apply gI_var|apply gG_var|apply gPG_var)<;>intro _))
   exact ⟨L.length - (k+1),_,_,by omega,.refl _ _,k+1,rfl,by omega,hst,rfl,rfl⟩
  |false=>
   rw[if_neg (stis_bad hlt hx)]
   rw[hx,if_neg (by decide)] at hc
   generalize L[k]! =X at*
   obtain ⟨xk,xp,xa,xb⟩:=X
   repeat' (first|(simp (disch:=try exact z0z) only[WA,slotsL,opdsA,Nat.reduceEqDiff,Nat.reduceLT,Nat.reduceAdd,Nat.reduceBEq,Int.reduceAdd,Int.reduceSub,Int.reduceLT,Int.reduceLE,Int.reduceEq,Int.reduceNeg,↓reduceIte,reduceCtorEq,List.replicate,c164l0,hag])|apply gC_drawW|((first|apply gI_dec|apply gG_dec|apply gPG_dec|apply gI_var|apply gG_var|apply gPG_var)<;>intro _))
   all_goals try (exfalso;omega)
   refine callV_flat (by rw[hC];exact hc.flat rfl rfl) ?_
   repeat' (first|(simp (disch:=try exact z0z) only[WA,slotsL,opdsA,Nat.reduceEqDiff,Nat.reduceLT,Nat.reduceAdd,Nat.reduceBEq,Int.reduceAdd,Int.reduceSub,Int.reduceLT,Int.reduceLE,Int.reduceEq,Int.reduceNeg,↓reduceIte,reduceCtorEq,List.replicate])|apply gC_drawW|((first|apply gI_dec|apply gG_dec|apply gPG_dec|apply gI_var|apply gG_var|apply gPG_var)<;>intro _))
   exact weak_flat rfl h0 rfl
 ·have:k=L.length:=by omega
  subst this
  rw[List.take_length] at hall
  rw[if_pos hall]
  have hs:=rsums_p w n s L (by omega) hall
  generalize sumS usedS L=U at*
  generalize sumS madeS L=M at*
  by_cases hm:200<U∨200<M
  ·rw[if_pos hm]
   repeat' (first|(simp (disch:=try exact z0z) only[WA,slotsL,opdsA,Nat.reduceEqDiff,Nat.reduceLT,Nat.reduceAdd,Nat.reduceBEq,Int.reduceAdd,Int.reduceSub,Int.reduceLT,Int.reduceLE,Int.reduceEq,Int.reduceNeg,↓reduceIte,reduceCtorEq,List.replicate,c164l0])|apply gC_drawW|((first|apply gI_dec|apply gG_dec|apply gPG_dec|apply gI_var|apply gG_var|apply gPG_var)<;>intro _))
   all_goals try (exfalso;omega)
   refine callV_flat (by rw[hC];exact hs.flat rfl rfl) ?_
   repeat' (first|(simp (disch:=try exact z0z) only[WA,slotsL,opdsA,Nat.reduceEqDiff,Nat.reduceLT,Nat.reduceAdd,Nat.reduceBEq,Int.reduceAdd,Int.reduceSub,Int.reduceLT,Int.reduceLE,Int.reduceEq,Int.reduceNeg,↓reduceIte,reduceCtorEq,List.replicate])|apply gC_drawW|((first|apply gI_dec|apply gG_dec|apply gPG_dec|apply gI_var|apply gG_var|apply gPG_var)<;>intro _))
   all_goals try (exfalso;omega)
   all_goals exact weak_flat rfl h0 rfl
  ·rw[if_neg hm]
   repeat' (first|(simp (disch:=try exact z0z) only[WA,slotsL,opdsA,Nat.reduceEqDiff,Nat.reduceLT,Nat.reduceAdd,Nat.reduceBEq,Int.reduceAdd,Int.reduceSub,Int.reduceLT,Int.reduceLE,Int.reduceEq,Int.reduceNeg,↓reduceIte,reduceCtorEq,List.replicate,c164l0])|apply gC_drawW|((first|apply gI_dec|apply gG_dec|apply gPG_dec|apply gI_var|apply gG_var|apply gPG_var)<;>intro _))
   all_goals try (exfalso;omega)
   refine callV_flat (by rw[hC];exact hs.flat rfl rfl) ?_
   repeat' (first|(simp (disch:=try exact z0z) only[WA,slotsL,opdsA,Nat.reduceEqDiff,Nat.reduceLT,Nat.reduceAdd,Nat.reduceBEq,Int.reduceAdd,Int.reduceSub,Int.reduceLT,Int.reduceLE,Int.reduceEq,Int.reduceNeg,↓reduceIte,reduceCtorEq,List.replicate])|apply gC_drawW|((first|apply gI_dec|apply gG_dec|apply gPG_dec|apply gI_var|apply gG_var|apply gPG_var)<;>intro _))
   all_goals try (exfalso;omega)
   all_goals exact weak_flat rfl h0 rfl
def greatB (l:Nat):Bool:=decide (60<l∧l≤200∨300<l)
end
end Go.Proofs.YtgohenjcanfolaaGreatDoor
namespace Go.Itp
set_option linter.unusedVariables false
set_option linter.unusedSimpArgs false
structure Ins where
 op:Nat
 right:Bool
 bed:Nat
 pos:Int
 to:Int
 car:Int
 rack:Int
theorem Ins.ext' {i j:Ins} (h1:i.op=j.op) (h2:i.right=j.right) (h3:i.bed=j.bed) (h4:i.pos=j.pos) (h5:i.to=j.to) (h6:i.car=j.car) (h7:i.rack=j.rack):i=j:=by
 cases i;cases j;simp_all
def ins0:Ins:=⟨0,false,0,0,0,0,0⟩
def insC (i:Ins):List Value:= [.int .u8 i.op,.bool i.right,.int .u8 i.bed,.int .i64 i.pos,.int .i64 i.to,.int .i64 i.car,.int .i64 i.rack]
def insV (i:Ins):V:= .agg [.sc (.int .u8 i.op),.sc (.bool i.right),.sc (.int .u8 i.bed),.sc (.int .i64 i.pos),.sc (.int .i64 i.to),.sc (.int .i64 i.car),.sc (.int .i64 i.rack)]
abbrev ndOK (z:Int):Prop:= -100≤z∧z≤100
def InsP (i:Ins):Prop:=
 (i.op=1∨i.op=2)∧(1≤i.car∧i.car≤6)∧i.right=false∧i.bed=0∧i.pos=0∧i.to=0∧i.rack=0∨
 (i.op=3∨i.op=4∨i.op=5)∧(1≤i.car∧i.car≤6)∧i.bed≤1∧ndOK i.pos∧i.to=0∧i.rack=0∨
 i.op=6∧(1≤i.car∧i.car≤6)∧i.bed≤1∧ndOK i.pos∧ndOK i.to∧i.rack=0∨
 i.op=7∧i.right=false∧i.car=0∧i.rack=0∧i.bed≤1∧ndOK i.pos∧ndOK i.to∨
 i.op=8∧i.right=false∧i.bed=0∧i.pos=0∧i.to=0∧i.car=0∧ -8≤i.rack∧i.rack≤8∨
 i.op=9∧i.right=false∧i.to=0∧i.car=0∧i.rack=0∧i.bed≤1∧ndOK i.pos
open Classical in
noncomputable def insOK (i:Ins):Bool:=decide (InsP i)
def nameI:Nat→List UInt8
 |1=> [105,110]
 |2=> [111,117,116]
 |3=> [107,110,105,116]
 |4=> [116,117,99,107]
 |5=> [109,105,115,115]
 |6=> [115,112,108,105,116]
 |7=> [120,102,101,114]
 |8=> [114,97,99,107]
 |9=> [100,114,111,112]
 |_=> []
def partsI:Nat→List UInt8
 |1=> [99]
 |2=> [99]
 |3=> [100,110,99]
 |4=> [100,110,99]
 |5=> [100,110,99]
 |6=> [100,110,111,99]
 |7=> [110,111]
 |8=> [114]
 |9=> [110]
 |_=> []
def ndl (b:Nat) (z:Int):List UInt8:=(if b=1 then 98 else 102)::Lib.itoa z
def partT (i:Ins) (c:UInt8):List UInt8:=
 if c=100 then (if i.right=true then [43] else [45]) else if c=110 then ndl i.bed i.pos else if c=111 then ndl (1 - i.bed) i.to else if c=99 then Lib.itoa i.car else Lib.itoa i.rack
def textI (i:Ins):List UInt8:=join 32 (nameI i.op::(partsI i.op).map (partT i))
end Go.Itp
namespace Go.Itp
set_option linter.unusedVariables false
set_option linter.unusedSimpArgs false
open Classical in
noncomputable def readO (s:List UInt8):Option Ins:=if h:∃ i,InsP i∧textI i=s then some (Classical.choose h) else none
theorem InsP.bounds {i:Ins} (h:InsP i):i.bed≤1∧ndOK i.pos∧ndOK i.to∧(0≤i.car∧i.car≤6)∧ -8≤i.rack∧i.rack≤8:=by
 unfold InsP ndOK at h
 unfold ndOK
 omega
end Go.Itp
namespace Go.Proofs.YtgohenjcanfolaaGreatDoor
open Go Go.Itp
set_option maxRecDepth 100000
set_option maxHeartbeats 2000000
set_option linter.unusedSimpArgs false
set_option linter.unusedVariables false
section
variable (w:World) (n:Nat)
end
end Go.Proofs.YtgohenjcanfolaaGreatDoor
namespace Go.Itp
def AC.l:AC→AC
 | .seq a _=>a
 |x=>x
def AC.r:AC→AC
 | .seq _ b=>b
 |x=>x
end Go.Itp
namespace Go.Proofs.YtgohenjcanfolaaGreatDoor
open Go Go.Itp
set_option maxRecDepth 100000
set_option maxHeartbeats 2000000
set_option linter.unusedSimpArgs false
set_option linter.unusedVariables false
section
variable (w:World) (n:Nat)
end
end Go.Proofs.YtgohenjcanfolaaGreatDoor
namespace Go.Proofs.YtgohenjcanfolaaGreatDoor
open Go Go.Itp
set_option maxRecDepth 100000
set_option maxHeartbeats 20000000
set_option linter.unusedSimpArgs false
set_option linter.unusedVariables false
section
variable (w:World) (n:Nat)
end
set_option maxHeartbeats 1000000
instance:Inhabited Ins:=⟨ins0⟩
def insD (L:List Ins):List D:=L.flatMap fun a=>(insC a).map D.sc
theorem insD_len (L:List Ins):(insD L).length=L.length*7:=by
 induction L with
 |nil=>rfl
 |cons p L ih=>
  have e:insD (p::L)=(insC p).map D.sc++insD L:=by simp[insD]
  rw[e,List.length_append,ih];simp[insC];omega
theorem insD_agg (L:List Ins) (k:Nat) (hk:k<L.length):dload (insD L) (k*7) (some 7)=some (insV L[k]!):=by
 have:=dload_flat (fun p:Ins=>(insC p).map D.sc) 7 L (fun _=>rfl) (by decide) k hk
 unfold insD
 rw[this]
 rfl
theorem insD_snoc (acc:List Ins) (i:Ins):insD (acc++ [i])=insD acc++ [.sc (.int .u8 i.op),.sc (.bool i.right),.sc (.int .u8 i.bed),.sc (.int .i64 i.pos),.sc (.int .i64 i.to),.sc (.int .i64 i.car),.sc (.int .i64 i.rack)]:=by
 simp[insD,insC]
theorem row1V_ins (nx t:Nat) (a b c d e f g:Value):mkRowV nx t 7 1 [.int .u8 0,.bool false,.int .u8 0,.int .i64 0,.int .i64 0,.int .i64 0,.int .i64 0] [(0,7,.agg [.sc a,.sc b,.sc c,.sc d,.sc e,.sc f,.sc g])]=some (.ref nx 0 1 1,some (.row t 7 false false [.sc a,.sc b,.sc c,.sc d,.sc e,.sc f,.sc g]),[]):=rfl
theorem snap_gr7 {H:VHp} {o t n:Nat} {z:Bool} {l:List D} (h:aget H o=some (.gro t 7 z l)) (hl:l.length=n*7):snapV H (.gr 2 o n)=some (.sl 2 n l):=by
 simp only[snapV,toD,h]
 rw[if_pos ⟨hl,by decide,by decide,by decide⟩]
 rfl
theorem insD_app (L M:List Ins):insD (L++M)=insD L++insD M:=by simp[insD]
instance:DecidableEq Ins:=fun x y=>decidable_of_iff (x.op=y.op∧x.right=y.right∧x.bed=y.bed∧x.pos=y.pos∧x.to=y.to∧x.car=y.car∧x.rack=y.rack) ⟨fun ⟨h1,h2,h3,h4,h5,h6,h7⟩=>Ins.ext' h1 h2 h3 h4 h5 h6 h7,fun h=>by subst h;exact ⟨rfl,rfl,rfl,rfl,rfl,rfl,rfl⟩⟩
abbrev iN (z:Int):V:= .sc (.int .i64 z)
abbrev jS (s:Nat) (L:List Ins):V:= .sl s L.length (insD L)
theorem eqJ_of_all {a l:List Ins} (h:a.length=l.length) (ha:∀ j,j<l.length→a[j]! =l[j]!):a=l:=by
 refine List.ext_getElem h fun i h1 h2=>?_
 have:=ha i h2
 rwa [getElem!_pos a i h1,getElem!_pos l i h2] at this
def cmn:List Ins→List Ins→Nat
 |a::A,b::B=>if a=b then cmn A B+1 else 0
 |_,_=>0
section
variable (w:World) (n:Nat)
end
end Go.Proofs.YtgohenjcanfolaaGreatDoor
namespace Go.Proofs.YtgohenjcanfolaaGreatDoor
open Go Go.Itp
set_option maxRecDepth 100000
set_option maxHeartbeats 1000000
set_option linter.unusedSimpArgs false
set_option linter.unusedVariables false
def backF (A:List Ins):Nat→Nat
 |0=>0
 |n+1=>if A[n]! =A[n+1]! then backF A n else n+1
def lackF (A B:List Ins):Option Nat:=if A.length=B.length+1∧A.drop (cmn A B+1)=B.drop (cmn A B) then some (backF A (cmn A B)) else none
section
variable (w:World) (n:Nat)
end
section
variable (w:World) (n:Nat)
end
section
variable (w:World) (n:Nat)
end
theorem insD_ok (L:List Ins):okL (insD L)=true:=by
 simp only[okL,List.all_eq_true]
 intro d hd
 simp only[insD,List.mem_flatMap,List.mem_map] at hd
 obtain ⟨a,_,c,hc,rfl⟩:=hd
 simp[insC] at hc
 rcases hc with rfl|rfl|rfl|rfl|rfl|rfl|rfl<;>rfl
theorem fin1 {C:Ctx} {st:VSt} {v:V} {s n:Nat} {l:List D} (hs:snapV st.own v=some (.sl s n l)) (hrow:rowsB st.ro st.own (fzS v)=true) (hk:s ≠ 1∨n ≠ 0) (h0:C.w0.nx=0) (hro:st.ro=0):Weak C [(0,v)] st [(0,.sl 3 n l)] ⟨[],0,0⟩:=by
 refine (weak_snap (t:=0) (v:=v) rfl hs hrow).trans ?_
 exact (weak_slot (t:=0) (v:= .sl s n l) (v':= .sl 3 n l) rfl (same_sl3 hk)).trans (weak_to [] 0 h0 hro rfl rfl rfl)
theorem retOK_sl3 {n:Nat} {l:List D}:RetOK [] (.sl 3 n l):=retOK_nil (by simp only[Cl];rfl)
section
variable (w:World) (n:Nat)
end
set_option maxHeartbeats 2000000
def locT (P D:List Ins) (N:Nat) (K1 K2:Option Nat):Nat × Int × Int:=
 if P=D then (0,0,0) else if N=D.length then (1,N,0) else match K1 with
 |some k=>(2,k,0)
 |none=>match K2 with
  |some k=>(3,k,0)
  |none=>if P.length=D.length∧P.drop (N+1)=D.drop (N+1) then (4,N,0) else (5,N,0)
noncomputable def locF (P D:List Ins):Nat × Int × Int:=
 if 2000<P.length∨2000<D.length then (0,0,4) else if ¬ ((P++D).all insOK=true) then (0,0,8) else locT P D (cmn P D) (lackF P D) (lackF D P)
section
variable (w:World) (n:Nat)
variable {st:VSt} {a b c t e t' e' t2 e2:Nat} {P D:List Ins} {N:Nat}
end
section
variable (w:World) (n:Nat)
end
section
variable (w:World) (n:Nat)
end
set_option maxHeartbeats 1000000
def rowC (k:Nat) (r:Bool × List Sti):List D:= [.sc (.bool r.1),.sl k r.2.length (stiD r.2)]
def rowsD (k:Nat) (R:List (Bool × List Sti)):List D:=R.flatMap (rowC k)
theorem rowsD_len (k:Nat) (R:List (Bool × List Sti)):(rowsD k R).length=R.length*2:=by
 induction R with
 |nil=>rfl
 |cons r R ih=>
  have e:rowsD k (r::R)=rowC k r++rowsD k R:=by simp[rowsD]
  rw[e,List.length_append,ih]
  simp only[rowC,List.length_cons,List.length_nil]
  omega
theorem rowsD_agg (k:Nat) (R:List (Bool × List Sti)) (j:Nat) (hj:j<R.length):dload (rowsD k R) (j*2) (some 2)=some (.agg [.sc (.bool R[j]!.1),.sl k R[j]!.2.length (stiD R[j]!.2)]):=dload_flat (rowC k) 2 R (fun _=>rfl) (by decide) j hj
abbrev chartV (s k:Nat) (c:ChT):V:= .agg [.sc (.int .i64 c.1),.sl s c.2.length (rowsD k c.2)]
def KOKR (R:List (Bool × List Sti)):Prop:=∀ r ∈ R,KOK r.2∧r.2.length≤140737488351232
theorem rowsD_at0 (k:Nat) (R:List (Bool × List Sti)) (j:Nat) (hj:j<R.length):dload (rowsD k R) (j*2) none=some (.sc (.bool R[j]!.1)):=dload_flat1 (rowC k) 2 R (fun _=>rfl) j 0 hj (by decide)
theorem rowsD_at1 (k:Nat) (R:List (Bool × List Sti)) (j:Nat) (hj:j<R.length):dload (rowsD k R) (j*2+1) none=some (.sl k R[j]!.2.length (stiD R[j]!.2)):=dload_flat1 (rowC k) 2 R (fun _=>rfl) j 1 hj (by decide)
abbrev tS (s:Nat) (L:List Sti):V:= .sl s L.length (stiD L)
def usesF (L:List Sti):Int × Int:=if allF L=0 then (sumS usedS L,0) else (0,allF L)
def makesF (L:List Sti):Int × Int:=if allF L=0 then (sumS madeS L,0) else (0,allF L)
section
variable (w:World) (n:Nat)
theorem suses_p (s:Nat) (L:List Sti) (hL:L.length≤140737488351232) (hK:KOK L):VSpec (EN w (n+7)) 161 [tS s L] (.tup [iN (usesF L).1,iN (usesF L).2]) ⟨[],0,0⟩:=by
 have ha:=sall_p w n s L hL hK
 unfold usesF
 by_cases e:allF L=0
 ·rw[if_pos e]
  rw[e] at ha
  obtain ⟨l1,l2,_⟩:=allF_ok e
  have hs:=ssum_p w (n+4) s L l1 l2
  refine vspec_flat rfl rfl (fun _ _=>rfl) (Nat.le_of_ble_eq_true rfl) (oldVals w) rfl fun C hC h0=>?_
  repeat' (first|(simp (disch:=try exact z0z) only[WA,slotsL,opdsA,Nat.reduceEqDiff,Nat.reduceLT,Nat.reduceAdd,Nat.reduceBEq,Int.reduceAdd,Int.reduceSub,Int.reduceLT,Int.reduceLE,Int.reduceEq,Int.reduceNeg,↓reduceIte,reduceCtorEq,List.replicate,c161])|apply gC_drawW|((first|apply gI_dec|apply gG_dec|apply gPG_dec|apply gI_var|apply gG_var|apply gPG_var)<;>intro _))
  refine callV_flat (by rw[hC];exact ha.flat rfl rfl) ?_
  repeat' (first|(simp (disch:=try exact z0z) only[WA,slotsL,opdsA,Nat.reduceEqDiff,Nat.reduceLT,Nat.reduceAdd,Nat.reduceBEq,Int.reduceAdd,Int.reduceSub,Int.reduceLT,Int.reduceLE,Int.reduceEq,Int.reduceNeg,↓reduceIte,reduceCtorEq,List.replicate])|apply gC_drawW|((first|apply gI_dec|apply gG_dec|apply gPG_dec|apply gI_var|apply gG_var|apply gPG_var)<;>intro _))
  refine callV_flat (by rw[hC];exact hs.flat rfl rfl) ?_
  repeat' (first|(simp (disch:=try exact z0z) only[WA,slotsL,opdsA,Nat.reduceEqDiff,Nat.reduceLT,Nat.reduceAdd,Nat.reduceBEq,Int.reduceAdd,Int.reduceSub,Int.reduceLT,Int.reduceLE,Int.reduceEq,Int.reduceNeg,↓reduceIte,reduceCtorEq,List.replicate])|apply gC_drawW|((first|apply gI_dec|apply gG_dec|apply gPG_dec|apply gI_var|apply gG_var|apply gPG_var)<;>intro _))
  exact weak_flat rfl h0 rfl
 ·rw[if_neg e]
  generalize allF L=E at*
  refine vspec_flat rfl rfl (fun _ _=>rfl) (Nat.le_of_ble_eq_true rfl) (oldVals w) rfl fun C hC h0=>?_
  repeat' (first|(simp (disch:=try exact z0z) only[WA,slotsL,opdsA,Nat.reduceEqDiff,Nat.reduceLT,Nat.reduceAdd,Nat.reduceBEq,Int.reduceAdd,Int.reduceSub,Int.reduceLT,Int.reduceLE,Int.reduceEq,Int.reduceNeg,↓reduceIte,reduceCtorEq,List.replicate,c161])|apply gC_drawW|((first|apply gI_dec|apply gG_dec|apply gPG_dec|apply gI_var|apply gG_var|apply gPG_var)<;>intro _))
  refine callV_flat (by rw[hC];exact ha.flat rfl rfl) ?_
  repeat' (first|(simp (disch:=try exact z0z) only[WA,slotsL,opdsA,Nat.reduceEqDiff,Nat.reduceLT,Nat.reduceAdd,Nat.reduceBEq,Int.reduceAdd,Int.reduceSub,Int.reduceLT,Int.reduceLE,Int.reduceEq,Int.reduceNeg,↓reduceIte,reduceCtorEq,List.replicate,e])|apply gC_drawW|((first|apply gI_dec|apply gG_dec|apply gPG_dec|apply gI_var|apply gG_var|apply gPG_var)<;>intro _))
  exact weak_flat rfl h0 rfl
theorem smakes_p (s:Nat) (L:List Sti) (hL:L.length≤140737488351232) (hK:KOK L):VSpec (EN w (n+7)) 162 [tS s L] (.tup [iN (makesF L).1,iN (makesF L).2]) ⟨[],0,0⟩:=by
 have ha:=sall_p w n s L hL hK
 unfold makesF
 by_cases e:allF L=0
 ·rw[if_pos e]
  rw[e] at ha
  obtain ⟨l1,l2,_⟩:=allF_ok e
  have hs:=ssum_p w (n+4) s L l1 l2
  refine vspec_flat rfl rfl (fun _ _=>rfl) (Nat.le_of_ble_eq_true rfl) (oldVals w) rfl fun C hC h0=>?_
  repeat' (first|(simp (disch:=try exact z0z) only[WA,slotsL,opdsA,Nat.reduceEqDiff,Nat.reduceLT,Nat.reduceAdd,Nat.reduceBEq,Int.reduceAdd,Int.reduceSub,Int.reduceLT,Int.reduceLE,Int.reduceEq,Int.reduceNeg,↓reduceIte,reduceCtorEq,List.replicate,c162])|apply gC_drawW|((first|apply gI_dec|apply gG_dec|apply gPG_dec|apply gI_var|apply gG_var|apply gPG_var)<;>intro _))
  refine callV_flat (by rw[hC];exact ha.flat rfl rfl) ?_
  repeat' (first|(simp (disch:=try exact z0z) only[WA,slotsL,opdsA,Nat.reduceEqDiff,Nat.reduceLT,Nat.reduceAdd,Nat.reduceBEq,Int.reduceAdd,Int.reduceSub,Int.reduceLT,Int.reduceLE,Int.reduceEq,Int.reduceNeg,↓reduceIte,reduceCtorEq,List.replicate])|apply gC_drawW|((first|apply gI_dec|apply gG_dec|apply gPG_dec|apply gI_var|apply gG_var|apply gPG_var)<;>intro _))
  refine callV_flat (by rw[hC];exact hs.flat rfl rfl) ?_
  repeat' (first|(simp (disch:=try exact z0z) only[WA,slotsL,opdsA,Nat.reduceEqDiff,Nat.reduceLT,Nat.reduceAdd,Nat.reduceBEq,Int.reduceAdd,Int.reduceSub,Int.reduceLT,Int.reduceLE,Int.reduceEq,Int.reduceNeg,↓reduceIte,reduceCtorEq,List.replicate])|apply gC_drawW|((first|apply gI_dec|apply gG_dec|apply gPG_dec|apply gI_var|apply gG_var|apply gPG_var)<;>intro _))
  exact weak_flat rfl h0 rfl
 ·rw[if_neg e]
  generalize allF L=E at*
  refine vspec_flat rfl rfl (fun _ _=>rfl) (Nat.le_of_ble_eq_true rfl) (oldVals w) rfl fun C hC h0=>?_
  repeat' (first|(simp (disch:=try exact z0z) only[WA,slotsL,opdsA,Nat.reduceEqDiff,Nat.reduceLT,Nat.reduceAdd,Nat.reduceBEq,Int.reduceAdd,Int.reduceSub,Int.reduceLT,Int.reduceLE,Int.reduceEq,Int.reduceNeg,↓reduceIte,reduceCtorEq,List.replicate,c162])|apply gC_drawW|((first|apply gI_dec|apply gG_dec|apply gPG_dec|apply gI_var|apply gG_var|apply gPG_var)<;>intro _))
  refine callV_flat (by rw[hC];exact ha.flat rfl rfl) ?_
  repeat' (first|(simp (disch:=try exact z0z) only[WA,slotsL,opdsA,Nat.reduceEqDiff,Nat.reduceLT,Nat.reduceAdd,Nat.reduceBEq,Int.reduceAdd,Int.reduceSub,Int.reduceLT,Int.reduceLE,Int.reduceEq,Int.reduceNeg,↓reduceIte,reduceCtorEq,List.replicate,e])|apply gC_drawW|((first|apply gI_dec|apply gG_dec|apply gPG_dec|apply gI_var|apply gG_var|apply gPG_var)<;>intro _))
  exact weak_flat rfl h0 rfl
theorem ruses_p (s:Nat) (L:List Sti) (hL:L.length≤140737488351232) (hK:KOK L):VSpec (EN w (n+4)) 125 [tS s L] (.tup [iN (usesF L).1,iN (usesF L).2]) ⟨[],0,0⟩:=by
 have ha:=rall_p w n s L hL hK
 unfold usesF
 by_cases e:allF L=0
 ·rw[if_pos e]
  rw[e] at ha
  obtain ⟨l1,l2,_⟩:=allF_ok e
  have hs:=rsums_p w (n+1) s L l1 l2
  refine vspec_flat rfl rfl (fun _ _=>rfl) (Nat.le_of_ble_eq_true rfl) (oldVals w) rfl fun C hC h0=>?_
  repeat' (first|(simp (disch:=try exact z0z) only[WA,slotsL,opdsA,Nat.reduceEqDiff,Nat.reduceLT,Nat.reduceAdd,Nat.reduceBEq,Int.reduceAdd,Int.reduceSub,Int.reduceLT,Int.reduceLE,Int.reduceEq,Int.reduceNeg,↓reduceIte,reduceCtorEq,List.replicate,c125])|apply gC_drawW|((first|apply gI_dec|apply gG_dec|apply gPG_dec|apply gI_var|apply gG_var|apply gPG_var)<;>intro _))
  refine callV_flat (by rw[hC];exact ha.flat rfl rfl) ?_
  repeat' (first|(simp (disch:=try exact z0z) only[WA,slotsL,opdsA,Nat.reduceEqDiff,Nat.reduceLT,Nat.reduceAdd,Nat.reduceBEq,Int.reduceAdd,Int.reduceSub,Int.reduceLT,Int.reduceLE,Int.reduceEq,Int.reduceNeg,↓reduceIte,reduceCtorEq,List.replicate])|apply gC_drawW|((first|apply gI_dec|apply gG_dec|apply gPG_dec|apply gI_var|apply gG_var|apply gPG_var)<;>intro _))
  refine callV_flat (by rw[hC];exact hs.flat rfl rfl) ?_
  repeat' (first|(simp (disch:=try exact z0z) only[WA,slotsL,opdsA,Nat.reduceEqDiff,Nat.reduceLT,Nat.reduceAdd,Nat.reduceBEq,Int.reduceAdd,Int.reduceSub,Int.reduceLT,Int.reduceLE,Int.reduceEq,Int.reduceNeg,↓reduceIte,reduceCtorEq,List.replicate])|apply gC_drawW|((first|apply gI_dec|apply gG_dec|apply gPG_dec|apply gI_var|apply gG_var|apply gPG_var)<;>intro _))
  exact weak_flat rfl h0 rfl
 ·rw[if_neg e]
  generalize allF L=E at*
  refine vspec_flat rfl rfl (fun _ _=>rfl) (Nat.le_of_ble_eq_true rfl) (oldVals w) rfl fun C hC h0=>?_
  repeat' (first|(simp (disch:=try exact z0z) only[WA,slotsL,opdsA,Nat.reduceEqDiff,Nat.reduceLT,Nat.reduceAdd,Nat.reduceBEq,Int.reduceAdd,Int.reduceSub,Int.reduceLT,Int.reduceLE,Int.reduceEq,Int.reduceNeg,↓reduceIte,reduceCtorEq,List.replicate,c125])|apply gC_drawW|((first|apply gI_dec|apply gG_dec|apply gPG_dec|apply gI_var|apply gG_var|apply gPG_var)<;>intro _))
  refine callV_flat (by rw[hC];exact ha.flat rfl rfl) ?_
  repeat' (first|(simp (disch:=try exact z0z) only[WA,slotsL,opdsA,Nat.reduceEqDiff,Nat.reduceLT,Nat.reduceAdd,Nat.reduceBEq,Int.reduceAdd,Int.reduceSub,Int.reduceLT,Int.reduceLE,Int.reduceEq,Int.reduceNeg,↓reduceIte,reduceCtorEq,List.replicate,e])|apply gC_drawW|((first|apply gI_dec|apply gG_dec|apply gPG_dec|apply gI_var|apply gG_var|apply gPG_var)<;>intro _))
  refine callV_flat (by rw[hC];exact ha.flat rfl rfl) ?_
  repeat' (first|(simp (disch:=try exact z0z) only[WA,slotsL,opdsA,Nat.reduceEqDiff,Nat.reduceLT,Nat.reduceAdd,Nat.reduceBEq,Int.reduceAdd,Int.reduceSub,Int.reduceLT,Int.reduceLE,Int.reduceEq,Int.reduceNeg,↓reduceIte,reduceCtorEq,List.replicate])|apply gC_drawW|((first|apply gI_dec|apply gG_dec|apply gPG_dec|apply gI_var|apply gG_var|apply gPG_var)<;>intro _))
  exact weak_flat rfl h0 rfl
theorem rmakes_p (s:Nat) (L:List Sti) (hL:L.length≤140737488351232) (hK:KOK L):VSpec (EN w (n+4)) 126 [tS s L] (.tup [iN (makesF L).1,iN (makesF L).2]) ⟨[],0,0⟩:=by
 have ha:=rall_p w n s L hL hK
 unfold makesF
 by_cases e:allF L=0
 ·rw[if_pos e]
  rw[e] at ha
  obtain ⟨l1,l2,_⟩:=allF_ok e
  have hs:=rsums_p w (n+1) s L l1 l2
  refine vspec_flat rfl rfl (fun _ _=>rfl) (Nat.le_of_ble_eq_true rfl) (oldVals w) rfl fun C hC h0=>?_
  repeat' (first|(simp (disch:=try exact z0z) only[WA,slotsL,opdsA,Nat.reduceEqDiff,Nat.reduceLT,Nat.reduceAdd,Nat.reduceBEq,Int.reduceAdd,Int.reduceSub,Int.reduceLT,Int.reduceLE,Int.reduceEq,Int.reduceNeg,↓reduceIte,reduceCtorEq,List.replicate,c126])|apply gC_drawW|((first|apply gI_dec|apply gG_dec|apply gPG_dec|apply gI_var|apply gG_var|apply gPG_var)<;>intro _))
  refine callV_flat (by rw[hC];exact ha.flat rfl rfl) ?_
  repeat' (first|(simp (disch:=try exact z0z) only[WA,slotsL,opdsA,Nat.reduceEqDiff,Nat.reduceLT,Nat.reduceAdd,Nat.reduceBEq,Int.reduceAdd,Int.reduceSub,Int.reduceLT,Int.reduceLE,Int.reduceEq,Int.reduceNeg,↓reduceIte,reduceCtorEq,List.replicate])|apply gC_drawW|((first|apply gI_dec|apply gG_dec|apply gPG_dec|apply gI_var|apply gG_var|apply gPG_var)<;>intro _))
  refine callV_flat (by rw[hC];exact hs.flat rfl rfl) ?_
  repeat' (first|(simp (disch:=try exact z0z) only[WA,slotsL,opdsA,Nat.reduceEqDiff,Nat.reduceLT,Nat.reduceAdd,Nat.reduceBEq,Int.reduceAdd,Int.reduceSub,Int.reduceLT,Int.reduceLE,Int.reduceEq,Int.reduceNeg,↓reduceIte,reduceCtorEq,List.replicate])|apply gC_drawW|((first|apply gI_dec|apply gG_dec|apply gPG_dec|apply gI_var|apply gG_var|apply gPG_var)<;>intro _))
  exact weak_flat rfl h0 rfl
 ·rw[if_neg e]
  generalize allF L=E at*
  refine vspec_flat rfl rfl (fun _ _=>rfl) (Nat.le_of_ble_eq_true rfl) (oldVals w) rfl fun C hC h0=>?_
  repeat' (first|(simp (disch:=try exact z0z) only[WA,slotsL,opdsA,Nat.reduceEqDiff,Nat.reduceLT,Nat.reduceAdd,Nat.reduceBEq,Int.reduceAdd,Int.reduceSub,Int.reduceLT,Int.reduceLE,Int.reduceEq,Int.reduceNeg,↓reduceIte,reduceCtorEq,List.replicate,c126])|apply gC_drawW|((first|apply gI_dec|apply gG_dec|apply gPG_dec|apply gI_var|apply gG_var|apply gPG_var)<;>intro _))
  refine callV_flat (by rw[hC];exact ha.flat rfl rfl) ?_
  repeat' (first|(simp (disch:=try exact z0z) only[WA,slotsL,opdsA,Nat.reduceEqDiff,Nat.reduceLT,Nat.reduceAdd,Nat.reduceBEq,Int.reduceAdd,Int.reduceSub,Int.reduceLT,Int.reduceLE,Int.reduceEq,Int.reduceNeg,↓reduceIte,reduceCtorEq,List.replicate,e])|apply gC_drawW|((first|apply gI_dec|apply gG_dec|apply gPG_dec|apply gI_var|apply gG_var|apply gPG_var)<;>intro _))
  refine callV_flat (by rw[hC];exact ha.flat rfl rfl) ?_
  repeat' (first|(simp (disch:=try exact z0z) only[WA,slotsL,opdsA,Nat.reduceEqDiff,Nat.reduceLT,Nat.reduceAdd,Nat.reduceBEq,Int.reduceAdd,Int.reduceSub,Int.reduceLT,Int.reduceLE,Int.reduceEq,Int.reduceNeg,↓reduceIte,reduceCtorEq,List.replicate])|apply gC_drawW|((first|apply gI_dec|apply gG_dec|apply gPG_dec|apply gI_var|apply gG_var|apply gPG_var)<;>intro _))
  exact weak_flat rfl h0 rfl
end
def rowsC:Int→List (Bool × List Sti)→Int
 |_,[]=>0
 |z,r::R=>if allF r.2 ≠ 0 then allF r.2 else if sumS usedS r.2 ≠ z then 26 else rowsC (sumS madeS r.2) R
def chkC (c:ChT):Int:=if 100<c.2.length then 4 else if c.1<0∨200<c.1 then 8 else rowsC c.1 c.2
theorem rowsC_bad {z:Int} {r:Bool × List Sti} {R:List (Bool × List Sti)} (h:allF r.2 ≠ 0):rowsC z (r::R)=allF r.2:=by rw[rowsC,if_pos h]
theorem rowsC_cnt {z:Int} {r:Bool × List Sti} {R:List (Bool × List Sti)} (h:allF r.2=0) (h2:sumS usedS r.2 ≠ z):rowsC z (r::R)=26:=by rw[rowsC,if_neg (not_not_intro h),if_pos h2]
theorem rowsC_go {z:Int} {r:Bool × List Sti} {R:List (Bool × List Sti)} (h:allF r.2=0) (h2:sumS usedS r.2=z):rowsC z (r::R)=rowsC (sumS madeS r.2) R:=by rw[rowsC,if_neg (not_not_intro h),if_neg (not_not_intro h2)]
theorem drop_row {R:List (Bool × List Sti)} {j:Nat} (h:j<R.length):R.drop j=R[j]! ::R.drop (j+1):=by rw[List.drop_eq_getElem_cons h,getElem!_pos R j h]
theorem KOKR.at {R:List (Bool × List Sti)} (h:KOKR R) {j:Nat} (hj:j<R.length):KOK R[j]!.2∧R[j]!.2.length≤140737488351232:=h _ (by rw[getElem!_pos R j hj];exact List.getElem_mem hj)
section
variable (w:World) (n:Nat)
theorem rcheck26_p (s k:Nat) (c:ChT) (hc:c.2.length≤140737488351232) (hK:KOKR c.2):VSpec (EN w (n+5)) 79 [chartV s k c] (iN (chkC c)) ⟨[],0,0⟩:=by
 obtain ⟨z,R⟩:=c
 simp only at hc hK
 have hil:=rowsD_len k R
 unfold chkC
 simp only
 refine vspec_flat rfl rfl (fun _ _=>rfl) (Nat.le_of_ble_eq_true rfl) (oldVals w) rfl fun C hC h0=>?_
 have hrn:C.E.rounds=many:=by rw[hC,callP_rounds]
 by_cases e1:100<R.length
 ·rw[if_pos e1]
  repeat' (first|(simp (disch:=try exact z0z) only[WA,slotsL,opdsA,Nat.reduceEqDiff,Nat.reduceLT,Nat.reduceAdd,Nat.reduceBEq,Int.reduceAdd,Int.reduceSub,Int.reduceLT,Int.reduceLE,Int.reduceEq,Int.reduceNeg,↓reduceIte,reduceCtorEq,List.replicate,c79])|apply gC_drawW|((first|apply gI_dec|apply gG_dec|apply gPG_dec|apply gI_var|apply gG_var|apply gPG_var)<;>intro _))
  all_goals try (exfalso;omega)
  exact weak_flat rfl h0 rfl
 rw[if_neg e1]
 by_cases e2:z<0
 ·rw[if_pos (Or.inl e2)]
  repeat' (first|(simp (disch:=try exact z0z) only[WA,slotsL,opdsA,Nat.reduceEqDiff,Nat.reduceLT,Nat.reduceAdd,Nat.reduceBEq,Int.reduceAdd,Int.reduceSub,Int.reduceLT,Int.reduceLE,Int.reduceEq,Int.reduceNeg,↓reduceIte,reduceCtorEq,List.replicate,c79])|apply gC_drawW|((first|apply gI_dec|apply gG_dec|apply gPG_dec|apply gI_var|apply gG_var|apply gPG_var)<;>intro _))
  all_goals try (exfalso;omega)
  exact weak_flat rfl h0 rfl
 by_cases e3:200<z
 ·rw[if_pos (Or.inr e3)]
  repeat' (first|(simp (disch:=try exact z0z) only[WA,slotsL,opdsA,Nat.reduceEqDiff,Nat.reduceLT,Nat.reduceAdd,Nat.reduceBEq,Int.reduceAdd,Int.reduceSub,Int.reduceLT,Int.reduceLE,Int.reduceEq,Int.reduceNeg,↓reduceIte,reduceCtorEq,List.replicate,c79])|apply gC_drawW|((first|apply gI_dec|apply gG_dec|apply gPG_dec|apply gI_var|apply gG_var|apply gPG_var)<;>intro _))
  all_goals try (exfalso;omega)
  exact weak_flat rfl h0 rfl
 rw[if_neg (fun h=>h.elim e2 e3)]
 repeat' (first|(simp (disch:=try exact z0z) only[WA,slotsL,opdsA,Nat.reduceEqDiff,Nat.reduceLT,Nat.reduceAdd,Nat.reduceBEq,Int.reduceAdd,Int.reduceSub,Int.reduceLT,Int.reduceLE,Int.reduceEq,Int.reduceNeg,↓reduceIte,reduceCtorEq,List.replicate,c79])|apply gC_drawW|((first|apply gI_dec|apply gG_dec|apply gPG_dec|apply gI_var|apply gG_var|apply gPG_var)<;>intro _))
 all_goals try (exfalso;omega)
 refine g_while (fun m fr st=>∃ (j:Nat) (y:Int),m=R.length - j∧j≤R.length∧rowsC z R=rowsC y (R.drop j)∧fr= [(1,.ptr 0 0),(3,iN y),(4,iN j)]∧st=⟨[(0,.box 24 1 [iN z,.sl s R.length (rowsD k R)])],1,0⟩) R.length ?_ ⟨_,_,.refl _ _,0,z,by omega,Nat.zero_le _,rfl,rfl,rfl⟩ ?_
 ·rw[hrn];unfold many;omega
 rintro m fr st ⟨j,y,rfl,hj,hinv,rfl,rfl⟩
 by_cases hlt:j<R.length
 case neg=>
  have:j=R.length:=by omega
  subst this
  rw[hinv,List.drop_length,rowsC]
  repeat' (first|(simp (disch:=try exact z0z) only[WA,slotsL,opdsA,Nat.reduceEqDiff,Nat.reduceLT,Nat.reduceAdd,Nat.reduceBEq,Int.reduceAdd,Int.reduceSub,Int.reduceLT,Int.reduceLE,Int.reduceEq,Int.reduceNeg,↓reduceIte,reduceCtorEq,List.replicate,c79l0])|apply gC_drawW|((first|apply gI_dec|apply gG_dec|apply gPG_dec|apply gI_var|apply gG_var|apply gPG_var)<;>intro _))
  all_goals try (exfalso;omega)
  exact weak_flat rfl h0 rfl
 have hag:=rowsD_agg k R j hlt
 have hk:=hK.at hlt
 have hu:=ruses_p w n k R[j]!.2 hk.2 hk.1
 have hm:=rmakes_p w n k R[j]!.2 hk.2 hk.1
 rw[drop_row hlt] at hinv
 have hfl:=rowsD_at1 k R j hlt
 unfold usesF at hu
 unfold makesF at hm
 generalize hr:R[j]! =r at*
 obtain ⟨b,L⟩:=r
 simp only at hu hm hfl hk
 by_cases q1:allF L=0
 case neg=>
  rw[hinv,rowsC_bad q1]
  rw[if_neg q1] at hu
  simp only
  generalize allF L=E at*
  repeat' (first|(simp (disch:=try exact z0z) only[WA,slotsL,opdsA,Nat.reduceEqDiff,Nat.reduceLT,Nat.reduceAdd,Nat.reduceBEq,Int.reduceAdd,Int.reduceSub,Int.reduceLT,Int.reduceLE,Int.reduceEq,Int.reduceNeg,↓reduceIte,reduceCtorEq,List.replicate,c79l0,hag,hfl])|apply gC_drawW|((first|apply gI_dec|apply gG_dec|apply gPG_dec|apply gI_var|apply gG_var|apply gPG_var)<;>intro _))
  all_goals try (exfalso;omega)
  refine callV_flat (by rw[hC];exact hu.flat rfl rfl) ?_
  repeat' (first|(simp (disch:=try exact z0z) only[WA,slotsL,opdsA,Nat.reduceEqDiff,Nat.reduceLT,Nat.reduceAdd,Nat.reduceBEq,Int.reduceAdd,Int.reduceSub,Int.reduceLT,Int.reduceLE,Int.reduceEq,Int.reduceNeg,↓reduceIte,reduceCtorEq,List.replicate,q1])|apply gC_drawW|((first|apply gI_dec|apply gG_dec|apply gPG_dec|apply gI_var|apply gG_var|apply gPG_var)<;>intro _))
  exact weak_flat rfl h0 rfl
 rw[if_pos q1] at hu hm
 by_cases q2:sumS usedS L=y
 case neg=>
  rw[hinv,rowsC_cnt q1 q2]
  generalize sumS usedS L=U at*
  repeat' (first|(simp (disch:=try exact z0z) only[WA,slotsL,opdsA,Nat.reduceEqDiff,Nat.reduceLT,Nat.reduceAdd,Nat.reduceBEq,Int.reduceAdd,Int.reduceSub,Int.reduceLT,Int.reduceLE,Int.reduceEq,Int.reduceNeg,↓reduceIte,reduceCtorEq,List.replicate,c79l0,hag,hfl])|apply gC_drawW|((first|apply gI_dec|apply gG_dec|apply gPG_dec|apply gI_var|apply gG_var|apply gPG_var)<;>intro _))
  all_goals try (exfalso;omega)
  refine callV_flat (by rw[hC];exact hu.flat rfl rfl) ?_
  repeat' (first|(simp (disch:=try exact z0z) only[WA,slotsL,opdsA,Nat.reduceEqDiff,Nat.reduceLT,Nat.reduceAdd,Nat.reduceBEq,Int.reduceAdd,Int.reduceSub,Int.reduceLT,Int.reduceLE,Int.reduceEq,Int.reduceNeg,↓reduceIte,reduceCtorEq,List.replicate,q2])|apply gC_drawW|((first|apply gI_dec|apply gG_dec|apply gPG_dec|apply gI_var|apply gG_var|apply gPG_var)<;>intro _))
  exact weak_flat rfl h0 rfl
 rw[rowsC_go q1 q2] at hinv
 generalize sumS usedS L=U at*
 subst q2
 repeat' (first|(simp (disch:=try exact z0z) only[WA,slotsL,opdsA,Nat.reduceEqDiff,Nat.reduceLT,Nat.reduceAdd,Nat.reduceBEq,Int.reduceAdd,Int.reduceSub,Int.reduceLT,Int.reduceLE,Int.reduceEq,Int.reduceNeg,↓reduceIte,reduceCtorEq,List.replicate,c79l0,hag,hfl])|apply gC_drawW|((first|apply gI_dec|apply gG_dec|apply gPG_dec|apply gI_var|apply gG_var|apply gPG_var)<;>intro _))
 all_goals try (exfalso;omega)
 refine callV_flat (by rw[hC];exact hu.flat rfl rfl) ?_
 repeat' (first|(simp (disch:=try exact z0z) only[WA,slotsL,opdsA,Nat.reduceEqDiff,Nat.reduceLT,Nat.reduceAdd,Nat.reduceBEq,Int.reduceAdd,Int.reduceSub,Int.reduceLT,Int.reduceLE,Int.reduceEq,Int.reduceNeg,↓reduceIte,reduceCtorEq,List.replicate,hag,hfl])|apply gC_drawW|((first|apply gI_dec|apply gG_dec|apply gPG_dec|apply gI_var|apply gG_var|apply gPG_var)<;>intro _))
 refine callV_flat (by rw[hC];exact hm.flat rfl rfl) ?_
 repeat' (first|(simp (disch:=try exact z0z) only[WA,slotsL,opdsA,Nat.reduceEqDiff,Nat.reduceLT,Nat.reduceAdd,Nat.reduceBEq,Int.reduceAdd,Int.reduceSub,Int.reduceLT,Int.reduceLE,Int.reduceEq,Int.reduceNeg,↓reduceIte,reduceCtorEq,List.replicate])|apply gC_drawW|((first|apply gI_dec|apply gG_dec|apply gPG_dec|apply gI_var|apply gG_var|apply gPG_var)<;>intro _))
 exact ⟨R.length - (j+1),_,_,by omega,.refl _ _,j+1,sumS madeS L,rfl,by omega,hinv,rfl,rfl⟩
end
def plnS (x:Sti):Bool:=decide (x.kind=1∨x.kind=8)
def plnR (R:List (Bool × List Sti)):Bool:=R.all fun r=>r.2.all plnS
def plnF (c:ChT):Bool:=plnR c.2 && decide (c.1≤101)
abbrev plFn:V:= .sc (.func (.func 124) #[] #[])
theorem stiD_at0 (L:List Sti) (k:Nat) (hk:k<L.length):dload (stiD L) (k*4) none=some (.sc (.int .u8 L[k]!.kind)):=dload_flat1 (fun x:Sti=> [.sc (.int .u8 x.kind),.sc (.bool x.purl),.sc (.int .i64 x.a),.sc (.int .i64 x.b)]) 4 L (fun _=>rfl) k 0 hk (by decide)
theorem pall_take {p:Sti→Bool} {L:List Sti} {k:Nat} (h:k<L.length) (h1:(L.take k).all p=true) (h2:p L[k]! =true):(L.take (k+1)).all p=true:=by
 rw[List.take_succ_eq_append_getElem h,List.all_append,h1,Bool.true_and,← getElem!_pos L k h,List.all_cons,h2]
 rfl
theorem pall_not {p:Sti→Bool} {L:List Sti} {k:Nat} (h:k<L.length) (h2:p L[k]! =false):L.all p=false:=by
 rw[← Bool.not_eq_true]
 intro ha
 have:=List.all_eq_true.1 ha L[k]! (by rw[getElem!_pos L k h];exact List.getElem_mem h)
 rw[h2] at this;cases this
section
variable (w:World) (n:Nat)
theorem spln_p (x:Sti):VSpec (EN w (n+1)) 124 [stiV x] (.sc (.bool (!plnS x))) ⟨[],0,0⟩:=by
 obtain ⟨k,p,a,b⟩:=x
 refine vspec_flat rfl rfl (fun _ _=>rfl) (Nat.le_of_ble_eq_true rfl) (oldVals w) rfl fun C hC h0=>?_
 unfold plnS
 simp only
 by_cases e1:k=1
 ·subst e1
  repeat' (first|(simp (disch:=try exact z0z) only[WA,slotsL,opdsA,Nat.reduceEqDiff,Nat.reduceLT,Nat.reduceAdd,Nat.reduceBEq,Int.reduceAdd,Int.reduceSub,Int.reduceLT,Int.reduceLE,Int.reduceEq,Int.reduceNeg,↓reduceIte,reduceCtorEq,List.replicate,c124])|apply gC_drawW|((first|apply gI_dec|apply gG_dec|apply gPG_dec|apply gI_var|apply gG_var|apply gPG_var)<;>intro _))
  exact weak_flat rfl h0 rfl
 have f1:((k:Nat):Int) ≠ 1:=by omega
 by_cases e2:k=8
 ·subst e2
  repeat' (first|(simp (disch:=try exact z0z) only[WA,slotsL,opdsA,Nat.reduceEqDiff,Nat.reduceLT,Nat.reduceAdd,Nat.reduceBEq,Int.reduceAdd,Int.reduceSub,Int.reduceLT,Int.reduceLE,Int.reduceEq,Int.reduceNeg,↓reduceIte,reduceCtorEq,List.replicate,c124])|apply gC_drawW|((first|apply gI_dec|apply gG_dec|apply gPG_dec|apply gI_var|apply gG_var|apply gPG_var)<;>intro _))
  exact weak_flat rfl h0 rfl
 have f2:((k:Nat):Int) ≠ 8:=by omega
 rw[decide_eq_false (fun h=>h.elim e1 e2)]
 repeat' (first|(simp (disch:=try exact z0z) only[WA,slotsL,opdsA,Nat.reduceEqDiff,Nat.reduceLT,Nat.reduceAdd,Nat.reduceBEq,Int.reduceAdd,Int.reduceSub,Int.reduceLT,Int.reduceLE,Int.reduceEq,Int.reduceNeg,↓reduceIte,reduceCtorEq,List.replicate,c124])|apply gC_drawW|((first|apply gI_dec|apply gG_dec|apply gPG_dec|apply gI_var|apply gG_var|apply gPG_var)<;>intro _))
 all_goals try (exfalso;omega)
 exact weak_flat rfl h0 rfl
theorem pcontains_p (s:Nat) (L:List Sti) (hL:L.length≤140737488351232):VSpec (EN w (n+3)) 123 [tS s L,plFn] (.sc (.bool (!(L.all plnS)))) ⟨[],0,0⟩:=by
 have hil:=stiD_len L
 have hix:∃ r:Int,(L.all plnS=true→r= -1)∧(¬ L.all plnS=true→0≤r)∧VSpec (EN w (n+2)) 163 [tS s L,plFn] (iN r) ⟨[],0,0⟩:=by
  have main:∀ (j:Nat),j≤L.length→(L.take j).all plnS=true→(j<L.length→plnS L[j]! =false)→VSpec (EN w (n+2)) 163 [tS s L,plFn] (iN (if j<L.length then (j:Int) else -1)) ⟨[],0,0⟩:=by
   intro j hj hall hbad
   refine vspec_flat rfl rfl (fun _ _=>rfl) (Nat.le_of_ble_eq_true rfl) (oldVals w) rfl fun C hC h0=>?_
   repeat' (first|(simp (disch:=try exact z0z) only[WA,slotsL,opdsA,Nat.reduceEqDiff,Nat.reduceLT,Nat.reduceAdd,Nat.reduceBEq,Int.reduceAdd,Int.reduceSub,Int.reduceLT,Int.reduceLE,Int.reduceEq,Int.reduceNeg,↓reduceIte,reduceCtorEq,List.replicate,c163])|apply gC_drawW|((first|apply gI_dec|apply gG_dec|apply gPG_dec|apply gI_var|apply gG_var|apply gPG_var)<;>intro _))
   refine g_while (fun m fr st=>∃ (k:Nat),m=L.length - k∧k≤j∧fr= [(0,tS s L),(1,plFn),(7,iN L.length),(8,iN k)]∧st=⟨[],0,0⟩) L.length ?_ ⟨_,_,.refl _ _,0,by omega,Nat.zero_le _,rfl,rfl⟩ ?_
   ·rw[hC,callP_rounds];unfold many;omega
   rintro m fr st ⟨k,rfl,hk,rfl,rfl⟩
   by_cases hlt:k<L.length
   case neg=>
    rw[if_neg (by omega)]
    repeat' (first|(simp (disch:=try exact z0z) only[WA,slotsL,opdsA,Nat.reduceEqDiff,Nat.reduceLT,Nat.reduceAdd,Nat.reduceBEq,Int.reduceAdd,Int.reduceSub,Int.reduceLT,Int.reduceLE,Int.reduceEq,Int.reduceNeg,↓reduceIte,reduceCtorEq,List.replicate,c163l0])|apply gC_drawW|((first|apply gI_dec|apply gG_dec|apply gPG_dec|apply gI_var|apply gG_var|apply gPG_var)<;>intro _))
    all_goals try (exfalso;omega)
    exact weak_flat rfl h0 rfl
   have hag:=stiD_agg L k hlt
   have h1:=spln_p w n L[k]!
   by_cases hkj:k=j
   ·subst hkj
    rw[hbad hlt] at h1
    rw[if_pos hlt]
    repeat' (first|(simp (disch:=try exact z0z) only[WA,slotsL,opdsA,Nat.reduceEqDiff,Nat.reduceLT,Nat.reduceAdd,Nat.reduceBEq,Int.reduceAdd,Int.reduceSub,Int.reduceLT,Int.reduceLE,Int.reduceEq,Int.reduceNeg,↓reduceIte,reduceCtorEq,List.replicate,c163l0,hag])|apply gC_drawW|((first|apply gI_dec|apply gG_dec|apply gPG_dec|apply gI_var|apply gG_var|apply gPG_var)<;>intro _))
    all_goals try (exfalso;omega)
    refine callV_flat (by rw[hC];exact h1.flat rfl rfl) ?_
    repeat' (first|(simp (disch:=try exact z0z) only[WA,slotsL,opdsA,Nat.reduceEqDiff,Nat.reduceLT,Nat.reduceAdd,Nat.reduceBEq,Int.reduceAdd,Int.reduceSub,Int.reduceLT,Int.reduceLE,Int.reduceEq,Int.reduceNeg,↓reduceIte,reduceCtorEq,List.replicate])|apply gC_drawW|((first|apply gI_dec|apply gG_dec|apply gPG_dec|apply gI_var|apply gG_var|apply gPG_var)<;>intro _))
    exact weak_flat rfl h0 rfl
   ·have ho:plnS L[k]! =true:=List.all_eq_true.1 hall _ (by
     rw[getElem!_pos _ k hlt]
     exact List.mem_iff_getElem.2 ⟨k,by rw[List.length_take];omega,List.getElem_take⟩)
    rw[ho] at h1
    repeat' (first|(simp (disch:=try exact z0z) only[WA,slotsL,opdsA,Nat.reduceEqDiff,Nat.reduceLT,Nat.reduceAdd,Nat.reduceBEq,Int.reduceAdd,Int.reduceSub,Int.reduceLT,Int.reduceLE,Int.reduceEq,Int.reduceNeg,↓reduceIte,reduceCtorEq,List.replicate,c163l0,hag])|apply gC_drawW|((first|apply gI_dec|apply gG_dec|apply gPG_dec|apply gI_var|apply gG_var|apply gPG_var)<;>intro _))
    all_goals try (exfalso;omega)
    refine callV_flat (by rw[hC];exact h1.flat rfl rfl) ?_
    repeat' (first|(simp (disch:=try exact z0z) only[WA,slotsL,opdsA,Nat.reduceEqDiff,Nat.reduceLT,Nat.reduceAdd,Nat.reduceBEq,Int.reduceAdd,Int.reduceSub,Int.reduceLT,Int.reduceLE,Int.reduceEq,Int.reduceNeg,↓reduceIte,reduceCtorEq,List.replicate])|apply gC_drawW|((first|apply gI_dec|apply gG_dec|apply gPG_dec|apply gI_var|apply gG_var|apply gPG_var)<;>intro _))
    exact ⟨L.length - (k+1),_,_,by omega,.refl _ _,k+1,rfl,by omega,rfl,rfl⟩
  have hex:∀ m,m≤L.length→(L.take m).all plnS=true∨∃ j,j<m∧(L.take j).all plnS=true∧plnS L[j]! =false:=by
   intro m
   induction m with
   |zero=>intro _;exact .inl rfl
   |succ m ih=>
    intro hm
    rcases ih (by omega) with h|⟨j,h1,h2,h3⟩
    ·cases hc:plnS L[m]! with
     |true=>exact .inl (pall_take (by omega) h hc)
     |false=>exact .inr ⟨m,by omega,h,hc⟩
    ·exact .inr ⟨j,by omega,h2,h3⟩
  rcases hex L.length (Nat.le_refl _) with h|⟨j,h1,h2,h3⟩
  ·refine ⟨_,fun _=>?_,fun hn=>absurd (by rwa [List.take_length] at h) hn,main L.length (Nat.le_refl _) h fun h=>absurd h (Nat.lt_irrefl _)⟩
   rw[if_neg (Nat.lt_irrefl _)]
  ·refine ⟨_,fun ha=>?_,fun _=>?_,main j (by omega) h2 fun _=>h3⟩
   ·rw[pall_not h1 h3] at ha;cases ha
   ·rw[if_pos h1];omega
 obtain ⟨r,h1,h2,hr⟩:=hix
 by_cases ha:L.all plnS=true
 ·have e:=h1 ha
  subst e
  rw[ha]
  refine vspec_flat rfl rfl (fun _ _=>rfl) (Nat.le_of_ble_eq_true rfl) (oldVals w) rfl fun C hC h0=>?_
  repeat' (first|(simp (disch:=try exact z0z) only[WA,slotsL,opdsA,Nat.reduceEqDiff,Nat.reduceLT,Nat.reduceAdd,Nat.reduceBEq,Int.reduceAdd,Int.reduceSub,Int.reduceLT,Int.reduceLE,Int.reduceEq,Int.reduceNeg,↓reduceIte,reduceCtorEq,List.replicate,c123])|apply gC_drawW|((first|apply gI_dec|apply gG_dec|apply gPG_dec|apply gI_var|apply gG_var|apply gPG_var)<;>intro _))
  refine callV_flat (by rw[hC];exact hr.flat rfl rfl) ?_
  repeat' (first|(simp (disch:=try exact z0z) only[WA,slotsL,opdsA,Nat.reduceEqDiff,Nat.reduceLT,Nat.reduceAdd,Nat.reduceBEq,Int.reduceAdd,Int.reduceSub,Int.reduceLT,Int.reduceLE,Int.reduceEq,Int.reduceNeg,↓reduceIte,reduceCtorEq,List.replicate])|apply gC_drawW|((first|apply gI_dec|apply gG_dec|apply gPG_dec|apply gI_var|apply gG_var|apply gPG_var)<;>intro _))
  exact weak_flat rfl h0 rfl
 ·have e:=h2 ha
  rw[Bool.not_eq_true] at ha
  rw[ha]
  refine vspec_flat rfl rfl (fun _ _=>rfl) (Nat.le_of_ble_eq_true rfl) (oldVals w) rfl fun C hC h0=>?_
  repeat' (first|(simp (disch:=try exact z0z) only[WA,slotsL,opdsA,Nat.reduceEqDiff,Nat.reduceLT,Nat.reduceAdd,Nat.reduceBEq,Int.reduceAdd,Int.reduceSub,Int.reduceLT,Int.reduceLE,Int.reduceEq,Int.reduceNeg,↓reduceIte,reduceCtorEq,List.replicate,c123])|apply gC_drawW|((first|apply gI_dec|apply gG_dec|apply gPG_dec|apply gI_var|apply gG_var|apply gPG_var)<;>intro _))
  refine callV_flat (by rw[hC];exact hr.flat rfl rfl) ?_
  repeat' (first|(simp (disch:=try exact z0z) only[WA,slotsL,opdsA,Nat.reduceEqDiff,Nat.reduceLT,Nat.reduceAdd,Nat.reduceBEq,Int.reduceAdd,Int.reduceSub,Int.reduceLT,Int.reduceLE,Int.reduceEq,Int.reduceNeg,↓reduceIte,reduceCtorEq,List.replicate])|apply gC_drawW|((first|apply gI_dec|apply gG_dec|apply gPG_dec|apply gI_var|apply gG_var|apply gPG_var)<;>intro _))
  all_goals try (exfalso;omega)
  exact weak_flat rfl h0 rfl
theorem plnR_at {R:List (Bool × List Sti)} {j:Nat} (hj:j<R.length):plnR (R.drop j)=(R[j]!.2.all plnS && plnR (R.drop (j+1))):=by
 rw[drop_row hj];rfl
theorem plain_p (s k:Nat) (z:Int) (R:List (Bool × List Sti)) (hc:R.length≤140737488351232) (hK:KOKR R):VSpec (EN w (n+4)) 77 [chartV s k (z,R)] (.sc (.bool (plnF (z,R)))) ⟨[],0,0⟩:=by
 have hil:=rowsD_len k R
 unfold plnF
 simp only
 refine vspec_flat rfl rfl (fun _ _=>rfl) (Nat.le_of_ble_eq_true rfl) (oldVals w) rfl fun C hC h0=>?_
 have hrn:C.E.rounds=many:=by rw[hC,callP_rounds]
 repeat' (first|(simp (disch:=try exact z0z) only[WA,slotsL,opdsA,Nat.reduceEqDiff,Nat.reduceLT,Nat.reduceAdd,Nat.reduceBEq,Int.reduceAdd,Int.reduceSub,Int.reduceLT,Int.reduceLE,Int.reduceEq,Int.reduceNeg,↓reduceIte,reduceCtorEq,List.replicate,c77])|apply gC_drawW|((first|apply gI_dec|apply gG_dec|apply gPG_dec|apply gI_var|apply gG_var|apply gPG_var)<;>intro _))
 refine g_while (fun m fr st=>∃ (j nx:Nat),m=R.length - j∧j≤R.length∧plnR R=plnR (R.drop j)∧fr= [(1,.ptr 0 0),(6,.sl s R.length (rowsD k R)),(7,iN R.length),(8,iN j)]∧st=⟨[(0,.box 24 1 [iN z,.sl s R.length (rowsD k R)])],1,0⟩) R.length ?_ ⟨_,_,.refl _ _,0,1,by omega,Nat.zero_le _,rfl,rfl,rfl⟩ ?_
 ·rw[hrn];unfold many;omega
 rintro m fr st ⟨j,nx,rfl,hj,hinv,rfl,rfl⟩
 by_cases hlt:j<R.length
 case neg=>
  have:j=R.length:=by omega
  subst this
  have hp:plnR R=true:=by rw[hinv,List.drop_length];rfl
  rw[hp,Bool.true_and]
  repeat' (first|(simp (disch:=try exact z0z) only[WA,slotsL,opdsA,Nat.reduceEqDiff,Nat.reduceLT,Nat.reduceAdd,Nat.reduceBEq,Int.reduceAdd,Int.reduceSub,Int.reduceLT,Int.reduceLE,Int.reduceEq,Int.reduceNeg,↓reduceIte,reduceCtorEq,List.replicate,c77l0])|apply gC_drawW|((first|apply gI_dec|apply gG_dec|apply gPG_dec|apply gI_var|apply gG_var|apply gPG_var)<;>intro _))
  all_goals try (exfalso;omega)
  exact weak_flat rfl h0 rfl
 have hag:=rowsD_agg k R j hlt
 have hk:=hK.at hlt
 have hp:=pcontains_p w n k R[j]!.2 hk.2
 rw[plnR_at hlt] at hinv
 generalize hr:R[j]! =r at*
 obtain ⟨b,L⟩:=r
 simp only at hp hk hinv
 by_cases q1:L.all plnS=true
 case neg=>
  rw[Bool.not_eq_true] at q1
  rw[hinv,q1,Bool.false_and,Bool.false_and]
  rw[q1] at hp
  repeat' (first|(simp (disch:=try exact z0z) only[WA,slotsL,opdsA,Nat.reduceEqDiff,Nat.reduceLT,Nat.reduceAdd,Nat.reduceBEq,Int.reduceAdd,Int.reduceSub,Int.reduceLT,Int.reduceLE,Int.reduceEq,Int.reduceNeg,↓reduceIte,reduceCtorEq,List.replicate,c77l0,hag])|apply gC_drawW|((first|apply gI_dec|apply gG_dec|apply gPG_dec|apply gI_var|apply gG_var|apply gPG_var)<;>intro _))
  all_goals try (exfalso;omega)
  refine callV_flat (by rw[hC];exact hp.flat rfl rfl) ?_
  repeat' (first|(simp (disch:=try exact z0z) only[WA,slotsL,opdsA,Nat.reduceEqDiff,Nat.reduceLT,Nat.reduceAdd,Nat.reduceBEq,Int.reduceAdd,Int.reduceSub,Int.reduceLT,Int.reduceLE,Int.reduceEq,Int.reduceNeg,↓reduceIte,reduceCtorEq,List.replicate])|apply gC_drawW|((first|apply gI_dec|apply gG_dec|apply gPG_dec|apply gI_var|apply gG_var|apply gPG_var)<;>intro _))
  exact weak_flat rfl h0 rfl
 rw[q1,Bool.true_and] at hinv
 rw[q1] at hp
 repeat' (first|(simp (disch:=try exact z0z) only[WA,slotsL,opdsA,Nat.reduceEqDiff,Nat.reduceLT,Nat.reduceAdd,Nat.reduceBEq,Int.reduceAdd,Int.reduceSub,Int.reduceLT,Int.reduceLE,Int.reduceEq,Int.reduceNeg,↓reduceIte,reduceCtorEq,List.replicate,c77l0,hag])|apply gC_drawW|((first|apply gI_dec|apply gG_dec|apply gPG_dec|apply gI_var|apply gG_var|apply gPG_var)<;>intro _))
 all_goals try (exfalso;omega)
 refine callV_flat (by rw[hC];exact hp.flat rfl rfl) ?_
 repeat' (first|(simp (disch:=try exact z0z) only[WA,slotsL,opdsA,Nat.reduceEqDiff,Nat.reduceLT,Nat.reduceAdd,Nat.reduceBEq,Int.reduceAdd,Int.reduceSub,Int.reduceLT,Int.reduceLE,Int.reduceEq,Int.reduceNeg,↓reduceIte,reduceCtorEq,List.replicate])|apply gC_drawW|((first|apply gI_dec|apply gG_dec|apply gPG_dec|apply gI_var|apply gG_var|apply gPG_var)<;>intro _))
 exact ⟨R.length - (j+1),_,_,by omega,weak_to [(0,0)] 1 h0 rfl rfl rfl rfl,j+1,1,rfl,by omega,hinv,rfl,rfl⟩
end
theorem plnR_bad {R:List (Bool × List Sti)} {j:Nat} (hj:j<R.length) (h:R[j]!.2.all plnS=false):plnR R=false:=by
 rw[← Bool.not_eq_true]
 intro ha
 have:=List.all_eq_true.1 ha R[j]! (by rw[getElem!_pos R j hj];exact List.getElem_mem hj)
 rw[h] at this;cases this
theorem drop_sti {L:List Sti} {k:Nat} (h:k<L.length):L.drop k=L[k]! ::L.drop (k+1):=by rw[List.drop_eq_getElem_cons h,getElem!_pos L k h]
def oth (x:Sti):Sti:=⟨x.kind,if x.kind=2∨x.kind=9 then x.purl else !x.purl,if x.kind=6∨x.kind=7 then x.b else x.a,if x.kind=6∨x.kind=7 then x.a else x.b⟩
def turnedL (L:List Sti):List Sti:=L.reverse.map oth
def seenF (r:Bool × List Sti):List Sti:=if r.1=true then turnedL r.2 else r.2
section
variable (w:World) (n:Nat)
theorem rplain_p (s k:Nat) (z:Int) (R:List (Bool × List Sti)) (hc:R.length≤140737488351232) (hK:KOKR R):VSpec (EN w (n+1)) 80 [chartV s k (z,R)] (.sc (.bool (plnF (z,R)))) ⟨[],0,0⟩:=by
 have hil:=rowsD_len k R
 unfold plnF
 simp only
 refine vspec_flat rfl rfl (fun _ _=>rfl) (Nat.le_of_ble_eq_true rfl) (oldVals w) rfl fun C hC h0=>?_
 have hrn:C.E.rounds=many:=by rw[hC,callP_rounds]
 repeat' (first|(simp (disch:=try exact z0z) only[WA,slotsL,opdsA,Nat.reduceEqDiff,Nat.reduceLT,Nat.reduceAdd,Nat.reduceBEq,Int.reduceAdd,Int.reduceSub,Int.reduceLT,Int.reduceLE,Int.reduceEq,Int.reduceNeg,↓reduceIte,reduceCtorEq,List.replicate,c80])|apply gC_drawW|((first|apply gI_dec|apply gG_dec|apply gPG_dec|apply gI_var|apply gG_var|apply gPG_var)<;>intro _))
 refine g_while (fun m fr st=>∃ (j:Nat),m=R.length - j∧j≤R.length∧plnR R=plnR (R.drop j)∧fr= [(1,.ptr 0 0),(3,iN j)]∧st=⟨[(0,.box 24 1 [iN z,.sl s R.length (rowsD k R)])],1,0⟩) R.length ?_ ⟨_,_,.refl _ _,0,by omega,Nat.zero_le _,rfl,rfl,rfl⟩ ?_
 ·rw[hrn];unfold many;omega
 rintro m fr st ⟨j,rfl,hj,hinv,rfl,rfl⟩
 by_cases hlt:j<R.length
 case neg=>
  have:j=R.length:=by omega
  subst this
  have hp:plnR R=true:=by rw[hinv,List.drop_length];rfl
  rw[hp,Bool.true_and]
  repeat' (first|(simp (disch:=try exact z0z) only[WA,slotsL,opdsA,Nat.reduceEqDiff,Nat.reduceLT,Nat.reduceAdd,Nat.reduceBEq,Int.reduceAdd,Int.reduceSub,Int.reduceLT,Int.reduceLE,Int.reduceEq,Int.reduceNeg,↓reduceIte,reduceCtorEq,List.replicate,c80l1])|apply gC_drawW|((first|apply gI_dec|apply gG_dec|apply gPG_dec|apply gI_var|apply gG_var|apply gPG_var)<;>intro _))
  all_goals try (exfalso;omega)
  exact weak_flat rfl h0 rfl
 have hag:=rowsD_at1 k R j hlt
 have hk:=hK.at hlt
 rw[plnR_at hlt] at hinv
 have hbad:=@plnR_bad R j hlt
 generalize hr:R[j]! =r at*
 obtain ⟨b,L⟩:=r
 simp only at hk hinv hag hbad
 have hsl:=stiD_len L
 repeat' (first|(simp (disch:=try exact z0z) only[WA,slotsL,opdsA,Nat.reduceEqDiff,Nat.reduceLT,Nat.reduceAdd,Nat.reduceBEq,Int.reduceAdd,Int.reduceSub,Int.reduceLT,Int.reduceLE,Int.reduceEq,Int.reduceNeg,↓reduceIte,reduceCtorEq,List.replicate,c80l1])|apply gC_drawW|((first|apply gI_dec|apply gG_dec|apply gPG_dec|apply gI_var|apply gG_var|apply gPG_var)<;>intro _))
 all_goals try (exfalso;omega)
 refine g_while (fun m fr st=>∃ (i:Nat),m=L.length - i∧i≤L.length∧L.all plnS=(L.drop i).all plnS∧fr= [(1,.ptr 0 0),(3,iN j),(4,iN i)]∧st=⟨[(0,.box 24 1 [iN z,.sl s R.length (rowsD k R)])],1,0⟩) L.length ?_ ⟨_,_,.refl _ _,0,by omega,Nat.zero_le _,rfl,rfl,rfl⟩ ?_
 ·rw[hrn];unfold many;omega
 rintro m fr st ⟨i,rfl,hi,hiv,rfl,rfl⟩
 by_cases hil2:i<L.length
 case neg=>
  have:i=L.length:=by omega
  subst this
  have hp:L.all plnS=true:=by rw[hiv,List.drop_length];rfl
  rw[hp,Bool.true_and] at hinv
  repeat' (first|(simp (disch:=try exact z0z) only[WA,slotsL,opdsA,Nat.reduceEqDiff,Nat.reduceLT,Nat.reduceAdd,Nat.reduceBEq,Int.reduceAdd,Int.reduceSub,Int.reduceLT,Int.reduceLE,Int.reduceEq,Int.reduceNeg,↓reduceIte,reduceCtorEq,List.replicate,c80l0,hag])|apply gC_drawW|((first|apply gI_dec|apply gG_dec|apply gPG_dec|apply gI_var|apply gG_var|apply gPG_var)<;>intro _))
  all_goals try (exfalso;omega)
  exact ⟨R.length - (j+1),_,_,by omega,.refl _ _,j+1,rfl,by omega,hinv,rfl,rfl⟩
 have hat:=stiD_at0 L i hil2
 rw[drop_sti hil2,List.all_cons] at hiv
 have hb2:=@pall_not plnS L i hil2
 generalize L[i]! =x at*
 obtain ⟨kd,p,a,b⟩:=x
 unfold plnS at hb2 hiv
 simp only at hat hb2 hiv
 by_cases e1:kd=1
 ·subst e1
  repeat' (first|(simp (disch:=try exact z0z) only[WA,slotsL,opdsA,Nat.reduceEqDiff,Nat.reduceLT,Nat.reduceAdd,Nat.reduceBEq,Int.reduceAdd,Int.reduceSub,Int.reduceLT,Int.reduceLE,Int.reduceEq,Int.reduceNeg,↓reduceIte,reduceCtorEq,List.replicate,c80l0,hag,hat])|apply gC_drawW|((first|apply gI_dec|apply gG_dec|apply gPG_dec|apply gI_var|apply gG_var|apply gPG_var)<;>intro _))
  all_goals try (exfalso;omega)
  exact ⟨L.length - (i+1),_,_,by omega,.refl _ _,i+1,rfl,by omega,hiv,rfl,rfl⟩
 have f1:((kd:Nat):Int) ≠ 1:=by omega
 by_cases e2:kd=8
 ·subst e2
  repeat' (first|(simp (disch:=try exact z0z) only[WA,slotsL,opdsA,Nat.reduceEqDiff,Nat.reduceLT,Nat.reduceAdd,Nat.reduceBEq,Int.reduceAdd,Int.reduceSub,Int.reduceLT,Int.reduceLE,Int.reduceEq,Int.reduceNeg,↓reduceIte,reduceCtorEq,List.replicate,c80l0,hag,hat])|apply gC_drawW|((first|apply gI_dec|apply gG_dec|apply gPG_dec|apply gI_var|apply gG_var|apply gPG_var)<;>intro _))
  all_goals try (exfalso;omega)
  exact ⟨L.length - (i+1),_,_,by omega,.refl _ _,i+1,rfl,by omega,hiv,rfl,rfl⟩
 have f2:((kd:Nat):Int) ≠ 8:=by omega
 have hpf:plnR R=false:=hbad (hb2 (decide_eq_false (fun h=>h.elim e1 e2)))
 rw[hpf,Bool.false_and]
 repeat' (first|(simp (disch:=try exact z0z) only[WA,slotsL,opdsA,Nat.reduceEqDiff,Nat.reduceLT,Nat.reduceAdd,Nat.reduceBEq,Int.reduceAdd,Int.reduceSub,Int.reduceLT,Int.reduceLE,Int.reduceEq,Int.reduceNeg,↓reduceIte,reduceCtorEq,List.replicate,c80l0,hag,hat])|apply gC_drawW|((first|apply gI_dec|apply gG_dec|apply gPG_dec|apply gI_var|apply gG_var|apply gPG_var)<;>intro _))
 all_goals try (exfalso;omega)
 exact weak_flat rfl h0 rfl
end
theorem row1V_sti (nx t:Nat) (a b c d:Value):mkRowV nx t 4 1 [.int .u8 0,.bool false,.int .i64 0,.int .i64 0] [(0,4,.agg [.sc a,.sc b,.sc c,.sc d])]=some (.ref nx 0 1 1,some (.row t 4 false false [.sc a,.sc b,.sc c,.sc d]),[]):=(rfl)
theorem snap_gr4 {H:VHp} {o t n:Nat} {z:Bool} {l:List D} (h:aget H o=some (.gro t 4 z l)) (hl:l.length=n*4):snapV H (.gr 2 o n)=some (.sl 2 n l):=by
 simp only[snapV,toD,h]
 rw[if_pos ⟨hl,by decide,by decide,by decide⟩]
 rfl
theorem snap_ref40 {H:VHp} {o c t:Nat} {g z:Bool} {l:List D} (h:aget H o=some (.row t 4 g z l)):snapV H (.ref o 0 0 c)=some (.sl 0 0 []):=by
 simp only[snapV,toD,h,Nat.zero_add,List.drop_zero]
 rw[if_pos (by omega)]
 rfl
theorem stiD_app (A B:List Sti):stiD (A++B)=stiD A++stiD B:=by simp[stiD]
theorem stiD_snoc (A:List Sti) (x:Sti):stiD (A++ [x])=stiD A++ [.sc (.int .u8 x.kind),.sc (.bool x.purl),.sc (.int .i64 x.a),.sc (.int .i64 x.b)]:=by simp[stiD]
theorem stiD_ok (L:List Sti):okL (stiD L)=true:=by
 simp only[okL,List.all_eq_true]
 intro d hd
 simp only[stiD,List.mem_flatMap] at hd
 obtain ⟨x,_,hc⟩:=hd
 simp at hc
 rcases hc with rfl|rfl|rfl|rfl<;>rfl
theorem turnedL_len (L:List Sti):(turnedL L).length=L.length:=by simp[turnedL]
theorem turnedL_step (L:List Sti) (j:Nat) (hj:j<L.length):(L.reverse.take (j+1)).map oth=(L.reverse.take j).map oth++ [oth L[L.length - 1 - j]!]:=by
 rw[List.take_succ_eq_append_getElem (by simpa using hj),List.map_append,List.getElem_reverse,getElem!_pos L (L.length - 1 - j) (by omega)]
 rfl
theorem fin1Nil {C:Ctx} (h0:C.w0.nx=0):Weak C [(0,.sc (.slice none 0 0))] ⟨[],0,0⟩ [(0,.sl 3 0 [])] ⟨[],0,0⟩:=
 (weak_nilSlot (C:=C) (st:=⟨[],0,0⟩) 0 0 1 rfl).trans (fin1 (s:=2) (n:=0) (l:= []) rfl rfl (.inl (by decide)) h0 rfl)
section
variable (w:World) (n:Nat)
theorem sclone_p (s:Nat) (L:List Sti) (hL:L.length≤1000000) (hk:s=2∨s=0∨0<L.length):VSpec (EN w (n+1)) 82 [tS s L] (tS 3 L) ⟨[],0,0⟩:=by
 have hil:=stiD_len L
 have hok:=stiD_ok L
 refine vspec_g rfl rfl (fun _ _=>rfl) (Nat.le_of_ble_eq_true rfl) (oldVals w) retOK_sl3 rfl fun C hC h0=>?_
 by_cases hl:L= []
 ·subst hl
  rcases hk with rfl|rfl|h
  ·have hnl:isNilV' 1 (tS 2 [])=some true:=rfl
   repeat' (first|(simp (disch:=try exact z0z) only[WA,slotsL,opdsA,Nat.reduceEqDiff,Nat.reduceLT,Nat.reduceAdd,Nat.reduceBEq,Int.reduceAdd,Int.reduceSub,Int.reduceLT,Int.reduceLE,Int.reduceEq,Int.reduceNeg,↓reduceIte,reduceCtorEq,List.replicate,c82,eqNilV_nil,hnl])|apply gC_drawW|((first|apply gI_dec|apply gG_dec|apply gPG_dec|apply gI_var|apply gG_var|apply gPG_var)<;>intro _))
   exact fin1Nil h0
  ·have hnl:isNilV' 1 (tS 0 [])=some false:=rfl
   repeat' (first|(simp (disch:=try exact z0z) only[WA,slotsL,opdsA,Nat.reduceEqDiff,Nat.reduceLT,Nat.reduceAdd,Nat.reduceBEq,Int.reduceAdd,Int.reduceSub,Int.reduceLT,Int.reduceLE,Int.reduceEq,Int.reduceNeg,↓reduceIte,reduceCtorEq,List.replicate,c82,eqNilV_nil,hnl])|apply gC_drawW|((first|apply gI_dec|apply gG_dec|apply gPG_dec|apply gI_var|apply gG_var|apply gPG_var)<;>intro _))
   exact fin1 (snap_ref40 rfl) rfl (.inl (by decide)) h0 rfl
  ·exact absurd h (by decide)
 have hne:L.length ≠ 0:=fun h=>hl (List.eq_nil_of_length_eq_zero h)
 have hnl:isNilV' 1 (tS s L)=some false:=by
  have h3:Nat.beq L.length 0=false:=nbf.2 hne
  simp only[tS,jS,isNilV',h3]
  cases Nat.beq s 0<;>cases Nat.beq s 2<;>rfl
 repeat' (first|(simp (disch:=try exact z0z) only[WA,slotsL,opdsA,Nat.reduceEqDiff,Nat.reduceLT,Nat.reduceAdd,Nat.reduceBEq,Int.reduceAdd,Int.reduceSub,Int.reduceLT,Int.reduceLE,Int.reduceEq,Int.reduceNeg,↓reduceIte,reduceCtorEq,List.replicate,c82,eqNilV_nil,hnl])|apply gC_drawW|((first|apply gI_dec|apply gG_dec|apply gPG_dec|apply gI_var|apply gG_var|apply gPG_var)<;>intro _))
 exact fin1 (snap_gr4 rfl hil) rfl (.inl (by decide)) h0 rfl
theorem sclone_odd (k:FloatKind) (b e:Nat) (s:St):(EN w (n+1)).pcall 82 [.complex k b e] s=(EN w (n+1)).pcall 82 [.slice (some ⟨0,0,none⟩) 0 0] s:=rfl
theorem sclone1_p (s:Nat) (L:List Sti) (hL:L.length≤1000000) (hk:s=1∨s=2∨s=0∨0<L.length):VSpec (EN w (n+1)) 82 [tS s L] (tS 3 L) ⟨[],0,0⟩:=by
 by_cases h:s=2∨s=0∨0<L.length
 ·exact sclone_p w n s L hL h
 have hs:s=1:=by omega
 have hl:L= []:=List.eq_nil_of_length_eq_zero (by omega)
 subst hs hl
 intro st F xsI h1 h2 h3
 simp only[VRepL] at h3
 obtain ⟨v,vs,rfl,hv,rfl⟩:=h3
 rcases hv with ⟨a,c,e1,e2,e3,e4,_⟩|⟨_,_,_,rfl|⟨_,k,b,e,rfl⟩⟩
 ·exact sclone_p w n 0 [] hL (.inr (.inl rfl)) st F [v] h1 h2 (by simp only[VRepL];exact ⟨v,[],rfl,.inl ⟨a,c,e1,e2,e3,e4,fun h=>by cases h⟩,rfl⟩)
 ·exact sclone_p w n 2 [] hL (.inl rfl) st F [_] h1 h2 (by simp only[VRepL];exact ⟨_,[],rfl,.inr ⟨by decide,rfl,rfl,.inl rfl⟩,rfl⟩)
 ·rw[sclone_odd]
  exact sclone_p w n 0 [] hL (.inr (.inl rfl)) st F [_] h1 h2 (by simp only[VRepL];exact ⟨_,[],rfl,.inl ⟨⟨0,0,none⟩,0,rfl,trivial,Nat.zero_le _,trivial,fun h=>by cases h⟩,rfl⟩)
end
section
variable (w:World) (n:Nat)
end
abbrev chB (z:Int) (s k:Nat) (R:List (Bool × List Sti)):Itp.Obj:= .box 24 1 [iN z,.sl s R.length (rowsD k R)]
abbrev cntH (z:Int) (s k:Nat) (R:List (Bool × List Sti)) (e:Int):VHp:= [(2,recO 0),(1,.box 28 1 [iN e]),(0,chB z s k R)]
section
variable (w:World) (n:Nat)
theorem counted_p (s k:Nat) (hs:s ≠ 1) (z:Int) (R:List (Bool × List Sti)):VSpec (EN w (n+1)) 122 [chartV s k (z,R)] (.fn 160 [] [.ptr 0 0]) ⟨[(0,chB z s k R)],1,0⟩:=by
 refine vspec_g rfl rfl (fun _ _=>rfl) (Nat.le_of_ble_eq_true rfl) (oldVals w) ?_ rfl fun C hC hn=>?_
 ·have hc:Cl [(0,chB z s k R)] (.sl s R.length (rowsD k R)):=by
   simp only[Cl,okD,Bool.or_eq_true,Bool.not_eq_true',nbf];exact .inl hs
  refine ⟨?_,fun o t e L h=>?_,fun o ob h=>?_⟩
  ·simp only[Cl,ClL,and_true,true_and]
   exact ⟨_,rfl,rfl⟩
  ·rw[aget_cons,aget_nil] at h
   split at h
   ·cases h;exact ⟨trivial,hc,trivial⟩
   ·cases h
  ·rw[aget_cons,aget_nil] at h
   split at h
   ·rename_i h1;subst h1
    exact fun _=>VR.root 0 (by simp[vids,vidsL])
   ·cases h
 ·repeat' (first|(simp (disch:=try exact z0z) only[WA,slotsL,opdsA,Nat.reduceEqDiff,Nat.reduceLT,Nat.reduceAdd,Nat.reduceBEq,Int.reduceAdd,Int.reduceSub,Int.reduceLT,Int.reduceLE,Int.reduceEq,Int.reduceNeg,↓reduceIte,reduceCtorEq,List.replicate,c122])|apply gC_drawW|((first|apply gI_dec|apply gG_dec|apply gPG_dec|apply gI_var|apply gG_var|apply gPG_var)<;>intro _))
  exact weak_to [(0,0)] 1 hn rfl rfl rfl (by simp[renH,aget_cons,renO,vrenL,vren])
theorem chk_round {E:Env} (z:Int) (s k:Nat) (R:List (Bool × List Sti)) (X:Itp.Obj) (j b a e:Int) (Q2:V→VSt→Prop)
  (h0:e=0→Q2 (.sc (.bool true)) ⟨[(4,.box 186 1 [iN b,iN a,iN e]),(2,recO 0),(1,.box 28 1 [iN 0]),(0,chB z s k R)],5,0⟩)
  (h1:e ≠ 0→Q2 (.sc (.bool false)) ⟨[(4,.box 186 1 [iN b,iN a,iN e]),(2,recO 2),(1,.box 28 1 [iN e]),(0,chB z s k R)],5,0⟩):
  RoundV E c76a0 c76b0 [(2,.ptr 1 0)] [19,20] 2 [iN j,.agg [iN b,iN a,iN e]] ⟨[(4,.box 186 1 [iN b,iN a,iN e]),(3,X),(2,recO 0),(1,.box 28 1 [iN 0]),(0,chB z s k R)],5,0⟩ Q2:=by
 refine ⟨Nat.zero_le _,rfl,(by show (2:Nat)<5;decide),_,rfl,fun C4 h4c h4n=>?_⟩
 repeat' (first|(simp (disch:=try exact z0z) only[WA,slotsL,opdsA,Nat.reduceEqDiff,Nat.reduceLT,Nat.reduceAdd,Nat.reduceBEq,Int.reduceAdd,Int.reduceSub,Int.reduceLT,Int.reduceLE,Int.reduceEq,Int.reduceNeg,↓reduceIte,reduceCtorEq,List.replicate,c76a0])|apply gC_drawW|((first|apply gI_dec|apply gG_dec|apply gPG_dec|apply gI_var|apply gG_var|apply gPG_var)<;>intro _))
 refine ⟨trivial,Nat.zero_le _,trivial,?_⟩
 by_cases he:e=0
 ·subst he
  repeat' (first|(simp (disch:=try exact z0z) only[WA,slotsL,opdsA,Nat.reduceEqDiff,Nat.reduceLT,Nat.reduceAdd,Nat.reduceBEq,Int.reduceAdd,Int.reduceSub,Int.reduceLT,Int.reduceLE,Int.reduceEq,Int.reduceNeg,↓reduceIte,reduceCtorEq,List.replicate,c76b0])|apply gC_drawW|((first|apply gI_dec|apply gG_dec|apply gPG_dec|apply gI_var|apply gG_var|apply gPG_var)<;>intro _))
  refine ⟨Nat.zero_le _,trivial,_,weak_toB [(4,4),(2,2),(1,1),(0,0)] 5 (by rw[h4n];exact Nat.le_refl _) rfl (by rw[h4n];rfl) rfl rfl,?_⟩
  exact h0 rfl
 ·repeat' (first|(simp (disch:=try exact z0z) only[WA,slotsL,opdsA,Nat.reduceEqDiff,Nat.reduceLT,Nat.reduceAdd,Nat.reduceBEq,Int.reduceAdd,Int.reduceSub,Int.reduceLT,Int.reduceLE,Int.reduceEq,Int.reduceNeg,↓reduceIte,reduceCtorEq,List.replicate,c76b0])|apply gC_drawW|((first|apply gI_dec|apply gG_dec|apply gPG_dec|apply gI_var|apply gG_var|apply gPG_var)<;>intro _))
  refine ⟨Nat.zero_le _,trivial,_,weak_toB [(4,4),(2,2),(1,1),(0,0)] 5 (by rw[h4n];exact Nat.le_refl _) rfl (by rw[h4n];rfl) rfl rfl,?_⟩
  exact h1 he
end
section
variable (w:World) (n:Nat)
theorem check26_p (s k:Nat) (hs:s ≠ 1) (z:Int) (R:List (Bool × List Sti)) (hc:R.length≤140737488351232) (hK:KOKR R):VSpec (EN w (n+9)) 76 [chartV s k (z,R)] (iN (chkC (z,R))) ⟨[],0,0⟩:=by
 have hil:=rowsD_len k R
 unfold chkC
 simp only
 refine vspec_flat rfl rfl (fun _ _=>rfl) (Nat.le_of_ble_eq_true rfl) (oldVals w) rfl fun C hC h0=>?_
 by_cases e1:100<R.length
 ·rw[if_pos e1]
  repeat' (first|(simp (disch:=try exact z0z) only[WA,slotsL,opdsA,Nat.reduceEqDiff,Nat.reduceLT,Nat.reduceAdd,Nat.reduceBEq,Int.reduceAdd,Int.reduceSub,Int.reduceLT,Int.reduceLE,Int.reduceEq,Int.reduceNeg,↓reduceIte,reduceCtorEq,List.replicate,c76])|apply gC_drawW|((first|apply gI_dec|apply gG_dec|apply gPG_dec|apply gI_var|apply gG_var|apply gPG_var)<;>intro _))
  all_goals try (exfalso;omega)
  exact weak_flat rfl h0 rfl
 rw[if_neg e1]
 by_cases e2:z<0
 ·rw[if_pos (Or.inl e2)]
  repeat' (first|(simp (disch:=try exact z0z) only[WA,slotsL,opdsA,Nat.reduceEqDiff,Nat.reduceLT,Nat.reduceAdd,Nat.reduceBEq,Int.reduceAdd,Int.reduceSub,Int.reduceLT,Int.reduceLE,Int.reduceEq,Int.reduceNeg,↓reduceIte,reduceCtorEq,List.replicate,c76])|apply gC_drawW|((first|apply gI_dec|apply gG_dec|apply gPG_dec|apply gI_var|apply gG_var|apply gPG_var)<;>intro _))
  all_goals try (exfalso;omega)
  exact weak_flat rfl h0 rfl
 by_cases e3:200<z
 ·rw[if_pos (Or.inr e3)]
  repeat' (first|(simp (disch:=try exact z0z) only[WA,slotsL,opdsA,Nat.reduceEqDiff,Nat.reduceLT,Nat.reduceAdd,Nat.reduceBEq,Int.reduceAdd,Int.reduceSub,Int.reduceLT,Int.reduceLE,Int.reduceEq,Int.reduceNeg,↓reduceIte,reduceCtorEq,List.replicate,c76])|apply gC_drawW|((first|apply gI_dec|apply gG_dec|apply gPG_dec|apply gI_var|apply gG_var|apply gPG_var)<;>intro _))
  all_goals try (exfalso;omega)
  exact weak_flat rfl h0 rfl
 rw[if_neg (fun h=>h.elim e2 e3)]
 have hct:=counted_p w (n+7) s k hs z R
 repeat' (first|(simp (disch:=try exact z0z) only[WA,slotsL,opdsA,Nat.reduceEqDiff,Nat.reduceLT,Nat.reduceAdd,Nat.reduceBEq,Int.reduceAdd,Int.reduceSub,Int.reduceLT,Int.reduceLE,Int.reduceEq,Int.reduceNeg,↓reduceIte,reduceCtorEq,List.replicate,c76])|apply gC_drawW|((first|apply gI_dec|apply gG_dec|apply gPG_dec|apply gI_var|apply gG_var|apply gPG_var)<;>intro _))
 all_goals try (exfalso;omega)
 refine callV_of (by rw[hC];exact hct) rfl rfl rfl ?_
 repeat' (first|(simp (disch:=try exact z0z) only[WA,slotsL,opdsA,Nat.reduceEqDiff,Nat.reduceLT,Nat.reduceAdd,Nat.reduceBEq,Int.reduceAdd,Int.reduceSub,Int.reduceLT,Int.reduceLE,Int.reduceEq,Int.reduceNeg,↓reduceIte,reduceCtorEq,List.replicate,vsh,shH,shO,vshL,fzSL,fzS])|apply gC_drawW|((first|apply gI_dec|apply gG_dec|apply gPG_dec|apply gI_var|apply gG_var|apply gPG_var)<;>intro _))
 refine g_rangeW (fr':= [(2,.ptr 1 0),(18,.fn 160 [] [.ptr 0 0])]) (st':=⟨[(1,.box 28 1 [iN 0]),(0,chB z s k R)],2,0⟩) (weak_to [(1,1),(2,0)] 2 h0 rfl rfl rfl rfl) ?_
 refine g_range hC rfl rfl rfl (Nat.le_of_ble_eq_true rfl) rfl (Nat.zero_le _) fun C2 h2n h2r h2p h2o hT=>?_
 repeat' (first|(simp (disch:=try exact z0z) only[WA,slotsL,opdsA,Nat.reduceEqDiff,Nat.reduceLT,Nat.reduceAdd,Nat.reduceBEq,Int.reduceAdd,Int.reduceSub,Int.reduceLT,Int.reduceLE,Int.reduceEq,Int.reduceNeg,↓reduceIte,reduceCtorEq,List.replicate,c160])|apply gC_drawW|((first|apply gI_dec|apply gG_dec|apply gPG_dec|apply gI_var|apply gG_var|apply gPG_var)<;>intro _))
 refine g_while (fun m fr st=>∃ (j:Nat) (y:Int),m=R.length - j∧j≤R.length∧rowsC z R=rowsC y (R.drop j)∧fr= [(0,.tok 2),(3,iN y),(12,.sl s R.length (rowsD k R)),(13,iN R.length),(14,iN j)]∧st=⟨cntH z s k R 0,3,0⟩) R.length ?_ ⟨_,_,.refl _ _,0,z,by omega,Nat.zero_le _,rfl,rfl,rfl⟩ ?_
 ·rw[h2r];unfold many;omega
 rintro m fr st ⟨j,y,rfl,hj,hinv,rfl,rfl⟩
 by_cases hlt:j<R.length
 case neg=>
  have:j=R.length:=by omega
  subst this
  rw[hinv,List.drop_length,rowsC]
  repeat' (first|(simp (disch:=try exact z0z) only[WA,slotsL,opdsA,Nat.reduceEqDiff,Nat.reduceLT,Nat.reduceAdd,Nat.reduceBEq,Int.reduceAdd,Int.reduceSub,Int.reduceLT,Int.reduceLE,Int.reduceEq,Int.reduceNeg,↓reduceIte,reduceCtorEq,List.replicate,c160l0])|apply gC_drawW|((first|apply gI_dec|apply gG_dec|apply gPG_dec|apply gI_var|apply gG_var|apply gPG_var)<;>intro _))
  all_goals try (exfalso;omega)
  refine ⟨fun i h=>(by cases h),Nat.zero_le _,0,.normal,rfl,rfl,?_⟩
  repeat' (first|(simp (disch:=try exact z0z) only[WA,slotsL,opdsA,Nat.reduceEqDiff,Nat.reduceLT,Nat.reduceAdd,Nat.reduceBEq,Int.reduceAdd,Int.reduceSub,Int.reduceLT,Int.reduceLE,Int.reduceEq,Int.reduceNeg,↓reduceIte,reduceCtorEq,List.replicate])|apply gC_drawW|((first|apply gI_dec|apply gG_dec|apply gPG_dec|apply gI_var|apply gG_var|apply gPG_var)<;>intro _))
  exact weak_flat rfl h0 rfl
 have hag:=rowsD_agg k R j hlt
 have hk:=hK.at hlt
 have hu:=suses_p w n k R[j]!.2 hk.2 hk.1
 have hm:=smakes_p w n k R[j]!.2 hk.2 hk.1
 rw[drop_row hlt] at hinv
 unfold usesF at hu
 unfold makesF at hm
 generalize hr:R[j]! =r at*
 obtain ⟨b,L⟩:=r
 simp only at hu hm hk
 by_cases q1:allF L=0
 case neg=>
  rw[hinv,rowsC_bad q1]
  rw[if_neg q1] at hu
  simp only
  generalize allF L=E at*
  repeat' (first|(simp (disch:=try exact z0z) only[WA,slotsL,opdsA,Nat.reduceEqDiff,Nat.reduceLT,Nat.reduceAdd,Nat.reduceBEq,Int.reduceAdd,Int.reduceSub,Int.reduceLT,Int.reduceLE,Int.reduceEq,Int.reduceNeg,↓reduceIte,reduceCtorEq,List.replicate,c160l0,hag])|apply gC_drawW|((first|apply gI_dec|apply gG_dec|apply gPG_dec|apply gI_var|apply gG_var|apply gPG_var)<;>intro _))
  all_goals try (exfalso;omega)
  refine callV_flat ((hu.flat rfl rfl).env h2p h2o) ?_
  repeat' (first|(simp (disch:=try exact z0z) only[WA,slotsL,opdsA,Nat.reduceEqDiff,Nat.reduceLT,Nat.reduceAdd,Nat.reduceBEq,Int.reduceAdd,Int.reduceSub,Int.reduceLT,Int.reduceLE,Int.reduceEq,Int.reduceNeg,↓reduceIte,reduceCtorEq,List.replicate,q1])|apply gC_drawW|((first|apply gI_dec|apply gG_dec|apply gPG_dec|apply gI_var|apply gG_var|apply gPG_var)<;>intro _))
  refine hT _ _ _ (chk_round z s k R _ j y 0 E _ (fun h=>absurd h q1) fun _=>?_)
  repeat' (first|(simp (disch:=try exact z0z) only[WA,slotsL,opdsA,Nat.reduceEqDiff,Nat.reduceLT,Nat.reduceAdd,Nat.reduceBEq,Int.reduceAdd,Int.reduceSub,Int.reduceLT,Int.reduceLE,Int.reduceEq,Int.reduceNeg,↓reduceIte,reduceCtorEq,List.replicate])|apply gC_drawW|((first|apply gI_dec|apply gG_dec|apply gPG_dec|apply gI_var|apply gG_var|apply gPG_var)<;>intro _))
  refine ⟨fun i h=>(by cases h),Nat.zero_le _,2,.ret,rfl,rfl,?_⟩
  repeat' (first|(simp (disch:=try exact z0z) only[WA,slotsL,opdsA,Nat.reduceEqDiff,Nat.reduceLT,Nat.reduceAdd,Nat.reduceBEq,Int.reduceAdd,Int.reduceSub,Int.reduceLT,Int.reduceLE,Int.reduceEq,Int.reduceNeg,↓reduceIte,reduceCtorEq,List.replicate])|apply gC_drawW|((first|apply gI_dec|apply gG_dec|apply gPG_dec|apply gI_var|apply gG_var|apply gPG_var)<;>intro _))
  exact weak_flat rfl h0 rfl
 rw[if_pos q1] at hu hm
 by_cases q2:sumS usedS L=y
 case neg=>
  rw[hinv,rowsC_cnt q1 q2]
  generalize sumS usedS L=U at*
  repeat' (first|(simp (disch:=try exact z0z) only[WA,slotsL,opdsA,Nat.reduceEqDiff,Nat.reduceLT,Nat.reduceAdd,Nat.reduceBEq,Int.reduceAdd,Int.reduceSub,Int.reduceLT,Int.reduceLE,Int.reduceEq,Int.reduceNeg,↓reduceIte,reduceCtorEq,List.replicate,c160l0,hag])|apply gC_drawW|((first|apply gI_dec|apply gG_dec|apply gPG_dec|apply gI_var|apply gG_var|apply gPG_var)<;>intro _))
  all_goals try (exfalso;omega)
  refine callV_flat ((hu.flat rfl rfl).env h2p h2o) ?_
  repeat' (first|(simp (disch:=try exact z0z) only[WA,slotsL,opdsA,Nat.reduceEqDiff,Nat.reduceLT,Nat.reduceAdd,Nat.reduceBEq,Int.reduceAdd,Int.reduceSub,Int.reduceLT,Int.reduceLE,Int.reduceEq,Int.reduceNeg,↓reduceIte,reduceCtorEq,List.replicate,q2])|apply gC_drawW|((first|apply gI_dec|apply gG_dec|apply gPG_dec|apply gI_var|apply gG_var|apply gPG_var)<;>intro _))
  refine hT _ _ _ (chk_round z s k R _ j y 0 26 _ (fun h=>absurd h (by decide)) fun _=>?_)
  repeat' (first|(simp (disch:=try exact z0z) only[WA,slotsL,opdsA,Nat.reduceEqDiff,Nat.reduceLT,Nat.reduceAdd,Nat.reduceBEq,Int.reduceAdd,Int.reduceSub,Int.reduceLT,Int.reduceLE,Int.reduceEq,Int.reduceNeg,↓reduceIte,reduceCtorEq,List.replicate])|apply gC_drawW|((first|apply gI_dec|apply gG_dec|apply gPG_dec|apply gI_var|apply gG_var|apply gPG_var)<;>intro _))
  refine ⟨fun i h=>(by cases h),Nat.zero_le _,2,.ret,rfl,rfl,?_⟩
  repeat' (first|(simp (disch:=try exact z0z) only[WA,slotsL,opdsA,Nat.reduceEqDiff,Nat.reduceLT,Nat.reduceAdd,Nat.reduceBEq,Int.reduceAdd,Int.reduceSub,Int.reduceLT,Int.reduceLE,Int.reduceEq,Int.reduceNeg,↓reduceIte,reduceCtorEq,List.replicate])|apply gC_drawW|((first|apply gI_dec|apply gG_dec|apply gPG_dec|apply gI_var|apply gG_var|apply gPG_var)<;>intro _))
  exact weak_flat rfl h0 rfl
 rw[rowsC_go q1 q2] at hinv
 generalize sumS usedS L=U at*
 subst q2
 repeat' (first|(simp (disch:=try exact z0z) only[WA,slotsL,opdsA,Nat.reduceEqDiff,Nat.reduceLT,Nat.reduceAdd,Nat.reduceBEq,Int.reduceAdd,Int.reduceSub,Int.reduceLT,Int.reduceLE,Int.reduceEq,Int.reduceNeg,↓reduceIte,reduceCtorEq,List.replicate,c160l0,hag])|apply gC_drawW|((first|apply gI_dec|apply gG_dec|apply gPG_dec|apply gI_var|apply gG_var|apply gPG_var)<;>intro _))
 all_goals try (exfalso;omega)
 refine callV_flat ((hu.flat rfl rfl).env h2p h2o) ?_
 repeat' (first|(simp (disch:=try exact z0z) only[WA,slotsL,opdsA,Nat.reduceEqDiff,Nat.reduceLT,Nat.reduceAdd,Nat.reduceBEq,Int.reduceAdd,Int.reduceSub,Int.reduceLT,Int.reduceLE,Int.reduceEq,Int.reduceNeg,↓reduceIte,reduceCtorEq,List.replicate])|apply gC_drawW|((first|apply gI_dec|apply gG_dec|apply gPG_dec|apply gI_var|apply gG_var|apply gPG_var)<;>intro _))
 refine callV_flat ((hm.flat rfl rfl).env h2p h2o) ?_
 repeat' (first|(simp (disch:=try exact z0z) only[WA,slotsL,opdsA,Nat.reduceEqDiff,Nat.reduceLT,Nat.reduceAdd,Nat.reduceBEq,Int.reduceAdd,Int.reduceSub,Int.reduceLT,Int.reduceLE,Int.reduceEq,Int.reduceNeg,↓reduceIte,reduceCtorEq,List.replicate])|apply gC_drawW|((first|apply gI_dec|apply gG_dec|apply gPG_dec|apply gI_var|apply gG_var|apply gPG_var)<;>intro _))
 refine hT _ _ _ (chk_round z s k R _ j U (sumS madeS L) 0 _ (fun _=>?_) (fun h=>absurd rfl h))
 repeat' (first|(simp (disch:=try exact z0z) only[WA,slotsL,opdsA,Nat.reduceEqDiff,Nat.reduceLT,Nat.reduceAdd,Nat.reduceBEq,Int.reduceAdd,Int.reduceSub,Int.reduceLT,Int.reduceLE,Int.reduceEq,Int.reduceNeg,↓reduceIte,reduceCtorEq,List.replicate])|apply gC_drawW|((first|apply gI_dec|apply gG_dec|apply gPG_dec|apply gI_var|apply gG_var|apply gPG_var)<;>intro _))
 exact ⟨R.length - (j+1),_,_,by omega,weak_toB [(2,2),(1,1),(0,0)] 3 (by rw[h2n];exact Nat.le_refl _) rfl (by rw[h2n];rfl) rfl rfl,j+1,sumS madeS L,rfl,by omega,hinv,rfl,rfl⟩
end
theorem appFull_in (nx t e b n c o k m:Nat) (base:Src) (new:List D) (fz:List Nat) (hm:m ≠ 0) (hc:n+m≤c):appFull nx t e b n c o k base (some (m,new,fz))=none:=by
 have h:Nat.blt c (n+m)=false:=by rw[← Bool.not_eq_true,Nat.blt_eq];omega
 simp only[appFull,h,Bool.and_false,Bool.false_and,Bool.false_eq_true,if_false]
 rw[if_neg (by rw[nbeq];exact hm)]
 split<;>rfl
theorem appRoom_lo (H:VHp) (nx ro t e b o k n c t' e' m:Nat) (g:Bool) (l new:List D) (hro:ro≤o) (he:e ≠ 0) (hm:m ≠ 0) (hok:okL new=true) (hle:n+m≤c) (hc:c≤1099511627776) (h2:(n+m)*b≤1099511627776) (hl:k+n*e+new.length≤l.length):
  appRoom ⟨H,nx,ro⟩ t e b o k n c (some (.row t' e' g false l)) (some (m,new,[]))=some (.ref o k (n+m) c,⟨aset H o (.row t' e' g false (l.take (k+n*e)++new++l.drop (k+n*e+new.length))),nx,ro⟩):=by
 simp only[appRoom,hok]
 have hb:Nat.ble ro o=true:=by rw[Nat.ble_eq];exact hro
 have h3:Nat.ble (n+m) room=true:=by rw[Nat.ble_eq];unfold room;omega
 have h4:Nat.ble ((n+m)*b) room=true:=by rw[Nat.ble_eq];exact h2
 have h5:Nat.blt c big=true:=by rw[Nat.blt_eq];unfold big;omega
 have h6:Nat.ble (n+m) c=true:=by rw[Nat.ble_eq];exact hle
 rw[if_pos (by simp[nbf.2 he,rowsB]),if_neg (by simp[hb,h3,h4,nbf.2 hm]),if_pos h5,if_pos (by rw[h6];simp[elemB])]
 rw[putL_mid _ _ _ hl,frozA_nil]
 rfl
def sti0:Sti:=⟨0,false,0,0⟩
abbrev z4:List Value:= [.int .u8 0,.bool false,.int .i64 0,.int .i64 0]
theorem rep_z4 (m:Nat):scD (rep z4 m)=stiD (List.replicate m sti0):=by
 induction m with
 |zero=>rfl
 |succ m ih=>
  have e1:scD (rep z4 (m+1))=scD z4++scD (rep z4 m):=by simp[rep,scD]
  rw[e1,ih,List.replicate_succ]
  simp[stiD,scD,sti0]
theorem rep_z4_ok (m:Nat):(rep z4 m).all scOK=true:=by
 induction m with
 |zero=>rfl
 |succ m ih=>
  have e:rep z4 (m+1)=z4++rep z4 m:=rfl
  rw[e,List.all_append,ih];rfl
theorem mkSliceV_sti (nx t c:Nat) (hc:c≤1000000):mkSliceV nx t 4 24 z4 (.sc (.int .i64 0)) (.sc (.int .i64 c))=some (.ref nx 0 0 c,some (.row t 4 false false (stiD (List.replicate c sti0))),[]):=by
 simp only[mkSliceV]
 rw[if_pos ⟨by omega,by omega,by unfold room;omega,by unfold room;omega,by rw[Int.toNat_natCast];exact rep_z4_ok c⟩,Int.toNat_natCast,rep_z4]
 rfl
theorem mkSliceV_stiN (nx t c:Nat) (hc:c≤1000000):mkSliceV nx t 4 24 z4 (.sc (.int .i64 c)) (.sc (.int .i64 c))=some (.ref nx 0 c c,some (.row t 4 false false (stiD (List.replicate c sti0))),[]):=by
 simp only[mkSliceV]
 rw[if_pos ⟨by omega,by omega,by unfold room;omega,by unfold room;omega,by rw[Int.toNat_natCast];exact rep_z4_ok c⟩,Int.toNat_natCast,rep_z4]
theorem oth_form {x:Sti} (h:StiP x):oth x=⟨x.kind,fS x.kind && !x.purl,if 0<fB1 x.kind then x.b else x.a,if 0<fB1 x.kind then x.a else x.b⟩:=by
 have hb:=h.bounds
 obtain ⟨k,p,a,b⟩:=x
 simp only at hb
 have hf:=(stiP_form (x:=⟨k,p,a,b⟩) hb.1 hb.2.1).1 h
 simp only at hf
 unfold oth
 simp only
 rcases (by omega:k=1∨k=2∨k=3∨k=4∨k=5∨k=6∨k=7∨k=8∨k=9∨k=10) with rfl|rfl|rfl|rfl|rfl|rfl|rfl|rfl|rfl|rfl
 all_goals
  cases p<;>simp[fS,fB1] at hf ⊢
theorem fB1_cases (k:Nat):fB1 k=0∨fB1 k=6:=by
 unfold fB1
 split
 ·exact .inr rfl
 ·exact .inr rfl
 ·exact .inl rfl
abbrev trnH (s:Nat) (L:List Sti) (A:List D) (j c:Nat):VHp:= [(3,recO 0),(2,.box 76 1 [tS s L]),(1,.box 76 1 [.ref 0 0 j c]),(0,.row 82 4 false false A)]
section
variable (w:World) (n:Nat)
theorem back_w {C:Ctx} {Q:V→VSt→Prop} (hC:C.E=EN w (n+1)) (s:Nat) (L:List Sti) (H:VHp) (nx:Nat) (hq:Q (.fn 169 [] [.ptr nx 0]) ⟨(nx,.box 76 1 [tS s L])::H,nx+1,0⟩):CallV C 128 [tS s L] ⟨H,nx,0⟩ Q:=by
 refine callV_w hC rfl rfl (fun _ _=>rfl) (Nat.le_of_ble_eq_true rfl) hq fun C' hC' hn=>?_
 repeat' (first|(simp (disch:=try exact z0z) only[WA,slotsL,opdsA,Nat.reduceEqDiff,Nat.reduceLT,Nat.reduceAdd,Nat.reduceBEq,Int.reduceAdd,Int.reduceSub,Int.reduceLT,Int.reduceLE,Int.reduceEq,Int.reduceNeg,↓reduceIte,reduceCtorEq,List.replicate,c128,frozA_none])|apply gC_drawW|((first|apply gI_dec|apply gG_dec|apply gPG_dec|apply gI_var|apply gG_var|apply gPG_var)<;>intro _))
 exact .refl _ _
theorem trn_round {E:Env} (hE:E=EN w (n+2)) (s:Nat) (L:List Sti) (A:List D) (j c:Nat) (i:Int) (x:Sti) (hx:StiP x) (hA:A.length=c*4) (hj:j<c) (hc:c≤1000000) (v1 v2:V) (Q2:V→VSt→Prop)
  (hgo:Q2 (.sc (.bool true)) ⟨trnH s L (A.take (j*4)++ [.sc (.int .u8 (oth x).kind),.sc (.bool (oth x).purl),.sc (.int .i64 (oth x).a),.sc (.int .i64 (oth x).b)]++A.drop (j*4+4)) (j+1) c,4,0⟩):
  RoundV E c81a0 c81b0 [(2,v1),(3,v2),(5,.ptr 1 0)] [20,21] 3 [iN i,stiV x] ⟨trnH s L A j c,4,0⟩ Q2:=by
 refine ⟨Nat.zero_le _,rfl,(by show (3:Nat)<4;decide),_,rfl,fun C4 h4c h4n=>?_⟩
 have hb:=hx.bounds
 rw[oth_form hx] at hgo
 have hfm:=forms_p w (n+1) x.kind hb.1 hb.2.1
 obtain ⟨k,p,a,b⟩:=x
 simp only at hb hfm hgo
 unfold formV at hfm
 simp only[List.map_cons,List.map_nil] at hfm
 generalize fS k=fs at*
 generalize fL k=fl at*
 have hb1:=fB1_cases k
 generalize fB1 k=fb at*
 repeat' (first|(simp (disch:=try exact z0z) only[WA,slotsL,opdsA,Nat.reduceEqDiff,Nat.reduceLT,Nat.reduceAdd,Nat.reduceBEq,Int.reduceAdd,Int.reduceSub,Int.reduceLT,Int.reduceLE,Int.reduceEq,Int.reduceNeg,↓reduceIte,reduceCtorEq,List.replicate,c81a0])|apply gC_drawW|((first|apply gI_dec|apply gG_dec|apply gPG_dec|apply gI_var|apply gG_var|apply gPG_var)<;>intro _))
 refine ⟨trivial,Nat.zero_le _,trivial,?_⟩
 repeat' (first|(simp (disch:=try exact z0z) only[WA,slotsL,opdsA,Nat.reduceEqDiff,Nat.reduceLT,Nat.reduceAdd,Nat.reduceBEq,Int.reduceAdd,Int.reduceSub,Int.reduceLT,Int.reduceLE,Int.reduceEq,Int.reduceNeg,↓reduceIte,reduceCtorEq,List.replicate,c81b0])|apply gC_drawW|((first|apply gI_dec|apply gG_dec|apply gPG_dec|apply gI_var|apply gG_var|apply gPG_var)<;>intro _))
 refine callV_flat (by rw[h4c,hE];exact hfm.flat rfl rfl) ?_
 rcases hb1 with rfl|rfl<;>cases fs
 ·repeat' (first|(simp (disch:=try exact z0z) only[WA,slotsL,opdsA,Nat.reduceEqDiff,Nat.reduceLT,Nat.reduceAdd,Nat.reduceBEq,Int.reduceAdd,Int.reduceSub,Int.reduceLT,Int.reduceLE,Int.reduceEq,Int.reduceNeg,↓reduceIte,reduceCtorEq,List.replicate,row1V_sti,appFull_in,appRoom_lo,Nat.zero_add,tn1,gt_iff_lt,Int.lt_irrefl,decide_false])|apply gC_drawW|((first|apply gI_dec|apply gG_dec|apply gPG_dec|apply gI_var|apply gG_var|apply gPG_var)<;>intro _))
  all_goals try (exfalso;omega)
  refine ⟨Nat.zero_le _,trivial,_,weak_toB [(3,3),(2,2),(1,1),(0,0)] 4 (by rw[h4n];exact Nat.le_refl _) rfl (by rw[h4n];rfl) rfl rfl,?_⟩
  exact hgo
 ·repeat' (first|(simp (disch:=try exact z0z) only[WA,slotsL,opdsA,Nat.reduceEqDiff,Nat.reduceLT,Nat.reduceAdd,Nat.reduceBEq,Int.reduceAdd,Int.reduceSub,Int.reduceLT,Int.reduceLE,Int.reduceEq,Int.reduceNeg,↓reduceIte,reduceCtorEq,List.replicate,row1V_sti,appFull_in,appRoom_lo,Nat.zero_add,tn1,gt_iff_lt,Int.lt_irrefl,decide_false])|apply gC_drawW|((first|apply gI_dec|apply gG_dec|apply gPG_dec|apply gI_var|apply gG_var|apply gPG_var)<;>intro _))
  all_goals try (exfalso;omega)
  refine ⟨Nat.zero_le _,trivial,_,weak_toB [(3,3),(2,2),(1,1),(0,0)] 4 (by rw[h4n];exact Nat.le_refl _) rfl (by rw[h4n];rfl) rfl rfl,?_⟩
  exact hgo
 ·repeat' (first|(simp (disch:=try exact z0z) only[WA,slotsL,opdsA,Nat.reduceEqDiff,Nat.reduceLT,Nat.reduceAdd,Nat.reduceBEq,Int.reduceAdd,Int.reduceSub,Int.reduceLT,Int.reduceLE,Int.reduceEq,Int.reduceNeg,↓reduceIte,reduceCtorEq,List.replicate,row1V_sti,appFull_in,appRoom_lo,Nat.zero_add,tn1,gt_iff_lt,Int.lt_irrefl,decide_false])|apply gC_drawW|((first|apply gI_dec|apply gG_dec|apply gPG_dec|apply gI_var|apply gG_var|apply gPG_var)<;>intro _))
  all_goals try (exfalso;omega)
  refine ⟨Nat.zero_le _,trivial,_,weak_toB [(3,3),(2,2),(1,1),(0,0)] 4 (by rw[h4n];exact Nat.le_refl _) rfl (by rw[h4n];rfl) rfl rfl,?_⟩
  exact hgo
 ·repeat' (first|(simp (disch:=try exact z0z) only[WA,slotsL,opdsA,Nat.reduceEqDiff,Nat.reduceLT,Nat.reduceAdd,Nat.reduceBEq,Int.reduceAdd,Int.reduceSub,Int.reduceLT,Int.reduceLE,Int.reduceEq,Int.reduceNeg,↓reduceIte,reduceCtorEq,List.replicate,row1V_sti,appFull_in,appRoom_lo,Nat.zero_add,tn1,gt_iff_lt,Int.lt_irrefl,decide_false])|apply gC_drawW|((first|apply gI_dec|apply gG_dec|apply gPG_dec|apply gI_var|apply gG_var|apply gPG_var)<;>intro _))
  all_goals try (exfalso;omega)
  refine ⟨Nat.zero_le _,trivial,_,weak_toB [(3,3),(2,2),(1,1),(0,0)] 4 (by rw[h4n];exact Nat.le_refl _) rfl (by rw[h4n];rfl) rfl rfl,?_⟩
  exact hgo
end
theorem snap_ref4 {H:VHp} {o c t n:Nat} {g z:Bool} {l:List D} (h:aget H o=some (.row t 4 g z l)) (hl:l.length=n*4):snapV H (.ref o 0 n c)=some (.sl 0 n l):=by
 simp only[snapV,toD,h,Nat.zero_add,List.drop_zero]
 rw[if_pos (by omega)]
 show some (V.sl 0 n (l.take (n*4)))=_
 rw[List.take_of_length_le (by omega)]
theorem trn_room (A:List Sti) (y:Sti) (c:Nat) (h:A.length<c):
  (stiD (A++List.replicate (c - A.length) sti0)).take (A.length*4)++ [.sc (.int .u8 y.kind),.sc (.bool y.purl),.sc (.int .i64 y.a),.sc (.int .i64 y.b)]++(stiD (A++List.replicate (c - A.length) sti0)).drop (A.length*4+4)=stiD ((A++ [y])++List.replicate (c - (A.length+1)) sti0):=by
 have e:c - A.length=(c - (A.length+1))+1:=by omega
 rw[e,List.replicate_succ,stiD_app,List.take_left' (stiD_len A),← List.drop_drop,List.drop_left' (stiD_len A),stiD_app,stiD_snoc]
 rfl
def turnF (L:List Sti):List Sti × Int:=if allF L=0 then (turnedL L,0) else ([],allF L)
abbrev sfV (p:List Sti × Int):V:= .tup [tS 3 p.1,iN p.2]
section
variable (w:World) (n:Nat)
theorem turn_p (s:Nat) (L:List Sti) (hL:L.length≤140737488351232) (hK:KOK L):VSpec (EN w (n+7)) 81 [tS s L] (sfV (turnF L)) ⟨[],0,0⟩:=by
 have ha:=sall_p w n s L hL hK
 unfold turnF
 refine vspec_g rfl rfl (fun _ _=>rfl) (Nat.le_of_ble_eq_true rfl) (oldVals w) retOK_fin rfl fun C hC h0=>?_
 by_cases e:allF L=0
 case neg=>
  rw[if_neg e]
  generalize allF L=E at*
  repeat' (first|(simp (disch:=try exact z0z) only[WA,slotsL,opdsA,Nat.reduceEqDiff,Nat.reduceLT,Nat.reduceAdd,Nat.reduceBEq,Int.reduceAdd,Int.reduceSub,Int.reduceLT,Int.reduceLE,Int.reduceEq,Int.reduceNeg,↓reduceIte,reduceCtorEq,List.replicate,c81])|apply gC_drawW|((first|apply gI_dec|apply gG_dec|apply gPG_dec|apply gI_var|apply gG_var|apply gPG_var)<;>intro _))
  refine callV_flat (by rw[hC];exact ha.flat rfl rfl) ?_
  repeat' (first|(simp (disch:=try exact z0z) only[WA,slotsL,opdsA,Nat.reduceEqDiff,Nat.reduceLT,Nat.reduceAdd,Nat.reduceBEq,Int.reduceAdd,Int.reduceSub,Int.reduceLT,Int.reduceLE,Int.reduceEq,Int.reduceNeg,↓reduceIte,reduceCtorEq,List.replicate,e])|apply gC_drawW|((first|apply gI_dec|apply gG_dec|apply gPG_dec|apply gI_var|apply gG_var|apply gPG_var)<;>intro _))
  exact weak_finNil h0 rfl
 rw[if_pos e]
 rw[e] at ha
 obtain ⟨l1,l2,_⟩:=allF_ok e
 have hmk:=fun nx t=>mkSliceV_sti nx t L.length (by omega)
 have hil:=stiD_len L
 repeat' (first|(simp (disch:=try exact z0z) only[WA,slotsL,opdsA,Nat.reduceEqDiff,Nat.reduceLT,Nat.reduceAdd,Nat.reduceBEq,Int.reduceAdd,Int.reduceSub,Int.reduceLT,Int.reduceLE,Int.reduceEq,Int.reduceNeg,↓reduceIte,reduceCtorEq,List.replicate,c81])|apply gC_drawW|((first|apply gI_dec|apply gG_dec|apply gPG_dec|apply gI_var|apply gG_var|apply gPG_var)<;>intro _))
 refine callV_flat (by rw[hC];exact ha.flat rfl rfl) ?_
 repeat' (first|(simp (disch:=try exact z0z) only[WA,slotsL,opdsA,Nat.reduceEqDiff,Nat.reduceLT,Nat.reduceAdd,Nat.reduceBEq,Int.reduceAdd,Int.reduceSub,Int.reduceLT,Int.reduceLE,Int.reduceEq,Int.reduceNeg,↓reduceIte,reduceCtorEq,List.replicate,hmk])|apply gC_drawW|((first|apply gI_dec|apply gG_dec|apply gPG_dec|apply gI_var|apply gG_var|apply gPG_var)<;>intro _))
 refine back_w w (n+5) hC s L _ _ ?_
 repeat' (first|(simp (disch:=try exact z0z) only[WA,slotsL,opdsA,Nat.reduceEqDiff,Nat.reduceLT,Nat.reduceAdd,Nat.reduceBEq,Int.reduceAdd,Int.reduceSub,Int.reduceLT,Int.reduceLE,Int.reduceEq,Int.reduceNeg,↓reduceIte,reduceCtorEq,List.replicate])|apply gC_drawW|((first|apply gI_dec|apply gG_dec|apply gPG_dec|apply gI_var|apply gG_var|apply gPG_var)<;>intro _))
 refine g_range hC rfl rfl rfl (Nat.le_of_ble_eq_true rfl) rfl (Nat.zero_le _) fun C2 h2n h2r h2p h2o hT=>?_
 repeat' (first|(simp (disch:=try exact z0z) only[WA,slotsL,opdsA,Nat.reduceEqDiff,Nat.reduceLT,Nat.reduceAdd,Nat.reduceBEq,Int.reduceAdd,Int.reduceSub,Int.reduceLT,Int.reduceLE,Int.reduceEq,Int.reduceNeg,↓reduceIte,reduceCtorEq,List.replicate,c169])|apply gC_drawW|((first|apply gI_dec|apply gG_dec|apply gPG_dec|apply gI_var|apply gG_var|apply gPG_var)<;>intro _))
 refine g_while (fun m fr st=>∃ (j:Nat),m=L.length - j∧j≤L.length∧fr= [(0,.tok 3),(1,.ptr 2 0),(3,iN ((L.length:Int) - 1 - j))]∧st=⟨trnH s L (stiD ((L.reverse.take j).map oth++List.replicate (L.length - j) sti0)) j L.length,4,0⟩) L.length ?_ ⟨_,_,.refl _ _,0,by omega,Nat.zero_le _,?_,rfl⟩ ?_
 ·rw[h2r];unfold many;omega
 ·simp
 rintro m fr st ⟨j,rfl,hj,rfl,rfl⟩
 by_cases hlt:j<L.length
 case neg=>
  have:j=L.length:=by omega
  subst this
  have e:(L.reverse.take L.length).map oth=turnedL L:=by unfold turnedL;rw[List.take_of_length_le (by simp)]
  rw[e,Nat.sub_self,List.replicate_zero,List.append_nil]
  have hl:=stiD_len (turnedL L)
  rw[turnedL_len] at hl
  have hl':=turnedL_len L
  generalize turnedL L=T at*
  repeat' (first|(simp (disch:=try exact z0z) only[WA,slotsL,opdsA,Nat.reduceEqDiff,Nat.reduceLT,Nat.reduceAdd,Nat.reduceBEq,Int.reduceAdd,Int.reduceSub,Int.reduceLT,Int.reduceLE,Int.reduceEq,Int.reduceNeg,↓reduceIte,reduceCtorEq,List.replicate,c169l0])|apply gC_drawW|((first|apply gI_dec|apply gG_dec|apply gPG_dec|apply gI_var|apply gG_var|apply gPG_var)<;>intro _))
  all_goals try (exfalso;omega)
  refine ⟨fun i h=>(by cases h),Nat.zero_le _,0,.normal,rfl,rfl,?_⟩
  repeat' (first|(simp (disch:=try exact z0z) only[WA,slotsL,opdsA,Nat.reduceEqDiff,Nat.reduceLT,Nat.reduceAdd,Nat.reduceBEq,Int.reduceAdd,Int.reduceSub,Int.reduceLT,Int.reduceLE,Int.reduceEq,Int.reduceNeg,↓reduceIte,reduceCtorEq,List.replicate])|apply gC_drawW|((first|apply gI_dec|apply gG_dec|apply gPG_dec|apply gI_var|apply gG_var|apply gPG_var)<;>intro _))
  show Weak _ _ _ [(0,.tup [.sl 3 T.length (stiD T),iN 0])] _
  rw[hl']
  exact weak_fin (snap_ref4 rfl hl) rfl (.inl (by decide)) h0 rfl
 have hst:=turnedL_step L j hlt
 have hag:=stiD_agg L (L.length - 1 - j) (by omega)
 have hdl:((L.reverse.take j).map oth).length=j:=by rw[List.length_map,List.length_take,List.length_reverse];omega
 have hix:((L.length:Int) - 1 - j)=((L.length - 1 - j:Nat):Int):=by omega
 have hin:((L.length:Int) - 1 - ((j+1:Nat):Int))=((L.length - 1 - j:Nat):Int) - 1:=by omega
 have hx:StiP L[L.length - 1 - j]! :=stiOK_iff.1 (List.all_eq_true.1 l2 _ (by rw[getElem!_pos L _ (by omega)];exact List.getElem_mem _))
 have hrm:=trn_room ((L.reverse.take j).map oth) (oth L[L.length - 1 - j]!) L.length (by omega)
 rw[← hst,hdl] at hrm
 have hAl:(stiD ((L.reverse.take j).map oth++List.replicate (L.length - j) sti0)).length=L.length*4:=by rw[stiD_len,List.length_append,hdl,List.length_replicate];congr 1;omega
 have hrd:=trn_round w (n+4) (E:=C.E) hC s L (stiD ((L.reverse.take j).map oth++List.replicate (L.length - j) sti0)) j L.length ((L.length - 1 - j:Nat):Int) L[L.length - 1 - j]! hx hAl hlt (by omega) (.sc (.slice none 0 0)) (iN 0)
 rw[hrm] at hrd
 rw[hix]
 have hi1:L.length - 1 - j<L.length:=by omega
 generalize L[L.length - 1 - j]! =x at*
 generalize hii:L.length - 1 - j=i at*
 repeat' (first|(simp (disch:=try exact z0z) only[WA,slotsL,opdsA,Nat.reduceEqDiff,Nat.reduceLT,Nat.reduceAdd,Nat.reduceBEq,Int.reduceAdd,Int.reduceSub,Int.reduceLT,Int.reduceLE,Int.reduceEq,Int.reduceNeg,↓reduceIte,reduceCtorEq,List.replicate,c169l0,hag])|apply gC_drawW|((first|apply gI_dec|apply gG_dec|apply gPG_dec|apply gI_var|apply gG_var|apply gPG_var)<;>intro _))
 all_goals try (exfalso;omega)
 refine hT _ _ _ (hrd _ ?_)
 repeat' (first|(simp (disch:=try exact z0z) only[WA,slotsL,opdsA,Nat.reduceEqDiff,Nat.reduceLT,Nat.reduceAdd,Nat.reduceBEq,Int.reduceAdd,Int.reduceSub,Int.reduceLT,Int.reduceLE,Int.reduceEq,Int.reduceNeg,↓reduceIte,reduceCtorEq,List.replicate])|apply gC_drawW|((first|apply gI_dec|apply gG_dec|apply gPG_dec|apply gI_var|apply gG_var|apply gPG_var)<;>intro _))
 exact ⟨L.length - (j+1),_,_,by omega,.refl _ _,j+1,rfl,by omega,by rw[hin],rfl⟩
end
theorem rowsC_all:∀ {R:List (Bool × List Sti)} {z:Int},rowsC z R=0→∀ r ∈ R,allF r.2=0
 | [],_,_,r,h=>by cases h
 |q::R,z,h,r,hr=>by
  by_cases h1:allF q.2=0
  case neg=>rw[rowsC_bad h1] at h;exact absurd h h1
  by_cases h2:sumS usedS q.2=z
  case neg=>rw[rowsC_cnt h1 h2] at h;cases h
  rw[rowsC_go h1 h2] at h
  rcases List.mem_cons.1 hr with rfl|h3
  ·exact h1
  ·exact rowsC_all h r h3
theorem chkC_ok {c:ChT} (h:chkC c=0):c.2.length≤100∧0≤c.1∧c.1≤200∧rowsC c.1 c.2=0:=by
 unfold chkC at h
 by_cases h1:100<c.2.length
 ·rw[if_pos h1] at h;cases h
 rw[if_neg h1] at h
 by_cases h2:c.1<0∨200<c.1
 ·rw[if_pos h2] at h;cases h
 rw[if_neg h2] at h
 exact ⟨by omega,by omega,by omega,h⟩
theorem chkC_row {c:ChT} (h:chkC c=0) {i:Nat} (hi:i<c.2.length):allF c.2[i]!.2=0:=rowsC_all (chkC_ok h).2.2.2 _ (by rw[getElem!_pos c.2 i hi];exact List.getElem_mem hi)
section
variable (w:World) (n:Nat)
theorem face_p (s k:Nat) (hs:s ≠ 1) (z:Int) (R:List (Bool × List Sti)) (hK:KOKR R) (i:Nat) (hi:i<R.length) (hkk:k=1∨k=2∨k=0∨0<R[i]!.2.length) (hck:chkC (z,R)=0):VSpec (EN w (n+10)) 32 [chartV s k (z,R),iN i] (sfV (seenF R[i]!,0)) ⟨[],0,0⟩:=by
 have hil:=rowsD_len k R
 have hR:=(chkC_ok hck).1
 simp only at hR
 have hcp:=check26_p w n s k hs z R (by omega) hK
 rw[hck] at hcp
 have h0r:=chkC_row hck hi
 simp only at h0r
 obtain ⟨l1,l2,_⟩:=allF_ok h0r
 have hkr:=hK.at hi
 have a0:=rowsD_at0 k R i hi
 have a1:=rowsD_at1 k R i hi
 generalize R[i]! =r at*
 obtain ⟨b,L⟩:=r
 simp only at*
 have ht:=turn_p w (n+2) k L hkr.2 hkr.1
 have hcl:=sclone1_p w (n+8) k L (by omega) hkk
 unfold turnF at ht
 rw[if_pos h0r] at ht
 refine vspec_g rfl rfl (fun _ _=>rfl) (Nat.le_of_ble_eq_true rfl) (oldVals w) retOK_fin rfl fun C hC h0=>?_
 unfold seenF
 cases b with
 |true=>
  rw[if_pos rfl]
  simp only
  repeat' (first|(simp (disch:=try exact z0z) only[WA,slotsL,opdsA,Nat.reduceEqDiff,Nat.reduceLT,Nat.reduceAdd,Nat.reduceBEq,Int.reduceAdd,Int.reduceSub,Int.reduceLT,Int.reduceLE,Int.reduceEq,Int.reduceNeg,↓reduceIte,reduceCtorEq,List.replicate,c32,a0,a1])|apply gC_drawW|((first|apply gI_dec|apply gG_dec|apply gPG_dec|apply gI_var|apply gG_var|apply gPG_var)<;>intro _))
  refine callV_flat (by rw[hC];exact hcp.flat rfl rfl) ?_
  repeat' (first|(simp (disch:=try exact z0z) only[WA,slotsL,opdsA,Nat.reduceEqDiff,Nat.reduceLT,Nat.reduceAdd,Nat.reduceBEq,Int.reduceAdd,Int.reduceSub,Int.reduceLT,Int.reduceLE,Int.reduceEq,Int.reduceNeg,↓reduceIte,reduceCtorEq,List.replicate,a0,a1])|apply gC_drawW|((first|apply gI_dec|apply gG_dec|apply gPG_dec|apply gI_var|apply gG_var|apply gPG_var)<;>intro _))
  all_goals try (exfalso;omega)
  refine callV_fin (by rw[hC];exact ht) rfl rfl (fun _=>rfl) ?_
  repeat' (first|(simp (disch:=try exact z0z) only[WA,slotsL,opdsA,Nat.reduceEqDiff,Nat.reduceLT,Nat.reduceAdd,Nat.reduceBEq,Int.reduceAdd,Int.reduceSub,Int.reduceLT,Int.reduceLE,Int.reduceEq,Int.reduceNeg,↓reduceIte,reduceCtorEq,List.replicate])|apply gC_drawW|((first|apply gI_dec|apply gG_dec|apply gPG_dec|apply gI_var|apply gG_var|apply gPG_var)<;>intro _))
  exact weak_to [] 0 h0 rfl rfl rfl rfl
 |false=>
  rw[if_neg (fun h=>by cases h)]
  simp only
  repeat' (first|(simp (disch:=try exact z0z) only[WA,slotsL,opdsA,Nat.reduceEqDiff,Nat.reduceLT,Nat.reduceAdd,Nat.reduceBEq,Int.reduceAdd,Int.reduceSub,Int.reduceLT,Int.reduceLE,Int.reduceEq,Int.reduceNeg,↓reduceIte,reduceCtorEq,List.replicate,c32,a0,a1])|apply gC_drawW|((first|apply gI_dec|apply gG_dec|apply gPG_dec|apply gI_var|apply gG_var|apply gPG_var)<;>intro _))
  refine callV_flat (by rw[hC];exact hcp.flat rfl rfl) ?_
  repeat' (first|(simp (disch:=try exact z0z) only[WA,slotsL,opdsA,Nat.reduceEqDiff,Nat.reduceLT,Nat.reduceAdd,Nat.reduceBEq,Int.reduceAdd,Int.reduceSub,Int.reduceLT,Int.reduceLE,Int.reduceEq,Int.reduceNeg,↓reduceIte,reduceCtorEq,List.replicate,a0,a1])|apply gC_drawW|((first|apply gI_dec|apply gG_dec|apply gPG_dec|apply gI_var|apply gG_var|apply gPG_var)<;>intro _))
  all_goals try (exfalso;omega)
  refine callV_fin (by rw[hC];exact hcl) rfl rfl (fun _=>rfl) ?_
  repeat' (first|(simp (disch:=try exact z0z) only[WA,slotsL,opdsA,Nat.reduceEqDiff,Nat.reduceLT,Nat.reduceAdd,Nat.reduceBEq,Int.reduceAdd,Int.reduceSub,Int.reduceLT,Int.reduceLE,Int.reduceEq,Int.reduceNeg,↓reduceIte,reduceCtorEq,List.replicate])|apply gC_drawW|((first|apply gI_dec|apply gG_dec|apply gPG_dec|apply gI_var|apply gG_var|apply gPG_var)<;>intro _))
  exact weak_to [] 0 h0 rfl rfl rfl rfl
end
abbrev z2:List Value:= [.bool false,.slice none 0 0]
def zrD (c:Nat):List D:=scD (rep z2 c)
theorem zrD_len (c:Nat):(zrD c).length=c*2:=by
 induction c with
 |zero=>rfl
 |succ m ih=>
  have e:zrD (m+1)=scD z2++zrD m:=by simp[zrD,rep,scD]
  rw[e,List.length_append,ih]
  show 2+m*2=(m+1)*2
  omega
theorem rep_z2_ok (m:Nat):(rep z2 m).all scOK=true:=by
 induction m with
 |zero=>rfl
 |succ m ih=>
  have e:rep z2 (m+1)=z2++rep z2 m:=rfl
  rw[e,List.all_append,ih];rfl
theorem mkSliceV_row (nx t c:Nat) (hc:c≤1000000):mkSliceV nx t 2 32 z2 (.sc (.int .i64 c)) (.sc (.int .i64 c))=some (.ref nx 0 c c,some (.row t 2 false false (zrD c)),[]):=by
 simp only[mkSliceV]
 rw[if_pos ⟨by omega,by omega,by unfold room;omega,by unfold room;omega,by rw[Int.toNat_natCast];exact rep_z2_ok c⟩,Int.toNat_natCast]
 rfl
theorem rowsD_app (k:Nat) (A B:List (Bool × List Sti)):rowsD k (A++B)=rowsD k A++rowsD k B:=by simp[rowsD]
theorem rowsD_ok (k:Nat) (R:List (Bool × List Sti)) (h:∀ r ∈ R,k ≠ 1∨r.2.length ≠ 0):okL (rowsD k R)=true:=by
 induction R with
 |nil=>rfl
 |cons r R ih=>
  have e:rowsD k (r::R)=rowC k r++rowsD k R:=by simp[rowsD]
  have h1:=ih fun x hx=>h x (List.mem_cons_of_mem _ hx)
  unfold okL at h1 ⊢
  rw[e,List.all_append,h1,Bool.and_true]
  have:=h r (List.mem_cons_self ..)
  simp only[rowC,List.all_cons,List.all_nil,okD,Bool.and_true,Bool.true_and,Bool.or_eq_true,Bool.not_eq_true',nbf]
  exact this
theorem dvL_app (A B:List D):dvL (A++B)=dvL A++dvL B:=by
 induction A with
 |nil=>rfl
 |cons a A ih=>simp only[List.cons_append,dvL,ih]
theorem dvL_len (A:List D):(dvL A).length=A.length:=by
 induction A with
 |nil=>rfl
 |cons a A ih=>simp only[List.length_cons,dvL,ih]
theorem vren_dvL (ρ:List (Nat × Nat)) (A:List D):vrenL ρ (dvL A)=dvL A:=by
 induction A with
 |nil=>rfl
 |cons a A ih=>cases a<;>simp only[dvL,dv,vrenL,vren,ih]
def twD (k:Nat) (R:List (Bool × List Sti)) (j:Nat):List D:=rowsD 0 (R.take j)++rowsD k (R.drop j)
theorem twD_len (k:Nat) (R:List (Bool × List Sti)) (j:Nat) (h:j≤R.length):(twD k R j).length=R.length*2:=by
 unfold twD
 rw[List.length_append,rowsD_len,rowsD_len,List.length_take,List.length_drop]
 omega
theorem twD_at (k:Nat) (R:List (Bool × List Sti)) (j:Nat) (h:j<R.length):twD k R j=rowsD 0 (R.take j)++ .sc (.bool R[j]!.1):: .sl k R[j]!.2.length (stiD R[j]!.2)::rowsD k (R.drop (j+1)):=by
 unfold twD
 rw[drop_row h]
 simp[rowsD,rowC]
theorem twD_next (k:Nat) (R:List (Bool × List Sti)) (j:Nat) (h:j<R.length):twD k R (j+1)=rowsD 0 (R.take j)++ .sc (.bool R[j]!.1):: .sl 0 R[j]!.2.length (stiD R[j]!.2)::rowsD k (R.drop (j+1)):=by
 unfold twD
 rw[List.take_succ_eq_append_getElem h,← getElem!_pos R j h,rowsD_app]
 simp[rowsD,rowC]
theorem twD_set (k:Nat) (R:List (Bool × List Sti)) (j:Nat) (h:j<R.length) (v:V):((dvL (twD k R j)).set (j*2+1) v).set (j*2+1) (.sl 0 R[j]!.2.length (stiD R[j]!.2))=dvL (twD k R (j+1)):=by
 have hl:(dvL (rowsD 0 (R.take j))).length=j*2:=by rw[dvL_len,rowsD_len,List.length_take];congr 1;omega
 rw[List.set_set,twD_at k R j h,twD_next k R j h,dvL_app,dvL_app]
 generalize dvL (rowsD 0 (R.take j))=A at*
 have e:∀ (t:List V) (u:V),(A++t).set (j*2+1) u=A++t.set 1 u:=fun t u=>by rw[List.set_append_right _ _ (by rw[hl];omega),hl,show j*2+1 - j*2=1 by omega]
 rw[e]
 rfl
section
variable (w:World) (n:Nat)
theorem twin_p (s k:Nat) (R:List (Bool × List Sti)) (hR:R.length≤100) (hL:∀ r ∈ R,r.2.length ≠ 0∧r.2.length≤1000):VSpec (EN w (n+1)) 88 [.sl s R.length (rowsD k R)] (.sl 3 R.length (rowsD 0 R)) ⟨[],0,0⟩:=by
 have hil:=rowsD_len k R
 have hok:=rowsD_ok k R fun r hr=> .inr (hL r hr).1
 have hmk:=fun nx t=>mkSliceV_row nx t R.length (by omega)
 have hzl:=zrD_len R.length
 refine vspec_g rfl rfl (fun _ _=>rfl) (Nat.le_of_ble_eq_true rfl) (oldVals w) retOK_sl3 rfl fun C hC h0=>?_
 have hrn:C.E.rounds=many:=by rw[hC,callP_rounds]
 repeat' (first|(simp (disch:=try exact z0z) only[WA,slotsL,opdsA,Nat.reduceEqDiff,Nat.reduceLT,Nat.reduceAdd,Nat.reduceBEq,Int.reduceAdd,Int.reduceSub,Int.reduceLT,Int.reduceLE,Int.reduceEq,Int.reduceNeg,↓reduceIte,reduceCtorEq,List.replicate,c88,hmk])|apply gC_drawW|((first|apply gI_dec|apply gG_dec|apply gPG_dec|apply gI_var|apply gG_var|apply gPG_var)<;>intro _))
 refine gS_copy _ 1 0 2 0 R.length _ _ _ _ _ _ (by
  rw[srcOf_sl _ _ _ _ _ (by omega)]
  exact copyF_eq _ 1 0 2 0 R.length _ 2 R.length _ (zrD R.length) (rowsD k R) (by omega) (by omega) hok (by omega)) ?_
 have hdr:rowsD k R++(zrD R.length).drop (rowsD k R).length=twD k R 0:=by
  rw[List.drop_eq_nil_of_le (by omega),List.append_nil];rfl
 rw[hdr]
 repeat' (first|(simp (disch:=try exact z0z) only[WA,slotsL,opdsA,Nat.reduceEqDiff,Nat.reduceLT,Nat.reduceAdd,Nat.reduceBEq,Int.reduceAdd,Int.reduceSub,Int.reduceLT,Int.reduceLE,Int.reduceEq,Int.reduceNeg,↓reduceIte,reduceCtorEq,List.replicate])|apply gC_drawW|((first|apply gI_dec|apply gG_dec|apply gPG_dec|apply gI_var|apply gG_var|apply gPG_var)<;>intro _))
 refine g_while (fun m fr st=>∃ (j:Nat),m=R.length - j∧j≤R.length∧fr= [(3,.ref 0 0 R.length R.length),(12,.sl s R.length (rowsD k R)),(13,iN R.length),(14,iN j)]∧st=⟨[(0,.box 80 2 (dvL (twD k R j)))],1,0⟩) R.length ?_ ⟨_,_,weak_rowbox (o:=0) rfl,0,by omega,Nat.zero_le _,rfl,rfl⟩ ?_
 ·rw[hrn];unfold many;omega
 rintro m fr st ⟨j,rfl,hj,rfl,rfl⟩
 by_cases hlt:j<R.length
 case neg=>
  have:j=R.length:=by omega
  subst this
  have e:twD k R R.length=rowsD 0 R:=by unfold twD;rw[List.take_length,List.drop_length];simp[rowsD]
  rw[e]
  have hok0:=rowsD_ok 0 R fun r hr=> .inl (by decide)
  have hil0:=rowsD_len 0 R
  repeat' (first|(simp (disch:=try exact z0z) only[WA,slotsL,opdsA,Nat.reduceEqDiff,Nat.reduceLT,Nat.reduceAdd,Nat.reduceBEq,Int.reduceAdd,Int.reduceSub,Int.reduceLT,Int.reduceLE,Int.reduceEq,Int.reduceNeg,↓reduceIte,reduceCtorEq,List.replicate,c88l0])|apply gC_drawW|((first|apply gI_dec|apply gG_dec|apply gPG_dec|apply gI_var|apply gG_var|apply gPG_var)<;>intro _))
  all_goals try (exfalso;omega)
  refine (weak_boxrow (o:=0) rfl hok0).trans ?_
  exact fin1 (snap_refE rfl hil0) rfl (.inl (by decide)) h0 rfl
 have hag:=rowsD_agg k R j hlt
 have htl:=twD_len k R j hj
 have hdl:=dvL_len (twD k R j)
 rw[htl] at hdl
 have hset:=twD_set k R j hlt
 have hLL:=hL R[j]! (by rw[getElem!_pos R j hlt];exact List.getElem_mem hlt)
 generalize R[j]! =r at*
 obtain ⟨b,L⟩:=r
 simp only at hag hset hLL
 have hsl:=stiD_len L
 have hsok:=stiD_ok L
 have hmk2:=fun nx t=>mkSliceV_stiN nx t L.length (by omega)
 generalize dvL (twD k R j)=X at*
 have hlg:∀ v:V,lget (X.set (j*2+1) v) (j*2+1)=some v:=fun v=>by rw[lget_eq,List.getElem?_set_self (by omega)]
 have hzs:=stiD_len (List.replicate L.length sti0)
 rw[List.length_replicate] at hzs
 repeat' (first|(simp (disch:=try exact z0z) only[WA,slotsL,opdsA,Nat.reduceEqDiff,Nat.reduceLT,Nat.reduceAdd,Nat.reduceBEq,Int.reduceAdd,Int.reduceSub,Int.reduceLT,Int.reduceLE,Int.reduceEq,Int.reduceNeg,↓reduceIte,reduceCtorEq,List.replicate,c88l0,hag,hmk2,hlg])|apply gC_drawW|((first|apply gI_dec|apply gG_dec|apply gPG_dec|apply gI_var|apply gG_var|apply gPG_var)<;>intro _))
 all_goals try (exfalso;omega)
 refine gS_copy _ 3 0 4 2 L.length _ _ _ _ _ _ (by
  rw[srcOf_sl _ _ _ _ _ (by omega)]
  exact copyF_eq _ 3 0 4 2 L.length _ 4 L.length _ _ (stiD L) (by omega) (by omega) hsok (by omega)) ?_
 rw[List.drop_eq_nil_of_le (by omega),List.append_nil]
 repeat' (first|(simp (disch:=try exact z0z) only[WA,slotsL,opdsA,Nat.reduceEqDiff,Nat.reduceLT,Nat.reduceAdd,Nat.reduceBEq,Int.reduceAdd,Int.reduceSub,Int.reduceLT,Int.reduceLE,Int.reduceEq,Int.reduceNeg,↓reduceIte,reduceCtorEq,List.replicate])|apply gC_drawW|((first|apply gI_dec|apply gG_dec|apply gPG_dec|apply gI_var|apply gG_var|apply gPG_var)<;>intro _))
 refine ⟨R.length - (j+1),_,_,by omega,?_,j+1,rfl,by omega,rfl,rfl⟩
 refine (weak_fzCell (o:=0) (g:=2) (k:=j*2+1) (u:= .ref 2 0 L.length L.length) (u':= .sl 0 L.length (stiD L)) rfl (by rw[← lget_eq];exact hlg _) rfl rfl (by decide) (same_fzE rfl hsl) rfl).trans ?_
 simp only[hset]
 exact weak_to [(0,0)] 1 h0 rfl rfl rfl (by
  simp[renH,aset,frozA,renO,vren_dvL,elemB,aget_cons,aget_nil])
end
theorem insD_take (M:List Ins) (k:Nat) (hk:k≤M.length):(insD M).take (k*7)=insD (M.take k):=by
 have h:insD M=insD (M.take k)++insD (M.drop k):=by rw[← insD_app,List.take_append_drop]
 rw[h,List.take_left' (by rw[insD_len,List.length_take];congr 1;omega)]
theorem insD_drop (M:List Ins) (k:Nat) (hk:k≤M.length):(insD M).drop (k*7)=insD (M.drop k):=by
 have h:insD M=insD (M.take k)++insD (M.drop k):=by rw[← insD_app,List.take_append_drop]
 rw[h,List.drop_left' (by rw[insD_len,List.length_take];congr 1;omega)]
theorem insD_set (M:List Ins) (k:Nat) (x:Ins) (hk:k<M.length):(insD M).take (k*7)++ [.sc (.int .u8 x.op),.sc (.bool x.right),.sc (.int .u8 x.bed),.sc (.int .i64 x.pos),.sc (.int .i64 x.to),.sc (.int .i64 x.car),.sc (.int .i64 x.rack)]++(insD M).drop (k*7+7)=insD (M.set k x):=by
 rw[insD_take M k (by omega),show k*7+7=(k+1)*7 by omega,insD_drop M (k+1) (by omega),← insD_snoc,← insD_app,List.set_eq_take_append_cons_drop,if_pos hk]
 congr 1
 simp
def rv (L:List Ins) (i:Nat):List Ins:=(List.range L.length).map fun k=>if k<i∨L.length - i≤k then L[L.length - 1 - k]! else L[k]!
theorem rv_len (L:List Ins) (i:Nat):(rv L i).length=L.length:=by simp[rv]
theorem rv_get (L:List Ins) (i k:Nat) (hk:k<L.length):(rv L i)[k]! =if k<i∨L.length - i≤k then L[L.length - 1 - k]! else L[k]! :=by
 rw[getElem!_pos _ k (by rw[rv_len];exact hk)]
 simp[rv]
theorem rv_zero (L:List Ins):rv L 0=L:=eqJ_of_all (rv_len L 0) fun k hk=>by rw[rv_get L 0 k hk,if_neg (by omega)]
theorem rev_get (L:List Ins) (k:Nat) (hk:k<L.length):L.reverse[k]! =L[L.length - 1 - k]! :=by
 rw[getElem!_pos _ k (by simpa using hk),List.getElem_reverse,getElem!_pos L (L.length - 1 - k) (by omega)]
theorem rv_end (L:List Ins) (i:Nat) (h:L.length≤2*i+1):rv L i=L.reverse:=eqJ_of_all (by rw[rv_len];simp) fun k hk=>by
 rw[List.length_reverse] at hk
 rw[rv_get L i k hk,rev_get L k hk]
 by_cases h1:k<i∨L.length - i≤k
 ·rw[if_pos h1]
 ·rw[if_neg h1]
  congr 1
  omega
theorem rv_step (L:List Ins) (i:Nat) (h:i+i+1<L.length):((rv L i).set i L[L.length - 1 - i]!).set (L.length - 1 - i) L[i]! =rv L (i+1):=eqJ_of_all (by simp[rv_len]) fun k hk=>by
 rw[rv_len] at hk
 rw[rv_get L (i+1) k hk,getElem!_pos _ k (by simp[rv_len];exact hk),List.getElem_set,List.getElem_set]
 by_cases h1:L.length - 1 - i=k
 ·rw[if_pos h1,if_pos (by omega)]
  congr 1
  omega
 rw[if_neg h1]
 by_cases h2:i=k
 ·subst h2
  rw[if_pos rfl,if_pos (by omega)]
 rw[if_neg h2]
 have:=rv_get L i k hk
 rw[getElem!_pos _ k (by rw[rv_len];exact hk)] at this
 rw[this]
 by_cases h3:k<i∨L.length - i≤k
 ·rw[if_pos h3,if_pos (by omega)]
 ·rw[if_neg h3,if_neg (by omega)]
section
variable (w:World) (n:Nat)
theorem reverse_w {C:Ctx} {Q:V→VSt→Prop} (hC:C.E=EN w (n+1)) (L:List Ins) (hL:L.length≤1000000) (H:VHp) (o nx:Nat) (hq:Q (.tup []) ⟨(o,.gro 54 7 false (insD L.reverse))::H,nx,0⟩):
  CallV C 78 [.gr 2 o L.length] ⟨(o,.gro 54 7 false (insD L))::H,nx,0⟩ Q:=by
 refine callV_w hC rfl rfl (fun _ _=>rfl) (Nat.le_of_ble_eq_true rfl) hq fun C' hC' hn=>?_
 repeat' (first|(simp (disch:=try exact z0z) only[WA,slotsL,opdsA,Nat.reduceEqDiff,Nat.reduceLT,Nat.reduceAdd,Nat.reduceBEq,Int.reduceAdd,Int.reduceSub,Int.reduceLT,Int.reduceLE,Int.reduceEq,Int.reduceNeg,↓reduceIte,reduceCtorEq,List.replicate,c78])|apply gC_drawW|((first|apply gI_dec|apply gG_dec|apply gPG_dec|apply gI_var|apply gG_var|apply gPG_var)<;>intro _))
 refine g_while (fun m fr st=>∃ (i:Nat),m=L.length - i∧i≤L.length∧fr= [(0,.gr 2 o L.length),(2,iN i),(3,iN ((L.length:Int) - 1 - i))]∧st=⟨(o,.gro 54 7 false (insD (rv L i)))::H,nx,0⟩) L.length ?_ ⟨_,_,.refl _ _,0,by omega,Nat.zero_le _,by simp,by rw[rv_zero]⟩ ?_
 ·rw[hC',callP_rounds];unfold many;omega
 rintro m fr st ⟨i,rfl,hi,rfl,rfl⟩
 by_cases hlt:i+i+1<L.length
 case neg=>
  rw[rv_end L i (by omega)]
  repeat' (first|(simp (disch:=try exact z0z) only[WA,slotsL,opdsA,Nat.reduceEqDiff,Nat.reduceLT,Nat.reduceAdd,Nat.reduceBEq,Int.reduceAdd,Int.reduceSub,Int.reduceLT,Int.reduceLE,Int.reduceEq,Int.reduceNeg,↓reduceIte,reduceCtorEq,List.replicate,c78l0])|apply gC_drawW|((first|apply gI_dec|apply gG_dec|apply gPG_dec|apply gI_var|apply gG_var|apply gPG_var)<;>intro _))
  all_goals try (exfalso;omega)
  exact .refl _ _
 have hst:=rv_step L i hlt
 have hil:=insD_len (rv L i)
 have a1:=insD_agg (rv L i) i (by rw[rv_len];omega)
 have a2:=insD_agg (rv L i) (L.length - 1 - i) (by rw[rv_len];omega)
 rw[rv_get L i _ (by omega),if_neg (by omega)] at a1 a2
 have p1:=insD_set (rv L i) i L[L.length - 1 - i]! (by rw[rv_len];omega)
 have p2:=insD_set ((rv L i).set i L[L.length - 1 - i]!) (L.length - 1 - i) L[i]! (by simp[rv_len];omega)
 have hil2:=insD_len ((rv L i).set i L[L.length - 1 - i]!)
 rw[hst] at p2
 rw[rv_len] at hil
 rw[List.length_set,rv_len] at hil2
 have hix:((L.length:Int) - 1 - i)=((L.length - 1 - i:Nat):Int):=by omega
 have hin:((L.length:Int) - 1 - ((i+1:Nat):Int))=((L.length - 1 - i:Nat):Int) - 1:=by omega
 rw[hix]
 have hj1:L.length - 1 - i<L.length:=by omega
 have hj2:i<L.length - 1 - i:=by omega
 unfold insV at a1 a2
 generalize insD ((rv L i).set i L[L.length - 1 - i]!)=B at*
 generalize insD (rv L i)=A at*
 generalize L[L.length - 1 - i]! =y at*
 generalize L[i]! =x at*
 obtain ⟨xo,xr,xb,xp,xt,xc,xk⟩:=x
 obtain ⟨yo,yr,yb,yp,yt,yc,yk⟩:=y
 simp only[insC,List.map_cons,List.map_nil] at a1 a2 p1 p2
 generalize hjj:L.length - 1 - i=j at*
 repeat' (first|(simp (disch:=try exact z0z) only[WA,slotsL,opdsA,Nat.reduceEqDiff,Nat.reduceLT,Nat.reduceAdd,Nat.reduceBEq,Int.reduceAdd,Int.reduceSub,Int.reduceLT,Int.reduceLE,Int.reduceEq,Int.reduceNeg,↓reduceIte,reduceCtorEq,List.replicate,c78l0,a1,a2,vd_store7,dStoreA_eq,dStAO_gro7,p1,stO_gro7,p2])|apply gC_drawW|((first|apply gI_dec|apply gG_dec|apply gPG_dec|apply gI_var|apply gG_var|apply gPG_var)<;>intro _))
 all_goals try (exfalso;omega)
 exact ⟨L.length - (i+1),_,_,by omega,.refl _ _,i+1,rfl,by omega,by rw[hin];rfl,rfl⟩
end
def bN (b:Bool):Nat:=if b then 1 else 0
def bedD (B:List Bool):List D:=B.map fun b=> .sc (.int .u8 (bN b))
def bedQ (B:List Bool) (F:List Sti) (j:Nat):List Bool:=(List.range B.length).map fun k=>if k<j∧F[k]!.kind=1 then F[k]!.purl else B[k]!
def xfP (B:List Bool) (F:List Sti) (k:Nat):Bool:=decide (F[k]!.kind=1) && (B[k]! !=F[k]!.purl)
def xfI (B:List Bool) (k:Nat):Ins:=⟨7,false,bN B[k]!,k,k,0,0⟩
def xf (B:List Bool) (F:List Sti) (j:Nat):List Ins:=((List.range j).filter (xfP B F)).map (xfI B)
def rwI (odd:Bool) (B:List Bool) (F:List Sti) (k:Nat):Ins:=⟨if F[k]!.kind=1 then 3 else 5,odd,bN B[k]!,k,0,1,0⟩
def rwL (odd:Bool) (B:List Bool) (F:List Sti) (j:Nat):List Ins:=(List.range j).map (rwI odd B F)
def dirL (i:Nat) (L:List Ins):List Ins:=if i % 2=0 then L.reverse else L
def rowI (i:Nat) (B:List Bool) (F:List Sti):List Ins:=xf B F F.length++dirL i (rwL (decide (i % 2=1)) (bedQ B F F.length) F F.length)
def rowsI:Nat→List Bool→List (Bool × List Sti)→List Ins
 |_,_,[]=> []
 |i,B,r::R=>rowI i B (seenF r)++rowsI (i+1) (bedQ B (seenF r) (seenF r).length) R
def castI (k:Nat):Ins:=⟨3,true,0,k,0,1,0⟩
def in1:Ins:=⟨1,false,0,0,0,1,0⟩
def castL (k:Nat):List Ins:=in1::(List.range k).map castI
def compL (z:Nat) (R:List (Bool × List Sti)):List Ins:=castL z++rowsI 0 (List.replicate z false) R
def compF (c:ChT):List Ins × Int:=if chkC c ≠ 0 then ([],chkC c) else if plnF c=true then (if 2000<(compL c.1.toNat c.2).length then ([],4) else (compL c.1.toNat c.2,0)) else ([],2)
theorem bedQ_len (B:List Bool) (F:List Sti) (j:Nat):(bedQ B F j).length=B.length:=by simp[bedQ]
theorem bedQ_get (B:List Bool) (F:List Sti) (j k:Nat) (hk:k<B.length):(bedQ B F j)[k]! =if k<j∧F[k]!.kind=1 then F[k]!.purl else B[k]! :=by
 rw[getElem!_pos _ k (by rw[bedQ_len];exact hk)]
 simp[bedQ]
theorem eqB_of_all {a l:List Bool} (h:a.length=l.length) (ha:∀ j,j<l.length→a[j]! =l[j]!):a=l:=by
 apply List.ext_getElem h
 intro j h1 h2
 have:=ha j h2
 rwa [getElem!_pos a j h1,getElem!_pos l j h2] at this
theorem bedQ_zero (B:List Bool) (F:List Sti):bedQ B F 0=B:=eqB_of_all (bedQ_len B F 0) fun k hk=>by rw[bedQ_get B F 0 k hk,if_neg (by omega)]
theorem set_get (B:List Bool) (j k:Nat) (b:Bool) (hk:k<B.length):(B.set j b)[k]! =if j=k then b else B[k]! :=by
 rw[getElem!_pos _ k (by simpa using hk),List.getElem_set,getElem!_pos B k hk]
theorem bedQ_knit (B:List Bool) (F:List Sti) (j:Nat) (hj:j<B.length) (h:F[j]!.kind=1):bedQ B F (j+1)=(bedQ B F j).set j F[j]!.purl:=eqB_of_all (by simp[bedQ_len]) fun k hk=>by
 have hk':k<B.length:=by simpa [bedQ_len] using hk
 rw[bedQ_get B F (j+1) k hk',set_get _ _ _ _ (by rw[bedQ_len];exact hk'),bedQ_get B F j k hk']
 by_cases e:j=k
 ·subst e;rw[if_pos rfl,if_pos ⟨by omega,h⟩]
 ·rw[if_neg e]
  by_cases h2:k<j∧F[k]!.kind=1
  ·rw[if_pos h2,if_pos ⟨by omega,h2.2⟩]
  ·rw[if_neg h2,if_neg (fun h3=>h2 ⟨by omega,h3.2⟩)]
theorem bedQ_slip (B:List Bool) (F:List Sti) (j:Nat) (hj:j<B.length) (h:F[j]!.kind ≠ 1):bedQ B F (j+1)=bedQ B F j:=eqB_of_all (by simp[bedQ_len]) fun k hk=>by
 have hk':k<B.length:=by simpa [bedQ_len] using hk
 rw[bedQ_get B F (j+1) k hk',bedQ_get B F j k hk']
 by_cases h2:k<j∧F[k]!.kind=1
 ·rw[if_pos h2,if_pos ⟨by omega,h2.2⟩]
 ·rw[if_neg h2,if_neg (fun h3=>h2 ⟨by rcases Nat.lt_succ_iff_lt_or_eq.1 h3.1 with h4|rfl;exact h4;exact absurd h3.2 h,h3.2⟩)]
theorem bedQ_at (B:List Bool) (F:List Sti) (j:Nat) (hj:j<B.length):(bedQ B F j)[j]! =B[j]! :=by rw[bedQ_get B F j j hj,if_neg (by omega)]
theorem bedQ_end (B:List Bool) (F:List Sti) (j m:Nat) (hj:j<B.length) (hm:j<m):(bedQ B F (j+1))[j]! =(bedQ B F m)[j]! :=by
 rw[bedQ_get B F (j+1) j hj,bedQ_get B F m j hj]
 by_cases h:F[j]!.kind=1
 ·rw[if_pos ⟨by omega,h⟩,if_pos ⟨hm,h⟩]
 ·rw[if_neg (fun x=>h x.2),if_neg (fun x=>h x.2)]
theorem xf_yes (B:List Bool) (F:List Sti) (j:Nat) (h:xfP B F j=true):xf B F (j+1)=xf B F j++ [xfI B j]:=by
 unfold xf
 rw[List.range_succ,List.filter_append,List.map_append]
 simp[h]
theorem xf_no (B:List Bool) (F:List Sti) (j:Nat) (h:xfP B F j=false):xf B F (j+1)=xf B F j:=by
 unfold xf
 rw[List.range_succ,List.filter_append,List.map_append]
 simp[h]
theorem rwL_succ (odd:Bool) (B:List Bool) (F:List Sti) (j:Nat):rwL odd B F (j+1)=rwL odd B F j++ [rwI odd B F j]:=by
 unfold rwL
 rw[List.range_succ,List.map_append];rfl
theorem rwL_len (odd:Bool) (B:List Bool) (F:List Sti) (j:Nat):(rwL odd B F j).length=j:=by simp[rwL]
theorem xf_len (B:List Bool) (F:List Sti) (j:Nat):(xf B F j).length≤j:=by
 unfold xf
 rw[List.length_map]
 exact Nat.le_trans (List.length_filter_le _ _) (by simp)
theorem dirL_len (i:Nat) (L:List Ins):(dirL i L).length=L.length:=by unfold dirL;split<;>simp
theorem rowI_len (i:Nat) (B:List Bool) (F:List Sti):(rowI i B F).length≤F.length+F.length:=by
 unfold rowI
 rw[List.length_append,dirL_len,rwL_len]
 have:=xf_len B F F.length
 omega
theorem castL_len (k:Nat):(castL k).length=k+1:=by simp[castL]
theorem castL_succ (k:Nat):castL (k+1)=castL k++ [castI k]:=by
 unfold castL
 rw[List.range_succ,List.map_append];rfl
theorem bedD_len (B:List Bool):(bedD B).length=B.length:=by simp[bedD]
theorem bedD_set (B:List Bool) (j:Nat) (b:Bool):(bedD B).set j (.sc (.int .u8 (bN b)))=bedD (B.set j b):=by simp[bedD,List.map_set]
theorem bedD_at (B:List Bool) (j:Nat) (hj:j<B.length):dload (bedD B) j none=some (.sc (.int .u8 (bN B[j]!))):=by
 unfold bedD
 rw[dload_map _ _ _ hj,getElem!_pos B j hj]
 rfl
theorem seenF_len (r:Bool × List Sti):(seenF r).length=r.2.length:=by unfold seenF;split;exact turnedL_len _;rfl
theorem sumS_pln:∀ {L:List Sti},L.all plnS=true→sumS usedS L=L.length∧sumS madeS L=L.length
 | [],_=>⟨rfl,rfl⟩
 |x::L,h=>by
  rw[List.all_cons,Bool.and_eq_true] at h
  obtain ⟨i1,i2⟩:=sumS_pln h.2
  have hx:usedS x=1∧madeS x=1:=by
   obtain ⟨k,p,a,b⟩:=x
   have:=h.1
   unfold plnS at this
   simp only[decide_eq_true_eq] at this
   rcases this with rfl|rfl<;>simp[usedS,madeS]
  simp only[sumS,hx.1,hx.2,i1,i2,List.length_cons]
  constructor<;>omega
theorem rowsC_pln:∀ {R:List (Bool × List Sti)} {z:Int},rowsC z R=0→plnR R=true→∀ r ∈ R,(r.2.length:Int)=z
 | [],_,_,_,r,h=>by cases h
 |q::R,z,h,hp,r,hr=>by
  by_cases h1:allF q.2=0
  case neg=>rw[rowsC_bad h1] at h;exact absurd h h1
  by_cases h2:sumS usedS q.2=z
  case neg=>rw[rowsC_cnt h1 h2] at h;cases h
  rw[rowsC_go h1 h2] at h
  have hp':q.2.all plnS=true∧plnR R=true:=by
   have:(q.2.all plnS && plnR R)=true:=hp
   simpa using this
  obtain ⟨s1,s2⟩:=sumS_pln hp'.1
  rcases List.mem_cons.1 hr with rfl|h3
  ·rw[← h2,s1]
  ·rw[rowsC_pln h hp'.2 r h3,s2,← s1,h2]
theorem seenF_pln {r:Bool × List Sti} (h:r.2.all plnS=true):(seenF r).all plnS=true:=by
 unfold seenF
 split
 ·unfold turnedL
  rw[List.all_map,List.all_reverse]
  rw[List.all_eq_true] at h ⊢
  intro x hx
  exact h x hx
 ·exact h
theorem rowsI_drop {R:List (Bool × List Sti)} {i:Nat} {B:List Bool} (hi:i<R.length):rowsI i B (R.drop i)=rowI i B (seenF R[i]!)++rowsI (i+1) (bedQ B (seenF R[i]!) (seenF R[i]!).length) (R.drop (i+1)):=by
 rw[drop_row hi];rfl
theorem b_and1 (i:Nat) (h:i<1000000) (r:Int) (hr:((i % 2:Nat):Int)=r):binA .and (.int .i64 i) (.int .i64 1)=some (.int .i64 r):=by
 subst hr
 have h1:(BitVec.ofInt 64 (i:Int) &&& BitVec.ofInt 64 1).toNat=i % 2:=by
  rw[BitVec.toNat_and,BitVec.toNat_ofInt,BitVec.toNat_ofInt]
  rw[show ((1:Int) % ((2 ^ 64:Nat):Int)).toNat=2 ^ 1 - 1 by decide,Nat.and_two_pow_sub_one_eq_mod]
  rw[show ((i:Int) % ((2 ^ 64:Nat):Int)).toNat=i by omega]
 simp only[binA,if_true]
 show some (Value.int .i64 (IntKind.i64.wrap ((BitVec.ofInt 64 (i:Int) &&& BitVec.ofInt 64 1).toNat:Int)))=_
 rw[h1]
 congr 2
 simp[IntKind.wrap,IntKind.bits,IntKind.signed]
 omega
abbrev outO (L:List Ins):Itp.Obj:= .gro 54 7 false (insD L)
abbrev bedO (B:List Bool):Itp.Obj:= .row 5 1 false false (bedD B)
section
variable (w:World) (n:Nat)
theorem cmp_row {C:Ctx} (hC:C.E=EN w (n+1)) (h0:C.w0.nx=0) (z:Int) (s k:Nat) (R:List (Bool × List Sti)) (rl:Int) (i:Nat) (hi:i<1000000) (B:List Bool) (F:List Sti) (acc:List Ins) (hF:F.length=B.length) (hp:F.all plnS=true) (hFl:F.length≤1000) (hacc:acc.length≤1000000) (v55:V) (h55:v55= .sc (.bool false)) (zB:Nat) (hzB:B.length=zB) {K:List KF} {P:VPost}
  (hgo:gK C K (.exit 4) [(1,.ptr 0 0),(5,.gr 2 1 (acc++xf B F F.length).length),(7,.ref 2 0 zB zB),(8,iN i),(11,.gr 2 3 F.length),(42,iN rl),(43,iN i),(52,tS 3 F),(53,iN F.length),(54,iN F.length),(55,v55)]
   ⟨[(3,outO (rwL (decide (i % 2=1)) (bedQ B F F.length) F F.length)),(2,bedO (bedQ B F F.length)),(1,outO (acc++xf B F F.length)),(0,chB z s k R)],4,0⟩ P):
  gL C [1,5,7,8,11,42,43,52,53,54] c30l0 K [(1,.ptr 0 0),(5,.gr 2 1 acc.length),(7,.ref 2 0 zB zB),(8,iN i),(11,.gr 2 3 0),(42,iN rl),(43,iN i),(52,tS 3 F),(53,iN F.length),(54,iN 0)]
   ⟨[(3,outO []),(2,bedO B),(1,outO acc),(0,chB z s k R)],4,0⟩ P:=by
 subst hzB
 have hrn:C.E.rounds=many:=by rw[hC,callP_rounds]
 have hfl:=stiD_len F
 have hpar:∃ od:Bool,decide (i % 2=1)=od∧binA .and (.int .i64 i) (.int .i64 1)=some (.int .i64 (if od then 1 else 0)):=by
  rcases Nat.mod_two_eq_zero_or_one i with h|h
  ·exact ⟨false,by rw[h];rfl,b_and1 i hi 0 (by rw[h];rfl)⟩
  ·exact ⟨true,by rw[h];rfl,b_and1 i hi 1 (by rw[h];rfl)⟩
 obtain ⟨od,hod,hbn⟩:=hpar
 rw[hod] at hgo
 clear hod
 refine g_while (fun m fr st=>∃ j:Nat,m=F.length - j∧j≤F.length∧fr= [(1,.ptr 0 0),(5,.gr 2 1 (acc++xf B F j).length),(7,.ref 2 0 B.length B.length),(8,iN i),(11,.gr 2 3 j),(42,iN rl),(43,iN i),(52,tS 3 F),(53,iN F.length),(54,iN j)]∧
  st=⟨[(3,outO (rwL od (bedQ B F F.length) F j)),(2,bedO (bedQ B F j)),(1,outO (acc++xf B F j)),(0,chB z s k R)],4,0⟩) F.length ?_ ⟨_,_,.refl _ _,0,by omega,Nat.zero_le _,by simp[xf],by simp[xf,rwL,bedQ_zero]⟩ ?_
 ·rw[hrn];unfold many;omega
 rintro mm fr st ⟨j,rfl,hj,rfl,rfl⟩
 by_cases hlt:j<F.length
 case neg=>
  have:j=F.length:=by omega
  subst this
  subst h55
  repeat' (first|(simp (disch:=try exact z0z) only[WA,slotsL,opdsA,Nat.reduceEqDiff,Nat.reduceLT,Nat.reduceAdd,Nat.reduceBEq,Int.reduceAdd,Int.reduceSub,Int.reduceLT,Int.reduceLE,Int.reduceEq,Int.reduceNeg,↓reduceIte,reduceCtorEq,List.replicate,c30l0])|apply gC_drawW|((first|apply gI_dec|apply gG_dec|apply gPG_dec|apply gI_var|apply gG_var|apply gPG_var)<;>intro _))
  exact hgo
 have hjB:j<B.length:=by omega
 have hag:=stiD_agg F j hlt
 have hb1:=bedD_at (bedQ B F j) j (by rw[bedQ_len];exact hjB)
 rw[bedQ_at B F j hjB] at hb1
 have hbl:=bedD_len (bedQ B F j)
 rw[bedQ_len] at hbl
 have hend:=bedQ_end B F j F.length hjB hlt
 have hb2:=bedD_at (bedQ B F (j+1)) j (by rw[bedQ_len];exact hjB)
 rw[hend] at hb2
 have hbl2:=bedD_len (bedQ B F (j+1))
 rw[bedQ_len] at hbl2
 have hrs:=rwL_succ od (bedQ B F F.length) F j
 have hrd:=insD_snoc (rwL od (bedQ B F F.length) F j) (rwI od (bedQ B F F.length) F j)
 rw[← hrs] at hrd
 have hrl:=insD_len (rwL od (bedQ B F F.length) F j)
 rw[rwL_len] at hrl
 have hal:=insD_len (acc++xf B F j)
 have hxl:=xf_len B F j
 have hxs:(acc++xf B F j).length≤1001000:=by rw[List.length_append];omega
 have had:=insD_snoc (acc++xf B F j) (xfI B j)
 have hbset:=fun b=>bedD_set (bedQ B F j) j b
 have hkn:=bedQ_knit B F j hjB
 have hsl:=bedQ_slip B F j hjB
 have hxy:=xf_yes B F j
 have hxn:=xf_no B F j
 have hpj:plnS F[j]! =true:=List.all_eq_true.1 hp _ (by rw[getElem!_pos F j hlt];exact List.getElem_mem hlt)
 unfold xfP at hxy hxn
 unfold rwI at hrd hrs
 unfold xfI at had
 have hfin:(bedQ B F F.length)[j]! =if F[j]!.kind=1 then F[j]!.purl else B[j]! :=by rw[bedQ_get _ _ _ _ hjB];simp[hlt]
 clear hgo hsl
 rw[hfin] at hrd hrs hb2
 generalize hxx:F[j]! =x at*
 obtain ⟨xk,xp,xa,xb⟩:=x
 have hk:xk=1∨xk=8:=by simpa [plnS] using hpj
 have hslp:=bedQ_slip B F j hjB
 rw[hxx] at hslp
 generalize hbb:B[j]! =b0 at*
 rcases hk with rfl|rfl
 ·have hkn':=hkn rfl
  simp only[if_true] at hrd hrs hfin hxy hxn hb2
  simp only[decide_true,Bool.true_and] at hxy hxn
  have hst:=hbset xp
  rw[← hkn'] at hst
  have hadd:(bne b0 xp)=true→insD (acc++xf B F (j+1))=insD (acc++xf B F j)++ [.sc (.int .u8 7),.sc (.bool false),.sc (.int .u8 (bN b0)),.sc (.int .i64 j),.sc (.int .i64 j),.sc (.int .i64 0),.sc (.int .i64 0)]:=fun h=>by
   rw[hxy h,← List.append_assoc,insD_snoc]
   unfold xfI
   rw[hbb]
   rfl
  cases xp<;>cases b0<;>cases od
  ·have hs0:(bedD (bedQ B F j)).set j (.sc (.int .u8 0))=bedD (bedQ B F (j+1)):=hst
   have hb0:dload (bedD (bedQ B F (j+1))) j none=some (.sc (.int .u8 0)):=hb2
   have hx0:=hxn rfl
   repeat' (first|(simp (disch:=try exact z0z) only[WA,slotsL,opdsA,Nat.reduceEqDiff,Nat.reduceLT,Nat.reduceAdd,Nat.reduceBEq,Int.reduceAdd,Int.reduceSub,Int.reduceLT,Int.reduceLE,Int.reduceEq,Int.reduceNeg,↓reduceIte,reduceCtorEq,List.replicate,c30l0,hag,hb1,bN,row1V_ins,hbn,hs0,hb0])|apply gC_drawW|((first|apply gI_dec|apply gG_dec|apply gPG_dec|apply gI_var|apply gG_var|apply gPG_var)<;>intro _))
   all_goals try (exfalso;omega)
   refine ⟨F.length - (j+1),_,_,by omega,weak_to [(6,3),(2,2),(1,1),(0,0)] 4 h0 rfl rfl rfl rfl,j+1,rfl,by omega,?_,?_⟩
   ·rw[hx0];rfl
   ·simp only[outO];rw[hrd,hx0];rfl
  ·have hs0:(bedD (bedQ B F j)).set j (.sc (.int .u8 0))=bedD (bedQ B F (j+1)):=hst
   have hb0:dload (bedD (bedQ B F (j+1))) j none=some (.sc (.int .u8 0)):=hb2
   have hx0:=hxn rfl
   repeat' (first|(simp (disch:=try exact z0z) only[WA,slotsL,opdsA,Nat.reduceEqDiff,Nat.reduceLT,Nat.reduceAdd,Nat.reduceBEq,Int.reduceAdd,Int.reduceSub,Int.reduceLT,Int.reduceLE,Int.reduceEq,Int.reduceNeg,↓reduceIte,reduceCtorEq,List.replicate,c30l0,hag,hb1,bN,row1V_ins,hbn,hs0,hb0])|apply gC_drawW|((first|apply gI_dec|apply gG_dec|apply gPG_dec|apply gI_var|apply gG_var|apply gPG_var)<;>intro _))
   all_goals try (exfalso;omega)
   refine ⟨F.length - (j+1),_,_,by omega,weak_to [(6,3),(2,2),(1,1),(0,0)] 4 h0 rfl rfl rfl rfl,j+1,rfl,by omega,?_,?_⟩
   ·rw[hx0];rfl
   ·simp only[outO];rw[hrd,hx0];rfl
  ·have hs0:(bedD (bedQ B F j)).set j (.sc (.int .u8 0))=bedD (bedQ B F (j+1)):=hst
   have hb0:dload (bedD (bedQ B F (j+1))) j none=some (.sc (.int .u8 0)):=hb2
   have hx0:=hxy rfl
   have hxl1:(acc++xf B F (j+1)).length=(acc++xf B F j).length+1:=by rw[hx0,← List.append_assoc,List.length_append];rfl
   repeat' (first|(simp (disch:=try exact z0z) only[WA,slotsL,opdsA,Nat.reduceEqDiff,Nat.reduceLT,Nat.reduceAdd,Nat.reduceBEq,Int.reduceAdd,Int.reduceSub,Int.reduceLT,Int.reduceLE,Int.reduceEq,Int.reduceNeg,↓reduceIte,reduceCtorEq,List.replicate,c30l0,hag,hb1,bN,row1V_ins,hbn,hs0,hb0])|apply gC_drawW|((first|apply gI_dec|apply gG_dec|apply gPG_dec|apply gI_var|apply gG_var|apply gPG_var)<;>intro _))
   all_goals try (exfalso;omega)
   refine ⟨F.length - (j+1),_,_,by omega,weak_to [(8,3),(2,2),(6,1),(0,0)] 4 h0 rfl rfl rfl rfl,j+1,rfl,by omega,?_,?_⟩
   ·rw[hxl1];rfl
   ·simp only[outO];rw[hrd,hadd rfl];rfl
  ·have hs0:(bedD (bedQ B F j)).set j (.sc (.int .u8 0))=bedD (bedQ B F (j+1)):=hst
   have hb0:dload (bedD (bedQ B F (j+1))) j none=some (.sc (.int .u8 0)):=hb2
   have hx0:=hxy rfl
   have hxl1:(acc++xf B F (j+1)).length=(acc++xf B F j).length+1:=by rw[hx0,← List.append_assoc,List.length_append];rfl
   repeat' (first|(simp (disch:=try exact z0z) only[WA,slotsL,opdsA,Nat.reduceEqDiff,Nat.reduceLT,Nat.reduceAdd,Nat.reduceBEq,Int.reduceAdd,Int.reduceSub,Int.reduceLT,Int.reduceLE,Int.reduceEq,Int.reduceNeg,↓reduceIte,reduceCtorEq,List.replicate,c30l0,hag,hb1,bN,row1V_ins,hbn,hs0,hb0])|apply gC_drawW|((first|apply gI_dec|apply gG_dec|apply gPG_dec|apply gI_var|apply gG_var|apply gPG_var)<;>intro _))
   all_goals try (exfalso;omega)
   refine ⟨F.length - (j+1),_,_,by omega,weak_to [(8,3),(2,2),(6,1),(0,0)] 4 h0 rfl rfl rfl rfl,j+1,rfl,by omega,?_,?_⟩
   ·rw[hxl1];rfl
   ·simp only[outO];rw[hrd,hadd rfl];rfl
  ·have hs0:(bedD (bedQ B F j)).set j (.sc (.int .u8 1))=bedD (bedQ B F (j+1)):=hst
   have hb0:dload (bedD (bedQ B F (j+1))) j none=some (.sc (.int .u8 1)):=hb2
   have hx0:=hxy rfl
   have hxl1:(acc++xf B F (j+1)).length=(acc++xf B F j).length+1:=by rw[hx0,← List.append_assoc,List.length_append];rfl
   repeat' (first|(simp (disch:=try exact z0z) only[WA,slotsL,opdsA,Nat.reduceEqDiff,Nat.reduceLT,Nat.reduceAdd,Nat.reduceBEq,Int.reduceAdd,Int.reduceSub,Int.reduceLT,Int.reduceLE,Int.reduceEq,Int.reduceNeg,↓reduceIte,reduceCtorEq,List.replicate,c30l0,hag,hb1,bN,row1V_ins,hbn,hs0,hb0])|apply gC_drawW|((first|apply gI_dec|apply gG_dec|apply gPG_dec|apply gI_var|apply gG_var|apply gPG_var)<;>intro _))
   all_goals try (exfalso;omega)
   refine ⟨F.length - (j+1),_,_,by omega,weak_to [(8,3),(2,2),(6,1),(0,0)] 4 h0 rfl rfl rfl rfl,j+1,rfl,by omega,?_,?_⟩
   ·rw[hxl1];rfl
   ·simp only[outO];rw[hrd,hadd rfl];rfl
  ·have hs0:(bedD (bedQ B F j)).set j (.sc (.int .u8 1))=bedD (bedQ B F (j+1)):=hst
   have hb0:dload (bedD (bedQ B F (j+1))) j none=some (.sc (.int .u8 1)):=hb2
   have hx0:=hxy rfl
   have hxl1:(acc++xf B F (j+1)).length=(acc++xf B F j).length+1:=by rw[hx0,← List.append_assoc,List.length_append];rfl
   repeat' (first|(simp (disch:=try exact z0z) only[WA,slotsL,opdsA,Nat.reduceEqDiff,Nat.reduceLT,Nat.reduceAdd,Nat.reduceBEq,Int.reduceAdd,Int.reduceSub,Int.reduceLT,Int.reduceLE,Int.reduceEq,Int.reduceNeg,↓reduceIte,reduceCtorEq,List.replicate,c30l0,hag,hb1,bN,row1V_ins,hbn,hs0,hb0])|apply gC_drawW|((first|apply gI_dec|apply gG_dec|apply gPG_dec|apply gI_var|apply gG_var|apply gPG_var)<;>intro _))
   all_goals try (exfalso;omega)
   refine ⟨F.length - (j+1),_,_,by omega,weak_to [(8,3),(2,2),(6,1),(0,0)] 4 h0 rfl rfl rfl rfl,j+1,rfl,by omega,?_,?_⟩
   ·rw[hxl1];rfl
   ·simp only[outO];rw[hrd,hadd rfl];rfl
  ·have hs0:(bedD (bedQ B F j)).set j (.sc (.int .u8 1))=bedD (bedQ B F (j+1)):=hst
   have hb0:dload (bedD (bedQ B F (j+1))) j none=some (.sc (.int .u8 1)):=hb2
   have hx0:=hxn rfl
   repeat' (first|(simp (disch:=try exact z0z) only[WA,slotsL,opdsA,Nat.reduceEqDiff,Nat.reduceLT,Nat.reduceAdd,Nat.reduceBEq,Int.reduceAdd,Int.reduceSub,Int.reduceLT,Int.reduceLE,Int.reduceEq,Int.reduceNeg,↓reduceIte,reduceCtorEq,List.replicate,c30l0,hag,hb1,bN,row1V_ins,hbn,hs0,hb0])|apply gC_drawW|((first|apply gI_dec|apply gG_dec|apply gPG_dec|apply gI_var|apply gG_var|apply gPG_var)<;>intro _))
   all_goals try (exfalso;omega)
   refine ⟨F.length - (j+1),_,_,by omega,weak_to [(6,3),(2,2),(1,1),(0,0)] 4 h0 rfl rfl rfl rfl,j+1,rfl,by omega,?_,?_⟩
   ·rw[hx0];rfl
   ·simp only[outO];rw[hrd,hx0];rfl
  ·have hs0:(bedD (bedQ B F j)).set j (.sc (.int .u8 1))=bedD (bedQ B F (j+1)):=hst
   have hb0:dload (bedD (bedQ B F (j+1))) j none=some (.sc (.int .u8 1)):=hb2
   have hx0:=hxn rfl
   repeat' (first|(simp (disch:=try exact z0z) only[WA,slotsL,opdsA,Nat.reduceEqDiff,Nat.reduceLT,Nat.reduceAdd,Nat.reduceBEq,Int.reduceAdd,Int.reduceSub,Int.reduceLT,Int.reduceLE,Int.reduceEq,Int.reduceNeg,↓reduceIte,reduceCtorEq,List.replicate,c30l0,hag,hb1,bN,row1V_ins,hbn,hs0,hb0])|apply gC_drawW|((first|apply gI_dec|apply gG_dec|apply gPG_dec|apply gI_var|apply gG_var|apply gPG_var)<;>intro _))
   all_goals try (exfalso;omega)
   refine ⟨F.length - (j+1),_,_,by omega,weak_to [(6,3),(2,2),(1,1),(0,0)] 4 h0 rfl rfl rfl rfl,j+1,rfl,by omega,?_,?_⟩
   ·rw[hx0];rfl
   ·simp only[outO];rw[hrd,hx0];rfl
 ·have hkn':=hslp (fun h=>by cases h)
  simp only[show ¬ (8:Nat)=1 by decide,if_false] at hrd hrs hfin hb2
  have hx0:=hxn (by simp)
  cases xp<;>cases od
  ·repeat' (first|(simp (disch:=try exact z0z) only[WA,slotsL,opdsA,Nat.reduceEqDiff,Nat.reduceLT,Nat.reduceAdd,Nat.reduceBEq,Int.reduceAdd,Int.reduceSub,Int.reduceLT,Int.reduceLE,Int.reduceEq,Int.reduceNeg,↓reduceIte,reduceCtorEq,List.replicate,c30l0,hag,hb1,row1V_ins,hbn])|apply gC_drawW|((first|apply gI_dec|apply gG_dec|apply gPG_dec|apply gI_var|apply gG_var|apply gPG_var)<;>intro _))
   all_goals try (exfalso;omega)
   refine ⟨F.length - (j+1),_,_,by omega,weak_to [(6,3),(2,2),(1,1),(0,0)] 4 h0 rfl rfl rfl rfl,j+1,rfl,by omega,?_,?_⟩
   ·rw[hx0];rfl
   ·simp only[outO];rw[hrd,hx0,hkn'];rfl
  ·repeat' (first|(simp (disch:=try exact z0z) only[WA,slotsL,opdsA,Nat.reduceEqDiff,Nat.reduceLT,Nat.reduceAdd,Nat.reduceBEq,Int.reduceAdd,Int.reduceSub,Int.reduceLT,Int.reduceLE,Int.reduceEq,Int.reduceNeg,↓reduceIte,reduceCtorEq,List.replicate,c30l0,hag,hb1,row1V_ins,hbn])|apply gC_drawW|((first|apply gI_dec|apply gG_dec|apply gPG_dec|apply gI_var|apply gG_var|apply gPG_var)<;>intro _))
   all_goals try (exfalso;omega)
   refine ⟨F.length - (j+1),_,_,by omega,weak_to [(6,3),(2,2),(1,1),(0,0)] 4 h0 rfl rfl rfl rfl,j+1,rfl,by omega,?_,?_⟩
   ·rw[hx0];rfl
   ·simp only[outO];rw[hrd,hx0,hkn'];rfl
  ·repeat' (first|(simp (disch:=try exact z0z) only[WA,slotsL,opdsA,Nat.reduceEqDiff,Nat.reduceLT,Nat.reduceAdd,Nat.reduceBEq,Int.reduceAdd,Int.reduceSub,Int.reduceLT,Int.reduceLE,Int.reduceEq,Int.reduceNeg,↓reduceIte,reduceCtorEq,List.replicate,c30l0,hag,hb1,row1V_ins,hbn])|apply gC_drawW|((first|apply gI_dec|apply gG_dec|apply gPG_dec|apply gI_var|apply gG_var|apply gPG_var)<;>intro _))
   all_goals try (exfalso;omega)
   refine ⟨F.length - (j+1),_,_,by omega,weak_to [(6,3),(2,2),(1,1),(0,0)] 4 h0 rfl rfl rfl rfl,j+1,rfl,by omega,?_,?_⟩
   ·rw[hx0];rfl
   ·simp only[outO];rw[hrd,hx0,hkn'];rfl
  ·repeat' (first|(simp (disch:=try exact z0z) only[WA,slotsL,opdsA,Nat.reduceEqDiff,Nat.reduceLT,Nat.reduceAdd,Nat.reduceBEq,Int.reduceAdd,Int.reduceSub,Int.reduceLT,Int.reduceLE,Int.reduceEq,Int.reduceNeg,↓reduceIte,reduceCtorEq,List.replicate,c30l0,hag,hb1,row1V_ins,hbn])|apply gC_drawW|((first|apply gI_dec|apply gG_dec|apply gPG_dec|apply gI_var|apply gG_var|apply gPG_var)<;>intro _))
   all_goals try (exfalso;omega)
   refine ⟨F.length - (j+1),_,_,by omega,weak_to [(6,3),(2,2),(1,1),(0,0)] 4 h0 rfl rfl rfl rfl,j+1,rfl,by omega,?_,?_⟩
   ·rw[hx0];rfl
   ·simp only[outO];rw[hrd,hx0,hkn'];rfl
end
theorem gL_weak {C:Ctx} {ks:List Nat} {b:AC} {K:List KF} {fr fr':VFr} {st st':VSt} {P:VPost} (hw:Weak C fr st fr' st') (h:gL C ks b K fr' st' P):gL C ks b K fr st P:=fun frI s hr=>h frI s (hw s frI hr)
theorem rows_len {z:Nat} {R:List (Bool × List Sti)} (hck:chkC ((z:Int),R)=0) (hpl:plnR R=true) {i:Nat} (hi:i<R.length):R[i]!.2.length=z:=by
 have:=rowsC_pln (chkC_ok hck).2.2.2 hpl R[i]! (by rw[getElem!_pos R i hi];exact List.getElem_mem hi)
 simp only at this
 omega
theorem rows_pln {R:List (Bool × List Sti)} (hpl:plnR R=true) {i:Nat} (hi:i<R.length):R[i]!.2.all plnS=true:=List.all_eq_true.1 hpl R[i]! (by rw[getElem!_pos R i hi];exact List.getElem_mem hi)
section
variable (w:World) (n:Nat)
theorem cmp_rows {C:Ctx} (hC:C.E=EN w (n+10)) (h0:C.w0.nx=0) (z:Nat) (hz:0<z) (hz2:z≤101) (s k:Nat) (hs:s ≠ 1) (R:List (Bool × List Sti)) (hK:KOKR R) (hck:chkC ((z:Int),R)=0) (hpl:plnR R=true) {K:List KF} {P:VPost}
  (hgo:∀ B:List Bool,gK C K (.exit 2) [(1,.ptr 0 0),(5,.gr 2 1 (compL z R).length),(7,.ref 2 0 z z),(42,iN R.length),(43,iN R.length),(44,.sc (.bool false))] ⟨[(2,bedO B),(1,outO (compL z R)),(0,chB z s k R)],3,0⟩ P):
  gL C [1,5,7,42,43] c30l1 K [(1,.ptr 0 0),(5,.gr 2 1 (castL z).length),(7,.ref 2 0 z z),(42,iN R.length),(43,iN 0)] ⟨[(2,bedO (List.replicate z false)),(1,outO (castL z)),(0,chB z s k R)],3,0⟩ P:=by
 have hrn:C.E.rounds=many:=by rw[hC,callP_rounds]
 have hR:=(chkC_ok hck).1
 simp only at hR
 have hrl:=rowsD_len k R
 refine g_while (fun m fr st=>∃ (i:Nat) (B:List Bool) (acc:List Ins),m=R.length - i∧i≤R.length∧B.length=z∧compL z R=acc++rowsI i B (R.drop i)∧acc.length≤102+i*202∧
  fr= [(1,.ptr 0 0),(5,.gr 2 1 acc.length),(7,.ref 2 0 z z),(42,iN R.length),(43,iN i)]∧st=⟨[(2,bedO B),(1,outO acc),(0,chB z s k R)],3,0⟩) R.length ?_ ⟨_,_,.refl _ _,0,List.replicate z false,castL z,by omega,Nat.zero_le _,by simp,rfl,by rw[castL_len];omega,rfl,rfl⟩ ?_
 ·rw[hrn];unfold many;omega
 rintro mm fr st ⟨i,B,acc,rfl,hi,hB,hinv,hacc,rfl,rfl⟩
 by_cases hlt:i<R.length
 case neg=>
  have:i=R.length:=by omega
  subst this
  have e:compL z R=acc:=by rw[hinv,List.drop_length,rowsI,List.append_nil]
  have hgo:=hgo B
  rw[e] at hgo
  repeat' (first|(simp (disch:=try exact z0z) only[WA,slotsL,opdsA,Nat.reduceEqDiff,Nat.reduceLT,Nat.reduceAdd,Nat.reduceBEq,Int.reduceAdd,Int.reduceSub,Int.reduceLT,Int.reduceLE,Int.reduceEq,Int.reduceNeg,↓reduceIte,reduceCtorEq,List.replicate,c30l1])|apply gC_drawW|((first|apply gI_dec|apply gG_dec|apply gPG_dec|apply gI_var|apply gG_var|apply gPG_var)<;>intro _))
  exact hgo
 have hlen:=rows_len hck hpl hlt
 have hfc:=face_p w n s k hs z R hK i hlt (.inr (.inr (.inr (by omega)))) hck
 have hFl:=seenF_len R[i]!
 rw[hlen] at hFl
 have hFp:=seenF_pln (rows_pln hpl hlt)
 rw[rowsI_drop hlt,← List.append_assoc] at hinv
 have hrw:=rowI_len i B (seenF R[i]!)
 have hri:rowI i B (seenF R[i]!)=xf B (seenF R[i]!) (seenF R[i]!).length++dirL i (rwL (decide (i % 2=1)) (bedQ B (seenF R[i]!) (seenF R[i]!).length) (seenF R[i]!) (seenF R[i]!).length):=rfl
 generalize seenF R[i]! =F at*
 repeat' (first|(simp (disch:=try exact z0z) only[WA,slotsL,opdsA,Nat.reduceEqDiff,Nat.reduceLT,Nat.reduceAdd,Nat.reduceBEq,Int.reduceAdd,Int.reduceSub,Int.reduceLT,Int.reduceLE,Int.reduceEq,Int.reduceNeg,↓reduceIte,reduceCtorEq,List.replicate,c30l1])|apply gC_drawW|((first|apply gI_dec|apply gG_dec|apply gPG_dec|apply gI_var|apply gG_var|apply gPG_var)<;>intro _))
 all_goals try (exfalso;omega)
 refine callV_fin (by rw[hC];exact hfc) rfl rfl (fun _=>rfl) ?_
 repeat' (first|(simp (disch:=try exact z0z) only[WA,slotsL,opdsA,Nat.reduceEqDiff,Nat.reduceLT,Nat.reduceAdd,Nat.reduceBEq,Int.reduceAdd,Int.reduceSub,Int.reduceLT,Int.reduceLE,Int.reduceEq,Int.reduceNeg,↓reduceIte,reduceCtorEq,List.replicate])|apply gC_drawW|((first|apply gI_dec|apply gG_dec|apply gPG_dec|apply gI_var|apply gG_var|apply gPG_var)<;>intro _))
 refine gL_weak (weak_nilSlot 11 54 7 rfl) ?_
 refine cmp_row w (n+9) hC h0 z s k R R.length i (by omega) B F acc (by omega) hFp (by omega) (by omega) _ rfl z hB ?_
 have hpar:(∃ x:Unit,i % 2=0∧decide (i % 2=1)=false∧binA .and (.int .i64 i) (.int .i64 1)=some (.int .i64 0))∨(∃ x:Unit,i % 2=1∧decide (i % 2=1)=true∧binA .and (.int .i64 i) (.int .i64 1)=some (.int .i64 1)):=by
  rcases Nat.mod_two_eq_zero_or_one i with h|h
  ·exact .inl ⟨(),h,by rw[h];rfl,b_and1 i (by omega) 0 (by rw[h];rfl)⟩
  ·exact .inr ⟨(),h,by rw[h];rfl,b_and1 i (by omega) 1 (by rw[h];rfl)⟩
 have hal:=insD_len (acc++xf B F F.length)
 have hxl:=xf_len B F F.length
 have hal2:(acc++xf B F F.length).length≤21000:=by rw[List.length_append];omega
 have hbq:=bedQ_len B F F.length
 rw[hB] at hbq
 rcases hpar with ⟨_,h2,hod,hbn⟩|⟨_,h2,hod,hbn⟩
 ·rw[hod] at hri ⊢
  unfold dirL at hri
  rw[if_pos h2] at hri
  have hrv:=fun {Q}=>@reverse_w w (n+9) C Q hC (rwL false (bedQ B F F.length) F F.length) (by rw[rwL_len];omega)
  rw[rwL_len] at hrv
  have hrr:=insD_len (rwL false (bedQ B F F.length) F F.length).reverse
  rw[List.length_reverse,rwL_len] at hrr
  have hok:=insD_ok (rwL false (bedQ B F F.length) F F.length).reverse
  have happ:=insD_app (acc++xf B F F.length) (rwL false (bedQ B F F.length) F F.length).reverse
  rw[List.append_assoc acc,← hri] at happ
  have hll:(acc++rowI i B F).length=(acc++xf B F F.length).length+F.length:=by rw[hri,← List.append_assoc,List.length_append,List.length_reverse,rwL_len]
  repeat' (first|(simp (disch:=try exact z0z) only[WA,slotsL,opdsA,Nat.reduceEqDiff,Nat.reduceLT,Nat.reduceAdd,Nat.reduceBEq,Int.reduceAdd,Int.reduceSub,Int.reduceLT,Int.reduceLE,Int.reduceEq,Int.reduceNeg,↓reduceIte,reduceCtorEq,List.replicate,hbn])|apply gC_drawW|((first|apply gI_dec|apply gG_dec|apply gPG_dec|apply gI_var|apply gG_var|apply gPG_var)<;>intro _))
  refine hrv _ _ _ ?_
  repeat' (first|(simp (disch:=try exact z0z) only[WA,slotsL,opdsA,Nat.reduceEqDiff,Nat.reduceLT,Nat.reduceAdd,Nat.reduceBEq,Int.reduceAdd,Int.reduceSub,Int.reduceLT,Int.reduceLE,Int.reduceEq,Int.reduceNeg,↓reduceIte,reduceCtorEq,List.replicate])|apply gC_drawW|((first|apply gI_dec|apply gG_dec|apply gPG_dec|apply gI_var|apply gG_var|apply gPG_var)<;>intro _))
  all_goals try (exfalso;omega)
  exact ⟨R.length - (i+1),_,_,by omega,weak_to [(2,2),(4,1),(0,0)] 3 h0 rfl rfl rfl rfl,i+1,bedQ B F F.length,acc++rowI i B F,rfl,by omega,hbq,hinv,by rw[List.length_append];omega,by rw[hll];rfl,by simp only[outO];rw[happ];rfl⟩
 ·rw[hod] at hri ⊢
  unfold dirL at hri
  rw[if_neg (by omega)] at hri
  have hrr:=insD_len (rwL true (bedQ B F F.length) F F.length)
  rw[rwL_len] at hrr
  have hok:=insD_ok (rwL true (bedQ B F F.length) F F.length)
  have happ:=insD_app (acc++xf B F F.length) (rwL true (bedQ B F F.length) F F.length)
  rw[List.append_assoc acc,← hri] at happ
  have hll:(acc++rowI i B F).length=(acc++xf B F F.length).length+F.length:=by rw[hri,← List.append_assoc,List.length_append,rwL_len]
  repeat' (first|(simp (disch:=try exact z0z) only[WA,slotsL,opdsA,Nat.reduceEqDiff,Nat.reduceLT,Nat.reduceAdd,Nat.reduceBEq,Int.reduceAdd,Int.reduceSub,Int.reduceLT,Int.reduceLE,Int.reduceEq,Int.reduceNeg,↓reduceIte,reduceCtorEq,List.replicate,hbn])|apply gC_drawW|((first|apply gI_dec|apply gG_dec|apply gPG_dec|apply gI_var|apply gG_var|apply gPG_var)<;>intro _))
  all_goals try (exfalso;omega)
  exact ⟨R.length - (i+1),_,_,by omega,weak_to [(2,2),(4,1),(0,0)] 3 h0 rfl rfl rfl rfl,i+1,bedQ B F F.length,acc++rowI i B F,rfl,by omega,hbq,hinv,by rw[List.length_append];omega,by rw[hll];rfl,by simp only[outO];rw[happ];rfl⟩
end
theorem castI_snoc (k:Nat):insD (castL (k+1))=insD (castL k)++ [.sc (.int .u8 3),.sc (.bool true),.sc (.int .u8 0),.sc (.int .i64 k),.sc (.int .i64 0),.sc (.int .i64 1),.sc (.int .i64 0)]:=by rw[castL_succ,insD_snoc];rfl
theorem in1_D:insD (castL 0)= [.sc (.int .u8 1),.sc (.bool false),.sc (.int .u8 0),.sc (.int .i64 0),.sc (.int .i64 0),.sc (.int .i64 1),.sc (.int .i64 0)]:=rfl
theorem bedD_rep (z:Nat):List.replicate z (D.sc (.int .u8 0))=bedD (List.replicate z false):=by
 unfold bedD
 rw[List.map_replicate];rfl
theorem snap_ref71 {H:VHp} {o c t n:Nat} {g z:Bool} {l:List D} (h:aget H o=some (.row t 7 g z l)) (hl:l.length=n*7):snapV H (.ref o 0 n c)=some (.sl 0 n l):=by
 simp only[snapV,toD,h,Nat.zero_add,List.drop_zero]
 rw[if_pos (by omega)]
 show some (V.sl 0 n (l.take (n*7)))=_
 rw[List.take_of_length_le (by omega)]
abbrev jfV (p:List Ins × Int):V:= .tup [jS 3 p.1,iN p.2]
theorem rowsI_nil:∀ (R:List (Bool × List Sti)) (i:Nat),(∀ r ∈ R,r.2= [])→rowsI i [] R= []
 | [],_,_=>rfl
 |r::R,i,h=>by
  have h1:seenF r= []:=List.eq_nil_of_length_eq_zero (by rw[seenF_len,h r (List.mem_cons_self ..)];rfl)
  have h2:rowI i [] []= []:=by unfold rowI dirL;split<;>rfl
  rw[rowsI,h1,h2]
  exact rowsI_nil R (i+1) fun x hx=>h x (List.mem_cons_of_mem _ hx)
section
variable (w:World) (n:Nat)
theorem cmp_cast {C:Ctx} (hC:C.E=EN w (n+1)) (h0:C.w0.nx=0) (z:Nat) (hz:0<z) (hz2:z≤1000) (s k:Nat) (R:List (Bool × List Sti)) {K:List KF} {P:VPost}
  (hgo:gK C K (.exit 0) [(1,.ptr 0 0),(5,.gr 2 1 (castL z).length),(27,iN z),(28,iN z),(29,.sc (.bool false))] ⟨[(1,outO (castL z)),(0,chB z s k R)],2,0⟩ P):
  gL C [1,5,27,28] c30l2 K [(1,.ptr 0 0),(5,.ref 1 0 1 1),(27,iN z),(28,iN 0)] ⟨[(1,.row 54 7 false false (insD (castL 0))),(0,chB z s k R)],2,0⟩ P:=by
 have hrn:C.E.rounds=many:=by rw[hC,callP_rounds]
 refine g_while (fun m fr st=>(m=z∧fr= [(1,.ptr 0 0),(5,.ref 1 0 1 1),(27,iN z),(28,iN 0)]∧st=⟨[(1,.row 54 7 false false (insD (castL 0))),(0,chB z s k R)],2,0⟩)∨
  ∃ j:Nat,m=z - j∧0<j∧j≤z∧fr= [(1,.ptr 0 0),(5,.gr 2 1 (castL j).length),(27,iN z),(28,iN j)]∧st=⟨[(1,outO (castL j)),(0,chB z s k R)],2,0⟩) z ?_ ⟨_,_,.refl _ _,.inl ⟨rfl,rfl,rfl⟩⟩ ?_
 ·rw[hrn];unfold many;omega
 rintro mm fr st (⟨rfl,rfl,rfl⟩|⟨j,rfl,hj0,hj,rfl,rfl⟩)
 ·rw[in1_D]
  have h1:=castI_snoc 0
  rw[in1_D] at h1
  repeat' (first|(simp (disch:=try exact z0z) only[WA,slotsL,opdsA,Nat.reduceEqDiff,Nat.reduceLT,Nat.reduceAdd,Nat.reduceBEq,Int.reduceAdd,Int.reduceSub,Int.reduceLT,Int.reduceLE,Int.reduceEq,Int.reduceNeg,↓reduceIte,reduceCtorEq,List.replicate,c30l2,row1V_ins])|apply gC_drawW|((first|apply gI_dec|apply gG_dec|apply gPG_dec|apply gI_var|apply gG_var|apply gPG_var)<;>intro _))
  all_goals try (exfalso;omega)
  exact ⟨mm - 1,_,_,by omega,weak_to [(3,1),(0,0)] 2 h0 rfl rfl rfl rfl,.inr ⟨1,rfl,by omega,by omega,rfl,by simp only[outO];rw[h1];rfl⟩⟩
 by_cases hlt:j<z
 case neg=>
  have:j=z:=by omega
  subst this
  repeat' (first|(simp (disch:=try exact z0z) only[WA,slotsL,opdsA,Nat.reduceEqDiff,Nat.reduceLT,Nat.reduceAdd,Nat.reduceBEq,Int.reduceAdd,Int.reduceSub,Int.reduceLT,Int.reduceLE,Int.reduceEq,Int.reduceNeg,↓reduceIte,reduceCtorEq,List.replicate,c30l2])|apply gC_drawW|((first|apply gI_dec|apply gG_dec|apply gPG_dec|apply gI_var|apply gG_var|apply gPG_var)<;>intro _))
  exact hgo
 have h1:=castI_snoc j
 have hl:=insD_len (castL j)
 have hcl:=castL_len j
 have hcl1:=castL_len (j+1)
 generalize castL j=A at*
 repeat' (first|(simp (disch:=try exact z0z) only[WA,slotsL,opdsA,Nat.reduceEqDiff,Nat.reduceLT,Nat.reduceAdd,Nat.reduceBEq,Int.reduceAdd,Int.reduceSub,Int.reduceLT,Int.reduceLE,Int.reduceEq,Int.reduceNeg,↓reduceIte,reduceCtorEq,List.replicate,c30l2,row1V_ins])|apply gC_drawW|((first|apply gI_dec|apply gG_dec|apply gPG_dec|apply gI_var|apply gG_var|apply gPG_var)<;>intro _))
 all_goals try (exfalso;omega)
 exact ⟨z - (j+1),_,_,by omega,weak_to [(3,1),(0,0)] 2 h0 rfl rfl rfl rfl,.inr ⟨j+1,rfl,by omega,by omega,by rw[hcl1,hcl];rfl,by simp only[outO];rw[h1];rfl⟩⟩
theorem reverse0_w {C:Ctx} {Q:V→VSt→Prop} (hC:C.E=EN w (n+1)) (H:VHp) (nx:Nat) (hq:Q (.tup []) ⟨H,nx,0⟩):CallV C 78 [.sc (.slice none 0 0)] ⟨H,nx,0⟩ Q:=by
 refine callV_w hC rfl rfl (fun _ _=>rfl) (Nat.le_of_ble_eq_true rfl) hq fun C' hC' hn=>?_
 repeat' (first|(simp (disch:=try exact z0z) only[WA,slotsL,opdsA,Nat.reduceEqDiff,Nat.reduceLT,Nat.reduceAdd,Nat.reduceBEq,Int.reduceAdd,Int.reduceSub,Int.reduceLT,Int.reduceLE,Int.reduceEq,Int.reduceNeg,↓reduceIte,reduceCtorEq,List.replicate,c78])|apply gC_drawW|((first|apply gI_dec|apply gG_dec|apply gPG_dec|apply gI_var|apply gG_var|apply gPG_var)<;>intro _))
 refine g_while (fun m fr st=>m=0∧fr= [(0,.sc (.slice none 0 0)),(2,iN 0),(3,iN (-1))]∧st=⟨H,nx,0⟩) 0 ?_ ⟨_,_,.refl _ _,rfl,rfl,rfl⟩ ?_
 ·rw[hC',callP_rounds];unfold many;omega
 rintro m fr st ⟨rfl,rfl,rfl⟩
 repeat' (first|(simp (disch:=try exact z0z) only[WA,slotsL,opdsA,Nat.reduceEqDiff,Nat.reduceLT,Nat.reduceAdd,Nat.reduceBEq,Int.reduceAdd,Int.reduceSub,Int.reduceLT,Int.reduceLE,Int.reduceEq,Int.reduceNeg,↓reduceIte,reduceCtorEq,List.replicate,c78l0])|apply gC_drawW|((first|apply gI_dec|apply gG_dec|apply gPG_dec|apply gI_var|apply gG_var|apply gPG_var)<;>intro _))
 exact .refl _ _
theorem compile_p (s k:Nat) (hs:s ≠ 1) (hk:k=1∨k=2∨k=0) (zi:Int) (R:List (Bool × List Sti)) (hR:R.length≤140737488351232) (hK:KOKR R):VSpec (EN w (n+11)) 30 [chartV s k (zi,R)] (jfV (compF (zi,R))) ⟨[],0,0⟩:=by
 have hrl:=rowsD_len k R
 have hck:=check26_p w (n+1) s k hs zi R hR hK
 have hpl:=plain_p w (n+6) s k zi R hR hK
 unfold compF
 refine vspec_g rfl rfl (fun _ _=>rfl) (Nat.le_of_ble_eq_true rfl) (oldVals w) retOK_fin rfl fun C hC h0=>?_
 by_cases e1:chkC (zi,R)=0
 case neg=>
  rw[if_pos e1]
  generalize chkC (zi,R)=E at*
  repeat' (first|(simp (disch:=try exact z0z) only[WA,slotsL,opdsA,Nat.reduceEqDiff,Nat.reduceLT,Nat.reduceAdd,Nat.reduceBEq,Int.reduceAdd,Int.reduceSub,Int.reduceLT,Int.reduceLE,Int.reduceEq,Int.reduceNeg,↓reduceIte,reduceCtorEq,List.replicate,c30])|apply gC_drawW|((first|apply gI_dec|apply gG_dec|apply gPG_dec|apply gI_var|apply gG_var|apply gPG_var)<;>intro _))
  refine callV_flat (by rw[hC];exact hck.flat rfl rfl) ?_
  repeat' (first|(simp (disch:=try exact z0z) only[WA,slotsL,opdsA,Nat.reduceEqDiff,Nat.reduceLT,Nat.reduceAdd,Nat.reduceBEq,Int.reduceAdd,Int.reduceSub,Int.reduceLT,Int.reduceLE,Int.reduceEq,Int.reduceNeg,↓reduceIte,reduceCtorEq,List.replicate,e1])|apply gC_drawW|((first|apply gI_dec|apply gG_dec|apply gPG_dec|apply gI_var|apply gG_var|apply gPG_var)<;>intro _))
  exact weak_finNil h0 rfl
 rw[if_neg (fun h=>h e1)]
 rw[e1] at hck
 by_cases e2:plnF (zi,R)=true
 case neg=>
  rw[if_neg e2]
  rw[Bool.not_eq_true] at e2
  rw[e2] at hpl
  repeat' (first|(simp (disch:=try exact z0z) only[WA,slotsL,opdsA,Nat.reduceEqDiff,Nat.reduceLT,Nat.reduceAdd,Nat.reduceBEq,Int.reduceAdd,Int.reduceSub,Int.reduceLT,Int.reduceLE,Int.reduceEq,Int.reduceNeg,↓reduceIte,reduceCtorEq,List.replicate,c30])|apply gC_drawW|((first|apply gI_dec|apply gG_dec|apply gPG_dec|apply gI_var|apply gG_var|apply gPG_var)<;>intro _))
  refine callV_flat (by rw[hC];exact hck.flat rfl rfl) ?_
  repeat' (first|(simp (disch:=try exact z0z) only[WA,slotsL,opdsA,Nat.reduceEqDiff,Nat.reduceLT,Nat.reduceAdd,Nat.reduceBEq,Int.reduceAdd,Int.reduceSub,Int.reduceLT,Int.reduceLE,Int.reduceEq,Int.reduceNeg,↓reduceIte,reduceCtorEq,List.replicate])|apply gC_drawW|((first|apply gI_dec|apply gG_dec|apply gPG_dec|apply gI_var|apply gG_var|apply gPG_var)<;>intro _))
  refine callV_flat (by rw[hC];exact hpl.flat rfl rfl) ?_
  repeat' (first|(simp (disch:=try exact z0z) only[WA,slotsL,opdsA,Nat.reduceEqDiff,Nat.reduceLT,Nat.reduceAdd,Nat.reduceBEq,Int.reduceAdd,Int.reduceSub,Int.reduceLT,Int.reduceLE,Int.reduceEq,Int.reduceNeg,↓reduceIte,reduceCtorEq,List.replicate])|apply gC_drawW|((first|apply gI_dec|apply gG_dec|apply gPG_dec|apply gI_var|apply gG_var|apply gPG_var)<;>intro _))
  exact weak_finNil h0 rfl
 rw[if_pos e2]
 rw[e2] at hpl
 have hz0:=chkC_ok e1
 simp only at hz0
 obtain ⟨z,rfl⟩:∃ z:Nat,zi=z:=⟨zi.toNat,by omega⟩
 have hpz:plnR R=true∧z≤101:=by
  unfold plnF at e2
  simp only[Bool.and_eq_true,decide_eq_true_eq] at e2
  exact ⟨e2.1,by omega⟩
 simp only[Int.toNat_natCast]
 have h1:=in1_D
 by_cases hz:z=0
 ·subst hz
  have hem:∀ i,i<R.length→R[i]!.2= []:=fun i hi=>List.eq_nil_of_length_eq_zero (rows_len e1 hpz.1 hi)
  have hcl:compL 0 R= [in1]:=by
   unfold compL
   rw[show List.replicate 0 false= [] from rfl,rowsI_nil R 0 fun r hr=>by
    obtain ⟨i,hi,rfl⟩:=List.getElem_of_mem hr
    have:=hem i hi
    rwa [getElem!_pos R i hi] at this]
   rfl
  rw[if_neg (by rw[hcl];decide),hcl]
  repeat' (first|(simp (disch:=try exact z0z) only[WA,slotsL,opdsA,Nat.reduceEqDiff,Nat.reduceLT,Nat.reduceAdd,Nat.reduceBEq,Int.reduceAdd,Int.reduceSub,Int.reduceLT,Int.reduceLE,Int.reduceEq,Int.reduceNeg,↓reduceIte,reduceCtorEq,List.replicate,c30])|apply gC_drawW|((first|apply gI_dec|apply gG_dec|apply gPG_dec|apply gI_var|apply gG_var|apply gPG_var)<;>intro _))
  refine callV_flat (by rw[hC];exact hck.flat rfl rfl) ?_
  repeat' (first|(simp (disch:=try exact z0z) only[WA,slotsL,opdsA,Nat.reduceEqDiff,Nat.reduceLT,Nat.reduceAdd,Nat.reduceBEq,Int.reduceAdd,Int.reduceSub,Int.reduceLT,Int.reduceLE,Int.reduceEq,Int.reduceNeg,↓reduceIte,reduceCtorEq,List.replicate])|apply gC_drawW|((first|apply gI_dec|apply gG_dec|apply gPG_dec|apply gI_var|apply gG_var|apply gPG_var)<;>intro _))
  refine callV_flat (by rw[hC];exact hpl.flat rfl rfl) ?_
  repeat' (first|(simp (disch:=try exact z0z) only[WA,slotsL,opdsA,Nat.reduceEqDiff,Nat.reduceLT,Nat.reduceAdd,Nat.reduceBEq,Int.reduceAdd,Int.reduceSub,Int.reduceLT,Int.reduceLE,Int.reduceEq,Int.reduceNeg,↓reduceIte,reduceCtorEq,List.replicate,row1V_ins])|apply gC_drawW|((first|apply gI_dec|apply gG_dec|apply gPG_dec|apply gI_var|apply gG_var|apply gPG_var)<;>intro _))
  refine g_while (fun m fr st=>m=0∧fr= [(1,.ptr 0 0),(5,.ref 1 0 1 1),(27,iN 0),(28,iN 0)]∧st=⟨[(1,.row 54 7 false false (insD [in1])),(0,chB 0 s k R)],2,0⟩) 0 ?_ ⟨_,_,.refl _ _,rfl,rfl,rfl⟩ ?_
  ·rw[hC,callP_rounds];unfold many;omega
  rintro m fr st ⟨rfl,rfl,rfl⟩
  repeat' (first|(simp (disch:=try exact z0z) only[WA,slotsL,opdsA,Nat.reduceEqDiff,Nat.reduceLT,Nat.reduceAdd,Nat.reduceBEq,Int.reduceAdd,Int.reduceSub,Int.reduceLT,Int.reduceLE,Int.reduceEq,Int.reduceNeg,↓reduceIte,reduceCtorEq,List.replicate,c30l2])|apply gC_drawW|((first|apply gI_dec|apply gG_dec|apply gPG_dec|apply gI_var|apply gG_var|apply gPG_var)<;>intro _))
  refine g_while (fun m fr st=>∃ i:Nat,m=R.length - i∧i≤R.length∧fr= [(1,.ptr 0 0),(5,.ref 1 0 1 1),(7,.ref 2 0 0 0),(42,iN R.length),(43,iN i)]∧st=⟨[(2,.row 5 1 false false []),(1,.row 54 7 false false (insD [in1])),(0,chB 0 s k R)],3,0⟩) R.length ?_ ⟨_,_,.refl _ _,0,by omega,Nat.zero_le _,rfl,rfl⟩ ?_
  ·rw[hC,callP_rounds];unfold many;omega
  rintro m fr st ⟨i,rfl,hi,rfl,rfl⟩
  by_cases hlt:i<R.length
  case neg=>
   repeat' (first|(simp (disch:=try exact z0z) only[WA,slotsL,opdsA,Nat.reduceEqDiff,Nat.reduceLT,Nat.reduceAdd,Nat.reduceBEq,Int.reduceAdd,Int.reduceSub,Int.reduceLT,Int.reduceLE,Int.reduceEq,Int.reduceNeg,↓reduceIte,reduceCtorEq,List.replicate,c30l1])|apply gC_drawW|((first|apply gI_dec|apply gG_dec|apply gPG_dec|apply gI_var|apply gG_var|apply gPG_var)<;>intro _))
   all_goals try (exfalso;omega)
   exact weak_fin (snap_ref71 rfl rfl) rfl (.inl (by decide)) h0 rfl
  have hfc:=face_p w n s k hs 0 R hK i hlt (by omega) e1
  have hsn:seenF R[i]! = []:=List.eq_nil_of_length_eq_zero (by rw[seenF_len,hem i hlt];rfl)
  rw[hsn] at hfc
  repeat' (first|(simp (disch:=try exact z0z) only[WA,slotsL,opdsA,Nat.reduceEqDiff,Nat.reduceLT,Nat.reduceAdd,Nat.reduceBEq,Int.reduceAdd,Int.reduceSub,Int.reduceLT,Int.reduceLE,Int.reduceEq,Int.reduceNeg,↓reduceIte,reduceCtorEq,List.replicate,c30l1])|apply gC_drawW|((first|apply gI_dec|apply gG_dec|apply gPG_dec|apply gI_var|apply gG_var|apply gPG_var)<;>intro _))
  all_goals try (exfalso;omega)
  refine callV_fin (by rw[hC];exact hfc) rfl rfl (fun _=>rfl) ?_
  repeat' (first|(simp (disch:=try exact z0z) only[WA,slotsL,opdsA,Nat.reduceEqDiff,Nat.reduceLT,Nat.reduceAdd,Nat.reduceBEq,Int.reduceAdd,Int.reduceSub,Int.reduceLT,Int.reduceLE,Int.reduceEq,Int.reduceNeg,↓reduceIte,reduceCtorEq,List.replicate])|apply gC_drawW|((first|apply gI_dec|apply gG_dec|apply gPG_dec|apply gI_var|apply gG_var|apply gPG_var)<;>intro _))
  refine g_while (fun m fr st=>m=0∧fr= [(1,.ptr 0 0),(5,.ref 1 0 1 1),(7,.ref 2 0 0 0),(8,iN i),(11,.sc (.slice none 0 0)),(42,iN R.length),(43,iN i),(52,tS 3 []),(53,iN 0),(54,iN 0)]∧st=⟨[(2,.row 5 1 false false []),(1,.row 54 7 false false (insD [in1])),(0,chB 0 s k R)],3,0⟩) 0 ?_ ⟨_,_,.refl _ _,rfl,rfl,rfl⟩ ?_
  ·rw[hC,callP_rounds];unfold many;omega
  rintro m fr st ⟨rfl,rfl,rfl⟩
  have hR1:=(chkC_ok e1).1
  simp only at hR1
  rcases Nat.mod_two_eq_zero_or_one i with h2|h2
  ·have hbn:=b_and1 i (by omega) 0 (by rw[h2];rfl)
   repeat' (first|(simp (disch:=try exact z0z) only[WA,slotsL,opdsA,Nat.reduceEqDiff,Nat.reduceLT,Nat.reduceAdd,Nat.reduceBEq,Int.reduceAdd,Int.reduceSub,Int.reduceLT,Int.reduceLE,Int.reduceEq,Int.reduceNeg,↓reduceIte,reduceCtorEq,List.replicate,c30l0,hbn])|apply gC_drawW|((first|apply gI_dec|apply gG_dec|apply gPG_dec|apply gI_var|apply gG_var|apply gPG_var)<;>intro _))
   refine reverse0_w w (n+9) hC _ _ ?_
   repeat' (first|(simp (disch:=try exact z0z) only[WA,slotsL,opdsA,Nat.reduceEqDiff,Nat.reduceLT,Nat.reduceAdd,Nat.reduceBEq,Int.reduceAdd,Int.reduceSub,Int.reduceLT,Int.reduceLE,Int.reduceEq,Int.reduceNeg,↓reduceIte,reduceCtorEq,List.replicate])|apply gC_drawW|((first|apply gI_dec|apply gG_dec|apply gPG_dec|apply gI_var|apply gG_var|apply gPG_var)<;>intro _))
   all_goals try (exfalso;omega)
   exact ⟨R.length - (i+1),_,_,by omega,.refl _ _,i+1,rfl,by omega,rfl,rfl⟩
  ·have hbn:=b_and1 i (by omega) 1 (by rw[h2];rfl)
   repeat' (first|(simp (disch:=try exact z0z) only[WA,slotsL,opdsA,Nat.reduceEqDiff,Nat.reduceLT,Nat.reduceAdd,Nat.reduceBEq,Int.reduceAdd,Int.reduceSub,Int.reduceLT,Int.reduceLE,Int.reduceEq,Int.reduceNeg,↓reduceIte,reduceCtorEq,List.replicate,c30l0,hbn])|apply gC_drawW|((first|apply gI_dec|apply gG_dec|apply gPG_dec|apply gI_var|apply gG_var|apply gPG_var)<;>intro _))
   all_goals try (exfalso;omega)
   exact ⟨R.length - (i+1),_,_,by omega,.refl _ _,i+1,rfl,by omega,rfl,rfl⟩
 ·have hmk:=fun nx t=>mkSliceV_one nx t 1 (.int .u8 0) rfl .i64 .i64 (z:Int) (z:Int) (by omega) (by omega) (by omega) (by omega)
  rw[Int.toNat_natCast,bedD_rep] at hmk
  have hlc:=insD_len (compL z R)
  repeat' (first|(simp (disch:=try exact z0z) only[WA,slotsL,opdsA,Nat.reduceEqDiff,Nat.reduceLT,Nat.reduceAdd,Nat.reduceBEq,Int.reduceAdd,Int.reduceSub,Int.reduceLT,Int.reduceLE,Int.reduceEq,Int.reduceNeg,↓reduceIte,reduceCtorEq,List.replicate,c30])|apply gC_drawW|((first|apply gI_dec|apply gG_dec|apply gPG_dec|apply gI_var|apply gG_var|apply gPG_var)<;>intro _))
  refine callV_flat (by rw[hC];exact hck.flat rfl rfl) ?_
  repeat' (first|(simp (disch:=try exact z0z) only[WA,slotsL,opdsA,Nat.reduceEqDiff,Nat.reduceLT,Nat.reduceAdd,Nat.reduceBEq,Int.reduceAdd,Int.reduceSub,Int.reduceLT,Int.reduceLE,Int.reduceEq,Int.reduceNeg,↓reduceIte,reduceCtorEq,List.replicate])|apply gC_drawW|((first|apply gI_dec|apply gG_dec|apply gPG_dec|apply gI_var|apply gG_var|apply gPG_var)<;>intro _))
  refine callV_flat (by rw[hC];exact hpl.flat rfl rfl) ?_
  repeat' (first|(simp (disch:=try exact z0z) only[WA,slotsL,opdsA,Nat.reduceEqDiff,Nat.reduceLT,Nat.reduceAdd,Nat.reduceBEq,Int.reduceAdd,Int.reduceSub,Int.reduceLT,Int.reduceLE,Int.reduceEq,Int.reduceNeg,↓reduceIte,reduceCtorEq,List.replicate,row1V_ins])|apply gC_drawW|((first|apply gI_dec|apply gG_dec|apply gPG_dec|apply gI_var|apply gG_var|apply gPG_var)<;>intro _))
  refine cmp_cast w (n+9) hC h0 z (by omega) (by omega) s k R ?_
  repeat' (first|(simp (disch:=try exact z0z) only[WA,slotsL,opdsA,Nat.reduceEqDiff,Nat.reduceLT,Nat.reduceAdd,Nat.reduceBEq,Int.reduceAdd,Int.reduceSub,Int.reduceLT,Int.reduceLE,Int.reduceEq,Int.reduceNeg,↓reduceIte,reduceCtorEq,List.replicate,hmk])|apply gC_drawW|((first|apply gI_dec|apply gG_dec|apply gPG_dec|apply gI_var|apply gG_var|apply gPG_var)<;>intro _))
  refine cmp_rows w n hC h0 z (by omega) hpz.2 s k hs R hK e1 hpz.1 fun B=>?_
  by_cases hb:2000<(compL z R).length
  ·rw[if_pos hb]
   repeat' (first|(simp (disch:=try exact z0z) only[WA,slotsL,opdsA,Nat.reduceEqDiff,Nat.reduceLT,Nat.reduceAdd,Nat.reduceBEq,Int.reduceAdd,Int.reduceSub,Int.reduceLT,Int.reduceLE,Int.reduceEq,Int.reduceNeg,↓reduceIte,reduceCtorEq,List.replicate])|apply gC_drawW|((first|apply gI_dec|apply gG_dec|apply gPG_dec|apply gI_var|apply gG_var|apply gPG_var)<;>intro _))
   all_goals try (exfalso;omega)
   exact weak_finNil h0 rfl
  ·rw[if_neg hb]
   repeat' (first|(simp (disch:=try exact z0z) only[WA,slotsL,opdsA,Nat.reduceEqDiff,Nat.reduceLT,Nat.reduceAdd,Nat.reduceBEq,Int.reduceAdd,Int.reduceSub,Int.reduceLT,Int.reduceLE,Int.reduceEq,Int.reduceNeg,↓reduceIte,reduceCtorEq,List.replicate])|apply gC_drawW|((first|apply gI_dec|apply gG_dec|apply gPG_dec|apply gI_var|apply gG_var|apply gPG_var)<;>intro _))
   all_goals try (exfalso;omega)
   exact weak_fin (snap_gr7 rfl hlc) rfl (.inl (by decide)) h0 rfl
end
section
variable (w:World) (n:Nat)
end
theorem wr1:IntKind.u8.wrap 1=1:=rfl
section
variable (w:World) (n:Nat)
end
section
variable (w:World) (n:Nat)
theorem great25_p (s:Nat) (L:List Sti) (hL:L.length≤140737488351232):VSpec (EN w (n+1)) 38 [tS s L] (.sc (.bool (greatB L.length))) ⟨[],0,0⟩:=by
 unfold greatB
 refine vspec_flat rfl rfl (fun _ _=>rfl) (Nat.le_of_ble_eq_true rfl) (oldVals w) rfl fun C hC h0=>?_
 by_cases h1:60<L.length
 ·by_cases h2:L.length≤200
  ·rw[decide_eq_true (.inl ⟨h1,h2⟩)]
   repeat' (first|(simp (disch:=try exact z0z) only[WA,slotsL,opdsA,Nat.reduceEqDiff,Nat.reduceLT,Nat.reduceAdd,Nat.reduceBEq,Int.reduceAdd,Int.reduceSub,Int.reduceLT,Int.reduceLE,Int.reduceEq,Int.reduceNeg,↓reduceIte,reduceCtorEq,List.replicate,c38])|apply gC_drawW|((first|apply gI_dec|apply gG_dec|apply gPG_dec|apply gI_var|apply gG_var|apply gPG_var)<;>intro _))
   all_goals try (exfalso;omega)
   exact weak_flat rfl h0 rfl
  ·by_cases h3:300<L.length
   ·rw[decide_eq_true (.inr h3)]
    repeat' (first|(simp (disch:=try exact z0z) only[WA,slotsL,opdsA,Nat.reduceEqDiff,Nat.reduceLT,Nat.reduceAdd,Nat.reduceBEq,Int.reduceAdd,Int.reduceSub,Int.reduceLT,Int.reduceLE,Int.reduceEq,Int.reduceNeg,↓reduceIte,reduceCtorEq,List.replicate,c38])|apply gC_drawW|((first|apply gI_dec|apply gG_dec|apply gPG_dec|apply gI_var|apply gG_var|apply gPG_var)<;>intro _))
    all_goals try (exfalso;omega)
    exact weak_flat rfl h0 rfl
   ·rw[decide_eq_false (by omega)]
    repeat' (first|(simp (disch:=try exact z0z) only[WA,slotsL,opdsA,Nat.reduceEqDiff,Nat.reduceLT,Nat.reduceAdd,Nat.reduceBEq,Int.reduceAdd,Int.reduceSub,Int.reduceLT,Int.reduceLE,Int.reduceEq,Int.reduceNeg,↓reduceIte,reduceCtorEq,List.replicate,c38])|apply gC_drawW|((first|apply gI_dec|apply gG_dec|apply gPG_dec|apply gI_var|apply gG_var|apply gPG_var)<;>intro _))
    all_goals try (exfalso;omega)
    exact weak_flat rfl h0 rfl
 ·rw[decide_eq_false (by omega)]
  repeat' (first|(simp (disch:=try exact z0z) only[WA,slotsL,opdsA,Nat.reduceEqDiff,Nat.reduceLT,Nat.reduceAdd,Nat.reduceBEq,Int.reduceAdd,Int.reduceSub,Int.reduceLT,Int.reduceLE,Int.reduceEq,Int.reduceNeg,↓reduceIte,reduceCtorEq,List.replicate,c38])|apply gC_drawW|((first|apply gI_dec|apply gG_dec|apply gPG_dec|apply gI_var|apply gG_var|apply gPG_var)<;>intro _))
  all_goals try (exfalso;omega)
  exact weak_flat rfl h0 rfl
def greatA:Nat→List (Bool × List Sti)→Bool
 |0,_=>false
 |_,[]=>false
 |f+1,r::R=>greatB r.2.length||greatA f R
def greatC (R:List (Bool × List Sti)):Bool:=greatA 150 R||decide (12<R.length∧R.length≤100∨150<R.length)
theorem great26_p (s k:Nat) (z:Int) (R:List (Bool × List Sti)) (hc:R.length≤140737488351232) (hK:KOKR R):VSpec (EN w (n+2)) 9 [chartV s k (z,R)] (.sc (.bool (greatC R))) ⟨[],0,0⟩:=by
 have hil:=rowsD_len k R
 unfold greatC
 refine vspec_flat rfl rfl (fun _ _=>rfl) (Nat.le_of_ble_eq_true rfl) (oldVals w) rfl fun C hC h0=>?_
 have hrn:C.E.rounds=many:=by rw[hC,callP_rounds]
 repeat' (first|(simp (disch:=try exact z0z) only[WA,slotsL,opdsA,Nat.reduceEqDiff,Nat.reduceLT,Nat.reduceAdd,Nat.reduceBEq,Int.reduceAdd,Int.reduceSub,Int.reduceLT,Int.reduceLE,Int.reduceEq,Int.reduceNeg,↓reduceIte,reduceCtorEq,List.replicate,c9])|apply gC_drawW|((first|apply gI_dec|apply gG_dec|apply gPG_dec|apply gI_var|apply gG_var|apply gPG_var)<;>intro _))
 refine g_while (fun m fr st=>∃ j:Nat,m=150 - j∧j≤R.length∧j≤150∧greatA 150 R=greatA (150 - j) (R.drop j)∧fr= [(1,.ptr 0 0),(3,iN j)]∧st=⟨[(0,chB z s k R)],1,0⟩) 150 ?_ ⟨_,_,.refl _ _,0,by omega,Nat.zero_le _,by omega,rfl,rfl,rfl⟩ ?_
 ·rw[hrn];unfold many;omega
 rintro m fr st ⟨j,rfl,hj,hj2,hinv,rfl,rfl⟩
 by_cases hlt:j<R.length∧j<150
 ·obtain ⟨hlt,hl2⟩:=hlt
  have hat:=rowsD_at1 k R j hlt
  have hm:=(hK.at hlt).2
  have hg:=great25_p w n k R[j]!.2 hm
  rw[drop_row hlt,show 150 - j=(150 - (j+1))+1 by omega,greatA] at hinv
  generalize R[j]!.2=L at*
  rw[hinv]
  cases hb:greatB L.length with
  |true=>
   rw[hb] at hg
   rw[Bool.true_or,Bool.true_or]
   repeat' (first|(simp (disch:=try exact z0z) only[WA,slotsL,opdsA,Nat.reduceEqDiff,Nat.reduceLT,Nat.reduceAdd,Nat.reduceBEq,Int.reduceAdd,Int.reduceSub,Int.reduceLT,Int.reduceLE,Int.reduceEq,Int.reduceNeg,↓reduceIte,reduceCtorEq,List.replicate,c9l0,hat])|apply gC_drawW|((first|apply gI_dec|apply gG_dec|apply gPG_dec|apply gI_var|apply gG_var|apply gPG_var)<;>intro _))
   all_goals try (exfalso;omega)
   refine callV_flat (by rw[hC];exact hg.flat rfl rfl) ?_
   repeat' (first|(simp (disch:=try exact z0z) only[WA,slotsL,opdsA,Nat.reduceEqDiff,Nat.reduceLT,Nat.reduceAdd,Nat.reduceBEq,Int.reduceAdd,Int.reduceSub,Int.reduceLT,Int.reduceLE,Int.reduceEq,Int.reduceNeg,↓reduceIte,reduceCtorEq,List.replicate])|apply gC_drawW|((first|apply gI_dec|apply gG_dec|apply gPG_dec|apply gI_var|apply gG_var|apply gPG_var)<;>intro _))
   exact weak_flat rfl h0 rfl
  |false=>
   rw[hb] at hg
   rw[hb,Bool.false_or] at hinv
   rw[Bool.false_or]
   repeat' (first|(simp (disch:=try exact z0z) only[WA,slotsL,opdsA,Nat.reduceEqDiff,Nat.reduceLT,Nat.reduceAdd,Nat.reduceBEq,Int.reduceAdd,Int.reduceSub,Int.reduceLT,Int.reduceLE,Int.reduceEq,Int.reduceNeg,↓reduceIte,reduceCtorEq,List.replicate,c9l0,hat])|apply gC_drawW|((first|apply gI_dec|apply gG_dec|apply gPG_dec|apply gI_var|apply gG_var|apply gPG_var)<;>intro _))
   all_goals try (exfalso;omega)
   refine callV_flat (by rw[hC];exact hg.flat rfl rfl) ?_
   repeat' (first|(simp (disch:=try exact z0z) only[WA,slotsL,opdsA,Nat.reduceEqDiff,Nat.reduceLT,Nat.reduceAdd,Nat.reduceBEq,Int.reduceAdd,Int.reduceSub,Int.reduceLT,Int.reduceLE,Int.reduceEq,Int.reduceNeg,↓reduceIte,reduceCtorEq,List.replicate])|apply gC_drawW|((first|apply gI_dec|apply gG_dec|apply gPG_dec|apply gI_var|apply gG_var|apply gPG_var)<;>intro _))
   rw[← hinv]
   exact ⟨150 - (j+1),_,_,by omega,.refl _ _,j+1,rfl,by omega,by omega,hinv,rfl,rfl⟩
 ·have he:greatA (150 - j) (R.drop j)=false:=by
   by_cases h:j=150
   ·subst h;rfl
   ·have:j=R.length:=by omega
    subst this
    rw[List.drop_length,show 150 - R.length=(149 - R.length)+1 by omega];rfl
  rw[hinv,he,Bool.false_or]
  by_cases h1:12<R.length∧R.length≤100∨150<R.length
  ·rw[decide_eq_true h1]
   by_cases h2:j<R.length
   all_goals
    repeat' (first|(simp (disch:=try exact z0z) only[WA,slotsL,opdsA,Nat.reduceEqDiff,Nat.reduceLT,Nat.reduceAdd,Nat.reduceBEq,Int.reduceAdd,Int.reduceSub,Int.reduceLT,Int.reduceLE,Int.reduceEq,Int.reduceNeg,↓reduceIte,reduceCtorEq,List.replicate,c9l0])|apply gC_drawW|((first|apply gI_dec|apply gG_dec|apply gPG_dec|apply gI_var|apply gG_var|apply gPG_var)<;>intro _))
    all_goals try (exfalso;omega)
    all_goals exact weak_flat rfl h0 rfl
  ·rw[decide_eq_false h1]
   by_cases h2:j<R.length
   all_goals
    repeat' (first|(simp (disch:=try exact z0z) only[WA,slotsL,opdsA,Nat.reduceEqDiff,Nat.reduceLT,Nat.reduceAdd,Nat.reduceBEq,Int.reduceAdd,Int.reduceSub,Int.reduceLT,Int.reduceLE,Int.reduceEq,Int.reduceNeg,↓reduceIte,reduceCtorEq,List.replicate,c9l0])|apply gC_drawW|((first|apply gI_dec|apply gG_dec|apply gPG_dec|apply gI_var|apply gG_var|apply gPG_var)<;>intro _))
    all_goals try (exfalso;omega)
    all_goals exact weak_flat rfl h0 rfl
end
def cnD (z m:Nat):List D:=List.replicate m (.sc (.int .i64 (z:Int)))
theorem cnD_len (z m:Nat):(cnD z m).length=m:=List.length_replicate
theorem cnD_snoc (z m:Nat):cnD z (m+1)=cnD z m++ [.sc (.int .i64 (z:Int))]:=List.replicate_succ'
theorem cnD_at (z m k:Nat) (h:k<m):dload (cnD z m) k none=some (.sc (.int .i64 (z:Int))):=by
 have e:cnD z m=(List.replicate m (Value.int .i64 (z:Int))).map D.sc:=by unfold cnD;rw[List.map_replicate]
 rw[e,dload_map _ _ _ (by simpa using h),getElem!_pos _ k (by simpa using h),List.getElem_replicate]
 rfl
theorem snap_gr1 {H:VHp} {o t n:Nat} {z:Bool} {l:List D} (h:aget H o=some (.gro t 1 z l)) (hl:l.length=n):snapV H (.gr 2 o n)=some (.sl 2 n l):=by
 simp only[snapV,toD,h]
 rw[if_pos ⟨by omega,by decide,by decide,by decide⟩]
 rfl
theorem snap_ref11 {H:VHp} {o c t n:Nat} {g z:Bool} {l:List D} (h:aget H o=some (.row t 1 g z l)) (hl:l.length=n):snapV H (.ref o 0 n c)=some (.sl 0 n l):=snap_refE h (by omega)
def CnS (z j:Nat) (c:Itp.Obj) (st:VSt):Prop:=j=0∧st=⟨[(3,recO 0),(2,.box 57 1 [.ref 1 0 1 1]),(1,.row 3 1 false false (cnD z 1)),(0,c)],4,0⟩∨0<j∧st=⟨[(4,.gro 3 1 false (cnD z (j+1))),(3,recO 0),(2,.box 57 1 [.gr 2 4 (j+1)]),(0,c)],5,0⟩
abbrev cnB (z:Nat):Itp.Obj:= .box 186 1 [iN z,iN z,iN 0]
section
variable (w:World) (n:Nat)
theorem cnt_round0 {E:Env} (z s k:Nat) (R:List (Bool × List Sti)) (X:Itp.Obj) (Q2:V→VSt→Prop)
  (h0:Q2 (.sc (.bool true)) ⟨[(6,.gro 3 1 false (cnD z 2)),(5,cnB z),(3,recO 0),(2,.box 57 1 [.gr 2 6 2]),(0,chB z s k R)],7,0⟩):
  RoundV E c87a0 c87b0 [(2,.sc (.slice none 0 0)),(3,iN 0),(5,.ptr 2 0)] [18,19] 3 [iN ((0:Nat):Int),.agg [iN z,iN z,iN 0]] ⟨[(5,cnB z),(4,X),(3,recO 0),(2,.box 57 1 [.ref 1 0 1 1]),(1,.row 3 1 false false (cnD z 1)),(0,chB z s k R)],6,0⟩ Q2:=by
 refine ⟨Nat.zero_le _,rfl,(by show (3:Nat)<6;decide),_,rfl,fun C4 h4c h4n=>?_⟩
 repeat' (first|(simp (disch:=try exact z0z) only[WA,slotsL,opdsA,Nat.reduceEqDiff,Nat.reduceLT,Nat.reduceAdd,Nat.reduceBEq,Int.reduceAdd,Int.reduceSub,Int.reduceLT,Int.reduceLE,Int.reduceEq,Int.reduceNeg,↓reduceIte,reduceCtorEq,List.replicate,c87a0])|apply gC_drawW|((first|apply gI_dec|apply gG_dec|apply gPG_dec|apply gI_var|apply gG_var|apply gPG_var)<;>intro _))
 refine ⟨trivial,Nat.zero_le _,trivial,?_⟩
 rw[show cnD z 1= [.sc (.int .i64 (z:Int))] from rfl] at*
 rw[show cnD z 2= [.sc (.int .i64 (z:Int)),.sc (.int .i64 (z:Int))] from rfl] at h0
 repeat' (first|(simp (disch:=try exact z0z) only[WA,slotsL,opdsA,Nat.reduceEqDiff,Nat.reduceLT,Nat.reduceAdd,Nat.reduceBEq,Int.reduceAdd,Int.reduceSub,Int.reduceLT,Int.reduceLE,Int.reduceEq,Int.reduceNeg,↓reduceIte,reduceCtorEq,List.replicate,c87b0])|apply gC_drawW|((first|apply gI_dec|apply gG_dec|apply gPG_dec|apply gI_var|apply gG_var|apply gPG_var)<;>intro _))
 refine ⟨Nat.zero_le _,trivial,_,weak_toB [(8,6),(5,5),(3,3),(2,2),(0,0)] 7 (by rw[h4n];exact Nat.le_of_ble_eq_true rfl) rfl (by rw[h4n];rfl) rfl rfl,?_⟩
 exact h0
theorem cnt_round1 {E:Env} (z s k:Nat) (R:List (Bool × List Sti)) (X:Itp.Obj) (j:Nat) (hj:j≤1000) (Q2:V→VSt→Prop)
  (h0:Q2 (.sc (.bool true)) ⟨[(7,.gro 3 1 false (cnD z (j+2))),(6,cnB z),(3,recO 0),(2,.box 57 1 [.gr 2 7 (j+2)]),(0,chB z s k R)],8,0⟩):
  RoundV E c87a0 c87b0 [(2,.sc (.slice none 0 0)),(3,iN 0),(5,.ptr 2 0)] [18,19] 3 [iN j,.agg [iN z,iN z,iN 0]] ⟨[(6,cnB z),(5,X),(4,.gro 3 1 false (cnD z (j+1))),(3,recO 0),(2,.box 57 1 [.gr 2 4 (j+1)]),(0,chB z s k R)],7,0⟩ Q2:=by
 refine ⟨Nat.zero_le _,rfl,(by show (3:Nat)<7;decide),_,rfl,fun C4 h4c h4n=>?_⟩
 have hs:=cnD_snoc z (j+1)
 have hl:=cnD_len z (j+1)
 repeat' (first|(simp (disch:=try exact z0z) only[WA,slotsL,opdsA,Nat.reduceEqDiff,Nat.reduceLT,Nat.reduceAdd,Nat.reduceBEq,Int.reduceAdd,Int.reduceSub,Int.reduceLT,Int.reduceLE,Int.reduceEq,Int.reduceNeg,↓reduceIte,reduceCtorEq,List.replicate,c87a0])|apply gC_drawW|((first|apply gI_dec|apply gG_dec|apply gPG_dec|apply gI_var|apply gG_var|apply gPG_var)<;>intro _))
 refine ⟨trivial,Nat.zero_le _,trivial,?_⟩
 rw[show j+2=j+1+1 from rfl,hs] at h0
 generalize cnD z (j+1)=A at*
 repeat' (first|(simp (disch:=try exact z0z) only[WA,slotsL,opdsA,Nat.reduceEqDiff,Nat.reduceLT,Nat.reduceAdd,Nat.reduceBEq,Int.reduceAdd,Int.reduceSub,Int.reduceLT,Int.reduceLE,Int.reduceEq,Int.reduceNeg,↓reduceIte,reduceCtorEq,List.replicate,c87b0])|apply gC_drawW|((first|apply gI_dec|apply gG_dec|apply gPG_dec|apply gI_var|apply gG_var|apply gPG_var)<;>intro _))
 all_goals try (exfalso;omega)
 refine ⟨Nat.zero_le _,trivial,_,weak_toB [(9,7),(6,6),(3,3),(2,2),(0,0)] 8 (by rw[h4n];exact Nat.le_of_ble_eq_true rfl) rfl (by rw[h4n];rfl) rfl rfl,?_⟩
 exact h0
theorem counts_p (s k:Nat) (hs:s ≠ 1) (z:Nat) (hz:z≤1000) (R:List (Bool × List Sti)) (hK:KOKR R) (hck:chkC ((z:Int),R)=0) (hpl:plnR R=true):VSpec (EN w (n+10)) 87 [chartV s k (z,R)] (.tup [.sl 3 (R.length+1) (cnD z (R.length+1)),iN 0]) ⟨[],0,0⟩:=by
 have hil:=rowsD_len k R
 have hR:=(chkC_ok hck).1
 simp only at hR
 have hcp:=check26_p w n s k hs z R (by omega) hK
 rw[hck] at hcp
 have hct:=counted_p w (n+8) s k hs z R
 refine vspec_g rfl rfl (fun _ _=>rfl) (Nat.le_of_ble_eq_true rfl) (oldVals w) retOK_fin rfl fun C hC h0=>?_
 repeat' (first|(simp (disch:=try exact z0z) only[WA,slotsL,opdsA,Nat.reduceEqDiff,Nat.reduceLT,Nat.reduceAdd,Nat.reduceBEq,Int.reduceAdd,Int.reduceSub,Int.reduceLT,Int.reduceLE,Int.reduceEq,Int.reduceNeg,↓reduceIte,reduceCtorEq,List.replicate,c87])|apply gC_drawW|((first|apply gI_dec|apply gG_dec|apply gPG_dec|apply gI_var|apply gG_var|apply gPG_var)<;>intro _))
 refine callV_flat (by rw[hC];exact hcp.flat rfl rfl) ?_
 repeat' (first|(simp (disch:=try exact z0z) only[WA,slotsL,opdsA,Nat.reduceEqDiff,Nat.reduceLT,Nat.reduceAdd,Nat.reduceBEq,Int.reduceAdd,Int.reduceSub,Int.reduceLT,Int.reduceLE,Int.reduceEq,Int.reduceNeg,↓reduceIte,reduceCtorEq,List.replicate])|apply gC_drawW|((first|apply gI_dec|apply gG_dec|apply gPG_dec|apply gI_var|apply gG_var|apply gPG_var)<;>intro _))
 refine callV_of (by rw[hC];exact hct) rfl rfl rfl ?_
 repeat' (first|(simp (disch:=try exact z0z) only[WA,slotsL,opdsA,Nat.reduceEqDiff,Nat.reduceLT,Nat.reduceAdd,Nat.reduceBEq,Int.reduceAdd,Int.reduceSub,Int.reduceLT,Int.reduceLE,Int.reduceEq,Int.reduceNeg,↓reduceIte,reduceCtorEq,List.replicate,vsh,shH,shO,vshL,fzSL,fzS])|apply gC_drawW|((first|apply gI_dec|apply gG_dec|apply gPG_dec|apply gI_var|apply gG_var|apply gPG_var)<;>intro _))
 refine g_rangeW (fr':= [(2,.sc (.slice none 0 0)),(3,iN 0),(5,.ptr 2 0),(17,.fn 160 [] [.ptr 0 0])]) (st':=⟨[(2,.box 57 1 [.ref 1 0 1 1]),(1,.row 3 1 false false (cnD z 1)),(0,chB z s k R)],3,0⟩) ?_ ?_
 ·exact weak_to [(2,2),(1,1),(3,0)] 3 h0 rfl rfl rfl rfl
 refine g_range hC rfl rfl rfl (Nat.le_of_ble_eq_true rfl) rfl (Nat.zero_le _) fun C2 h2n h2r h2p h2o hT=>?_
 repeat' (first|(simp (disch:=try exact z0z) only[WA,slotsL,opdsA,Nat.reduceEqDiff,Nat.reduceLT,Nat.reduceAdd,Nat.reduceBEq,Int.reduceAdd,Int.reduceSub,Int.reduceLT,Int.reduceLE,Int.reduceEq,Int.reduceNeg,↓reduceIte,reduceCtorEq,List.replicate,c160])|apply gC_drawW|((first|apply gI_dec|apply gG_dec|apply gPG_dec|apply gI_var|apply gG_var|apply gPG_var)<;>intro _))
 refine g_while (fun m fr st=>∃ (j:Nat),m=R.length - j∧j≤R.length∧CnS z j (chB z s k R) st∧fr= [(0,.tok 3),(3,iN z),(12,.sl s R.length (rowsD k R)),(13,iN R.length),(14,iN j)]) R.length ?_ ⟨_,_,.refl _ _,0,by omega,Nat.zero_le _,.inl ⟨rfl,rfl⟩,rfl⟩ ?_
 ·rw[h2r];unfold many;omega
 rintro m fr st ⟨j,rfl,hj,hv,rfl⟩
 by_cases hlt:j<R.length
 case neg=>
  have:j=R.length:=by omega
  subst this
  have hcl:=cnD_len z (R.length+1)
  rcases hv with ⟨hz0,rfl⟩|⟨hj0,rfl⟩
  ·repeat' (first|(simp (disch:=try exact z0z) only[WA,slotsL,opdsA,Nat.reduceEqDiff,Nat.reduceLT,Nat.reduceAdd,Nat.reduceBEq,Int.reduceAdd,Int.reduceSub,Int.reduceLT,Int.reduceLE,Int.reduceEq,Int.reduceNeg,↓reduceIte,reduceCtorEq,List.replicate,c160l0])|apply gC_drawW|((first|apply gI_dec|apply gG_dec|apply gPG_dec|apply gI_var|apply gG_var|apply gPG_var)<;>intro _))
   all_goals try (exfalso;omega)
   refine ⟨fun i h=>(by cases h),Nat.zero_le _,0,.normal,rfl,rfl,?_⟩
   rw[hz0]
   repeat' (first|(simp (disch:=try exact z0z) only[WA,slotsL,opdsA,Nat.reduceEqDiff,Nat.reduceLT,Nat.reduceAdd,Nat.reduceBEq,Int.reduceAdd,Int.reduceSub,Int.reduceLT,Int.reduceLE,Int.reduceEq,Int.reduceNeg,↓reduceIte,reduceCtorEq,List.replicate])|apply gC_drawW|((first|apply gI_dec|apply gG_dec|apply gPG_dec|apply gI_var|apply gG_var|apply gPG_var)<;>intro _))
   exact weak_fin (snap_ref11 rfl (cnD_len z 1)) rfl (.inl (by decide)) h0 rfl
  ·repeat' (first|(simp (disch:=try exact z0z) only[WA,slotsL,opdsA,Nat.reduceEqDiff,Nat.reduceLT,Nat.reduceAdd,Nat.reduceBEq,Int.reduceAdd,Int.reduceSub,Int.reduceLT,Int.reduceLE,Int.reduceEq,Int.reduceNeg,↓reduceIte,reduceCtorEq,List.replicate,c160l0])|apply gC_drawW|((first|apply gI_dec|apply gG_dec|apply gPG_dec|apply gI_var|apply gG_var|apply gPG_var)<;>intro _))
   all_goals try (exfalso;omega)
   refine ⟨fun i h=>(by cases h),Nat.zero_le _,0,.normal,rfl,rfl,?_⟩
   repeat' (first|(simp (disch:=try exact z0z) only[WA,slotsL,opdsA,Nat.reduceEqDiff,Nat.reduceLT,Nat.reduceAdd,Nat.reduceBEq,Int.reduceAdd,Int.reduceSub,Int.reduceLT,Int.reduceLE,Int.reduceEq,Int.reduceNeg,↓reduceIte,reduceCtorEq,List.replicate])|apply gC_drawW|((first|apply gI_dec|apply gG_dec|apply gPG_dec|apply gI_var|apply gG_var|apply gPG_var)<;>intro _))
   exact weak_fin (snap_gr1 rfl hcl) rfl (.inl (by decide)) h0 rfl
 have hag:=rowsD_agg k R j hlt
 have hk:=hK.at hlt
 have hu:=suses_p w (n+1) k R[j]!.2 hk.2 hk.1
 have hm:=smakes_p w (n+1) k R[j]!.2 hk.2 hk.1
 have hlen:=rows_len hck hpl hlt
 have hal:=chkC_row hck hlt
 simp only at hal
 have hss:=sumS_pln (rows_pln hpl hlt)
 unfold usesF at hu
 unfold makesF at hm
 rw[if_pos hal,hss.1,hlen] at hu
 rw[if_pos hal,hss.2,hlen] at hm
 generalize hr:R[j]! =r at*
 obtain ⟨b,L⟩:=r
 simp only at hu hm hk
 rcases hv with ⟨rfl,rfl⟩|⟨hj0,rfl⟩
 ·repeat' (first|(simp (disch:=try exact z0z) only[WA,slotsL,opdsA,Nat.reduceEqDiff,Nat.reduceLT,Nat.reduceAdd,Nat.reduceBEq,Int.reduceAdd,Int.reduceSub,Int.reduceLT,Int.reduceLE,Int.reduceEq,Int.reduceNeg,↓reduceIte,reduceCtorEq,List.replicate,c160l0,hag])|apply gC_drawW|((first|apply gI_dec|apply gG_dec|apply gPG_dec|apply gI_var|apply gG_var|apply gPG_var)<;>intro _))
  all_goals try (exfalso;omega)
  refine callV_flat ((hu.flat rfl rfl).env h2p h2o) ?_
  repeat' (first|(simp (disch:=try exact z0z) only[WA,slotsL,opdsA,Nat.reduceEqDiff,Nat.reduceLT,Nat.reduceAdd,Nat.reduceBEq,Int.reduceAdd,Int.reduceSub,Int.reduceLT,Int.reduceLE,Int.reduceEq,Int.reduceNeg,↓reduceIte,reduceCtorEq,List.replicate])|apply gC_drawW|((first|apply gI_dec|apply gG_dec|apply gPG_dec|apply gI_var|apply gG_var|apply gPG_var)<;>intro _))
  refine callV_flat ((hm.flat rfl rfl).env h2p h2o) ?_
  repeat' (first|(simp (disch:=try exact z0z) only[WA,slotsL,opdsA,Nat.reduceEqDiff,Nat.reduceLT,Nat.reduceAdd,Nat.reduceBEq,Int.reduceAdd,Int.reduceSub,Int.reduceLT,Int.reduceLE,Int.reduceEq,Int.reduceNeg,↓reduceIte,reduceCtorEq,List.replicate])|apply gC_drawW|((first|apply gI_dec|apply gG_dec|apply gPG_dec|apply gI_var|apply gG_var|apply gPG_var)<;>intro _))
  refine hT _ _ _ (cnt_round0 z s k R _ _ ?_)
  repeat' (first|(simp (disch:=try exact z0z) only[WA,slotsL,opdsA,Nat.reduceEqDiff,Nat.reduceLT,Nat.reduceAdd,Nat.reduceBEq,Int.reduceAdd,Int.reduceSub,Int.reduceLT,Int.reduceLE,Int.reduceEq,Int.reduceNeg,↓reduceIte,reduceCtorEq,List.replicate])|apply gC_drawW|((first|apply gI_dec|apply gG_dec|apply gPG_dec|apply gI_var|apply gG_var|apply gPG_var)<;>intro _))
  exact ⟨R.length - 1,_,_,by omega,weak_toB [(6,4),(3,3),(2,2),(0,0)] 5 (by rw[h2n];exact Nat.le_of_ble_eq_true rfl) rfl (by rw[h2n];rfl) rfl rfl,1,by omega,by omega,.inr ⟨by omega,rfl⟩,rfl⟩
 ·repeat' (first|(simp (disch:=try exact z0z) only[WA,slotsL,opdsA,Nat.reduceEqDiff,Nat.reduceLT,Nat.reduceAdd,Nat.reduceBEq,Int.reduceAdd,Int.reduceSub,Int.reduceLT,Int.reduceLE,Int.reduceEq,Int.reduceNeg,↓reduceIte,reduceCtorEq,List.replicate,c160l0,hag])|apply gC_drawW|((first|apply gI_dec|apply gG_dec|apply gPG_dec|apply gI_var|apply gG_var|apply gPG_var)<;>intro _))
  all_goals try (exfalso;omega)
  refine callV_flat ((hu.flat rfl rfl).env h2p h2o) ?_
  repeat' (first|(simp (disch:=try exact z0z) only[WA,slotsL,opdsA,Nat.reduceEqDiff,Nat.reduceLT,Nat.reduceAdd,Nat.reduceBEq,Int.reduceAdd,Int.reduceSub,Int.reduceLT,Int.reduceLE,Int.reduceEq,Int.reduceNeg,↓reduceIte,reduceCtorEq,List.replicate])|apply gC_drawW|((first|apply gI_dec|apply gG_dec|apply gPG_dec|apply gI_var|apply gG_var|apply gPG_var)<;>intro _))
  refine callV_flat ((hm.flat rfl rfl).env h2p h2o) ?_
  repeat' (first|(simp (disch:=try exact z0z) only[WA,slotsL,opdsA,Nat.reduceEqDiff,Nat.reduceLT,Nat.reduceAdd,Nat.reduceBEq,Int.reduceAdd,Int.reduceSub,Int.reduceLT,Int.reduceLE,Int.reduceEq,Int.reduceNeg,↓reduceIte,reduceCtorEq,List.replicate])|apply gC_drawW|((first|apply gI_dec|apply gG_dec|apply gPG_dec|apply gI_var|apply gG_var|apply gPG_var)<;>intro _))
  refine hT _ _ _ (cnt_round1 z s k R _ j (by omega) _ ?_)
  repeat' (first|(simp (disch:=try exact z0z) only[WA,slotsL,opdsA,Nat.reduceEqDiff,Nat.reduceLT,Nat.reduceAdd,Nat.reduceBEq,Int.reduceAdd,Int.reduceSub,Int.reduceLT,Int.reduceLE,Int.reduceEq,Int.reduceNeg,↓reduceIte,reduceCtorEq,List.replicate])|apply gC_drawW|((first|apply gI_dec|apply gG_dec|apply gPG_dec|apply gI_var|apply gG_var|apply gPG_var)<;>intro _))
  exact ⟨R.length - (j+1),_,_,by omega,weak_toB [(7,4),(3,3),(2,2),(0,0)] 5 (by rw[h2n];exact Nat.le_of_ble_eq_true rfl) rfl (by rw[h2n];rfl) rfl rfl,j+1,rfl,by omega,.inr ⟨by omega,rfl⟩,rfl⟩
end
theorem rowsC_take:∀ (R:List (Bool × List Sti)) (z:Int) (i:Nat),rowsC z R=0→rowsC z (R.take i)=0
 | [],_,i,_=>by rw[List.take_nil];rfl
 |r::R,z,0,_=>rfl
 |r::R,z,i+1,h=>by
  by_cases h1:allF r.2=0
  case neg=>rw[rowsC_bad h1] at h;exact absurd h h1
  by_cases h2:sumS usedS r.2=z
  case neg=>rw[rowsC_cnt h1 h2] at h;cases h
  rw[rowsC_go h1 h2] at h
  rw[List.take_succ_cons,rowsC_go h1 h2]
  exact rowsC_take R _ i h
theorem chkC_take {z:Int} {R:List (Bool × List Sti)} (h:chkC (z,R)=0) (i:Nat):chkC (z,R.take i)=0:=by
 obtain ⟨h1,h2,h3,h4⟩:=chkC_ok h
 simp only at h1 h2 h3 h4
 have:=List.length_take_le' i R
 unfold chkC
 rw[if_neg (by simp only;omega),if_neg (by simp only;omega)]
 exact rowsC_take R z i h4
theorem plnR_take {R:List (Bool × List Sti)} (h:plnR R=true) (i:Nat):plnR (R.take i)=true:=by
 unfold plnR at*
 rw[List.all_eq_true] at*
 exact fun x hx=>h x (List.mem_of_mem_take hx)
theorem KOKR_take {R:List (Bool × List Sti)} (h:KOKR R) (i:Nat):KOKR (R.take i):=fun r hr=>h r (List.mem_of_mem_take hr)
theorem rowsI_take:∀ (R:List (Bool × List Sti)) (i:Nat) (B:List Bool) (m:Nat),(rowsI i B (R.take m)).length≤(rowsI i B R).length
 | [],_,_,m=>by rw[List.take_nil];exact Nat.le_refl _
 |r::R,i,B,0=>Nat.zero_le _
 |r::R,i,B,m+1=>by
  rw[List.take_succ_cons,rowsI,rowsI,List.length_append,List.length_append]
  have:=rowsI_take R (i+1) (bedQ B (seenF r) (seenF r).length) m
  omega
theorem compF_ok {z:Nat} {R:List (Bool × List Sti)} (h:(compF ((z:Int),R)).2=0):chkC ((z:Int),R)=0∧plnR R=true∧z≤101∧(compL z R).length≤2000∧(compF ((z:Int),R)).1=compL z R:=by
 unfold compF at h ⊢
 by_cases e1:chkC ((z:Int),R)=0
 case neg=>rw[if_pos e1] at h;exact absurd h e1
 rw[if_neg (fun x=>x e1)] at h ⊢
 by_cases e2:plnF ((z:Int),R)=true
 case neg=>rw[if_neg e2] at h;cases h
 rw[if_pos e2] at h ⊢
 have e3:=e2
 unfold plnF at e3
 simp only[Bool.and_eq_true,decide_eq_true_eq] at e3
 simp only[Int.toNat_natCast] at h ⊢
 by_cases e4:2000<(compL z R).length
 ·rw[if_pos e4] at h;cases h
 ·rw[if_neg e4];exact ⟨e1,e3.1,by omega,by omega,rfl⟩
theorem compF_take {z:Nat} {R:List (Bool × List Sti)} (h:(compF ((z:Int),R)).2=0) (i:Nat):compF ((z:Int),R.take i)=(compL z (R.take i),0):=by
 obtain ⟨h1,h2,h3,h4,_⟩:=compF_ok h
 have hl:(compL z (R.take i)).length≤2000:=by
  unfold compL at h4 ⊢
  rw[List.length_append] at h4 ⊢
  have:=rowsI_take R 0 (List.replicate z false) i
  omega
 unfold compF
 rw[if_neg (fun x=>x (chkC_take h1 i)),if_pos (by unfold plnF;simp only[Bool.and_eq_true,decide_eq_true_eq];exact ⟨plnR_take h2 i,by omega⟩)]
 simp only[Int.toNat_natCast]
 rw[if_neg (by omega)]
theorem comp0 {R:List (Bool × List Sti)} (h1:chkC ((0:Nat),R)=0) (h2:plnR R=true):compL 0 R= [in1]:=by
 unfold compL
 rw[show List.replicate 0 false= [] from rfl,rowsI_nil R 0 fun r hr=>by
  obtain ⟨i,hi,rfl⟩:=List.getElem_of_mem hr
  have:R[i]!.2= []:=List.eq_nil_of_length_eq_zero (rows_len h1 h2 hi)
  rwa [getElem!_pos R i hi] at this]
 rfl
theorem partD_rows (k:Nat) (R:List (Bool × List Sti)) (i:Nat) (h:i≤R.length):partD (rowsD k R) 0 (i*2)=rowsD k (R.take i):=by
 have h1:(rowsD k (R.take i)).length=i*2:=by rw[rowsD_len,List.length_take];congr 1;omega
 have h2:rowsD k R=rowsD k (R.take i)++rowsD k (R.drop i):=by rw[← rowsD_app,List.take_append_drop]
 unfold partD
 rw[h2,Nat.sub_zero,List.drop_zero,List.take_left' h1]
section
variable (w:World) (n:Nat)
theorem part_p (k:Nat) (z:Nat) (hz:0<z) (R:List (Bool × List Sti)) (hK:KOKR R) (hck:chkC ((z:Int),R)=0) (hpl:plnR R=true) (i:Nat) (hi:i≤R.length):VSpec (EN w (n+11)) 39 [chartV 3 k (z,R),iN 0,iN i] (.tup [chartV 3 0 (z,R.take i),iN 0]) ⟨[],0,0⟩:=by
 have hR:=(chkC_ok hck)
 simp only at hR
 have hil:=rowsD_len k R
 have hct:=counts_p w n 3 k (by decide) z (by omega) R hK hck hpl
 have htw:=twin_p w (n+9) 3 k (R.take i) (by rw[List.length_take];omega) fun r hr=>by
  have hr2:=List.mem_of_mem_take hr
  obtain ⟨j,hj,rfl⟩:=List.getElem_of_mem hr2
  have:=rows_len hck hpl hj
  rw[getElem!_pos R j hj] at this
  rw[this];omega
 have hpd:=partD_rows k R i hi
 have htl:(R.take i).length=i:=by rw[List.length_take];omega
 rw[htl] at htw
 have hcl:=cnD_len z (R.length+1)
 have hca:dload (cnD z (R.length+1)) 0 none=some (iN z):=cnD_at z (R.length+1) 0 (by omega)
 show VSpec (EN w (n+11)) 39 [chartV 3 k (z,R),iN 0,iN i] (.tup [.agg [iN z,.sl 3 (R.take i).length (rowsD 0 (R.take i))],iN 0]) ⟨[],0,0⟩
 rw[htl]
 refine vspec_g rfl rfl (fun _ _=>rfl) (Nat.le_of_ble_eq_true rfl) (oldVals w) (retOK_nil (by simp only[Cl,ClL,and_true,true_and];rfl)) rfl fun C hC h0=>?_
 generalize cnD z (R.length+1)=A at*
 repeat' (first|(simp (disch:=try exact z0z) only[WA,slotsL,opdsA,Nat.reduceEqDiff,Nat.reduceLT,Nat.reduceAdd,Nat.reduceBEq,Int.reduceAdd,Int.reduceSub,Int.reduceLT,Int.reduceLE,Int.reduceEq,Int.reduceNeg,↓reduceIte,reduceCtorEq,List.replicate,c39])|apply gC_drawW|((first|apply gI_dec|apply gG_dec|apply gPG_dec|apply gI_var|apply gG_var|apply gPG_var)<;>intro _))
 refine callV_fin (by rw[hC];exact hct) rfl rfl (fun _=>rfl) ?_
 repeat' (first|(simp (disch:=try exact z0z) only[WA,slotsL,opdsA,Nat.reduceEqDiff,Nat.reduceLT,Nat.reduceAdd,Nat.reduceBEq,Int.reduceAdd,Int.reduceSub,Int.reduceLT,Int.reduceLE,Int.reduceEq,Int.reduceNeg,↓reduceIte,reduceCtorEq,List.replicate,hcl,hca,hpd,tn0,Nat.sub_zero,Nat.zero_mul])|apply gC_drawW|((first|apply gI_dec|apply gG_dec|apply gPG_dec|apply gI_var|apply gG_var|apply gPG_var)<;>intro _))
 all_goals try (exfalso;omega)
 refine callR_last trivial trivial (by rw[hC];exact htw) rfl rfl (fun _=>rfl) ?_
 repeat' (first|(simp (disch:=try exact z0z) only[WA,slotsL,opdsA,Nat.reduceEqDiff,Nat.reduceLT,Nat.reduceAdd,Nat.reduceBEq,Int.reduceAdd,Int.reduceSub,Int.reduceLT,Int.reduceLE,Int.reduceEq,Int.reduceNeg,↓reduceIte,reduceCtorEq,List.replicate,gT_nil])|apply gC_drawW|((first|apply gI_dec|apply gG_dec|apply gPG_dec|apply gI_var|apply gG_var|apply gPG_var)<;>intro _))
 exact weak_to [] 0 h0 rfl rfl rfl rfl
end
end Go.Proofs.YtgohenjcanfolaaGreatDoor
