/- What is proved: the law KnitlogFinds returns true for every input.
   Texts: D44V, C44VA, R44V, H44V, P41a, P41b, P41c, P41d, P41e, N44a, N44b, N44c, N44d, K33a, K33b, N44e, N44f, N44g, N44h, N44i, N44j, N44k, N44l, N44m, N44n, J44a, J44b, J44c, J44d, J44e.
-/
import Derived.Test.YtgohenjcanfolaaGreatDoorPart5
import Derived.KernelRfl
import Derived.Test.YtgohenjcanfolaaGreatDoorProg
import Derived.Lib.Join
namespace Go.Proofs.YtgohenjcanfolaaGreatDoor
open Go Go.Itp
set_option maxRecDepth 100000
theorem harm_do:Harm Tryz.prog 114:=harm_nil (ms:=#[]) Tryz.func114 (by kernel_rfl) rfl rfl (by decide) (by decide)
end Go.Proofs.YtgohenjcanfolaaGreatDoor
/-
  The seat's functions as the interpreter runs them: reckoned out of the loaded form, and shown equal to it.
-/
namespace Go.Proofs.YtgohenjcanfolaaGreatDoor
open Go Go.Itp
set_option maxRecDepth 100000
set_option maxHeartbeats 40000000
noncomputable section
abbrev gzI : List Nat := [44, 46, 92, 175, 176, 177, 210, 78, 128, 169, 62, 114, 115, 116, 117, 118, 119, 131, 153, 154, 155, 156, 158, 159, 171, 191, 194, 198, 217, 190, 192, 109, 152, 218, 221, 222, 228, 229, 230, 231, 232, 233, 234, 235, 236, 237, 238, 239, 240, 241, 242, 243, 244, 245, 246, 247]
theorem gk {n : Nat} {f : Func} {a : AFun} (h1 : Tryz.prog.funcs[n]? = some f) (h2 : (f.name == "runtime.NumGoroutine") = false := by kernel_rfl) (h : gzT Tryz.prog f a.code = some (a.code, a.n, a.res) := by kernel_rfl) : FunOK Tryz.prog n a := gok h1 h2 h
def c5r : AFun := gzx Tryz.prog gzI true Tryz.f5
def c5l0 : AC := gzl c5r 0 []
attribute [local irreducible] c5l0
def c5 : AFun := gzn c5r [c5l0]
def c15r : AFun := gzx Tryz.prog gzI true Tryz.f15
def c15l0 : AC := gzl c15r 0 []
attribute [local irreducible] c15l0
def c15 : AFun := gzn c15r [c15l0]
def c18 : AFun := gzx Tryz.prog gzI true Tryz.f18
def c22r : AFun := gzx Tryz.prog gzI true Tryz.f22
def c22b0 : AC := gzl c22r 2 []
attribute [local irreducible] c22b0
def c22a0 : AC := gzl c22r 1 []
attribute [local irreducible] c22a0
def c22l0 : AC := gzl c22r 0 []
attribute [local irreducible] c22l0
def c22 : AFun := gzn c22r [c22l0, c22a0, c22b0]
def c23r : AFun := gzx Tryz.prog gzI true Tryz.f23
def c23l0 : AC := gzl c23r 0 []
attribute [local irreducible] c23l0
def c23 : AFun := gzn c23r [c23l0]
def c25 : AFun := gzx Tryz.prog gzI true Tryz.f25
def c26 : AFun := gzx Tryz.prog gzI true Tryz.f26
def c27r : AFun := gzx Tryz.prog gzI true Tryz.f27
def c27l0 : AC := gzl c27r 0 []
attribute [local irreducible] c27l0
def c27 : AFun := gzn c27r [c27l0]
def c28r : AFun := gzx Tryz.prog gzI true Tryz.f28
def c28l0 : AC := gzl c28r 0 []
attribute [local irreducible] c28l0
def c28 : AFun := gzn c28r [c28l0]
def c29r : AFun := gzx Tryz.prog gzI true Tryz.f29
def c29l0 : AC := gzl c29r 3 []
attribute [local irreducible] c29l0
def c29l1 : AC := gzl c29r 2 []
attribute [local irreducible] c29l1
def c29l2 : AC := gzl c29r 1 [c29l1, c29l0]
attribute [local irreducible] c29l2
def c29l3 : AC := gzl c29r 0 []
attribute [local irreducible] c29l3
def c29 : AFun := gzn c29r [c29l3, c29l2, c29l1, c29l0]
def c30r : AFun := gzx Tryz.prog gzI true Tryz.f30
def c30l0 : AC := gzl c30r 2 []
attribute [local irreducible] c30l0
def c30l1 : AC := gzl c30r 1 [c30l0]
attribute [local irreducible] c30l1
def c30l2 : AC := gzl c30r 0 []
attribute [local irreducible] c30l2
def c30 : AFun := gzn c30r [c30l2, c30l1, c30l0]
def c32 : AFun := gzx Tryz.prog gzI true Tryz.f32
def c34 : AFun := gzx Tryz.prog gzI true Tryz.f34
def c35 : AFun := gzx Tryz.prog gzI true Tryz.f35
def c36 : AFun := gzx Tryz.prog gzI true Tryz.f36
def c41 : AFun := gzx Tryz.prog gzI true Tryz.f41
def c42 : AFun := gzx Tryz.prog gzI true Tryz.f42
def c44 : AFun := gzx Tryz.prog gzI false Tryz.f44
def c46 : AFun := gzx Tryz.prog gzI false Tryz.f46
def c48r : AFun := gzx Tryz.prog gzI true Tryz.f48
def c48l0 : AC := gzl c48r 0 []
attribute [local irreducible] c48l0
def c48 : AFun := gzn c48r [c48l0]
def c49 : AFun := gzx Tryz.prog gzI true Tryz.f49
def c50r : AFun := gzx Tryz.prog gzI true Tryz.f50
def c50l0 : AC := gzl c50r 0 []
attribute [local irreducible] c50l0
def c50 : AFun := gzn c50r [c50l0]
def c53r : AFun := gzx Tryz.prog gzI true Tryz.f53
def c53l0 : AC := gzl c53r 0 []
attribute [local irreducible] c53l0
def c53 : AFun := gzn c53r [c53l0]
def c54 : AFun := gzx Tryz.prog gzI true Tryz.f54
def c55 : AFun := gzx Tryz.prog gzI true Tryz.f55
def c58r : AFun := gzx Tryz.prog gzI true Tryz.f58
def c58l0 : AC := gzl c58r 2 []
attribute [local irreducible] c58l0
def c58l1 : AC := gzl c58r 1 []
attribute [local irreducible] c58l1
def c58l2 : AC := gzl c58r 0 []
attribute [local irreducible] c58l2
def c58 : AFun := gzn c58r [c58l2, c58l1, c58l0]
def c59 : AFun := gzx Tryz.prog gzI true Tryz.f59
def c60 : AFun := gzx Tryz.prog gzI true Tryz.f60
def c61r : AFun := gzx Tryz.prog gzI true Tryz.f61
def c61l0 : AC := gzl c61r 1 []
attribute [local irreducible] c61l0
def c61l1 : AC := gzl c61r 0 []
attribute [local irreducible] c61l1
def c61 : AFun := gzn c61r [c61l1, c61l0]
def c62 : AFun := gzx Tryz.prog gzI false (gzFd Tryz.f62)
def c63 : AFun := gzx Tryz.prog gzI true Tryz.f63
def c64 : AFun := gzx Tryz.prog gzI true Tryz.f64
def c65r : AFun := gzx Tryz.prog gzI true Tryz.f65
def c65l0 : AC := gzl c65r 1 []
attribute [local irreducible] c65l0
def c65l1 : AC := gzl c65r 0 []
attribute [local irreducible] c65l1
def c65 : AFun := gzn c65r [c65l1, c65l0]
def c66 : AFun := gzx Tryz.prog gzI true Tryz.f66
def c67r : AFun := gzx Tryz.prog gzI true Tryz.f67
def c67l0 : AC := gzl c67r 0 []
attribute [local irreducible] c67l0
def c67 : AFun := gzn c67r [c67l0]
def c68 : AFun := gzx Tryz.prog gzI true Tryz.f68
def c69r : AFun := gzx Tryz.prog gzI true Tryz.f69
def c69l0 : AC := gzl c69r 0 []
attribute [local irreducible] c69l0
def c69 : AFun := gzn c69r [c69l0]
def c70 : AFun := gzx Tryz.prog gzI true Tryz.f70
def c71 : AFun := gzx Tryz.prog gzI true Tryz.f71
def c72r : AFun := gzx Tryz.prog gzI true Tryz.f72
def c72l0 : AC := gzl c72r 0 []
attribute [local irreducible] c72l0
def c72 : AFun := gzn c72r [c72l0]
def c73 : AFun := gzx Tryz.prog gzI true Tryz.f73
def c74 : AFun := gzx Tryz.prog gzI true Tryz.f74
def c75 : AFun := gzx Tryz.prog gzI true Tryz.f75
def c76r : AFun := gzx Tryz.prog gzI true Tryz.f76
def c76b0 : AC := gzl c76r 1 []
attribute [local irreducible] c76b0
def c76a0 : AC := gzl c76r 0 []
attribute [local irreducible] c76a0
def c76 : AFun := gzn c76r [c76a0, c76b0]
def c77r : AFun := gzx Tryz.prog gzI true Tryz.f77
def c77l0 : AC := gzl c77r 0 []
attribute [local irreducible] c77l0
def c77 : AFun := gzn c77r [c77l0]
def c78r : AFun := gzx Tryz.prog gzI false Tryz.f78
def c78l0 : AC := gzl c78r 0 []
attribute [local irreducible] c78l0
def c78 : AFun := gzn c78r [c78l0]
def c81r : AFun := gzx Tryz.prog gzI true Tryz.f81
def c81b0 : AC := gzl c81r 1 []
attribute [local irreducible] c81b0
def c81a0 : AC := gzl c81r 0 []
attribute [local irreducible] c81a0
def c81 : AFun := gzn c81r [c81a0, c81b0]
def c82 : AFun := gzx Tryz.prog gzI true Tryz.f82
def c83 : AFun := gzx Tryz.prog gzI true Tryz.f83
def c84 : AFun := gzx Tryz.prog gzI true Tryz.f84
def c85 : AFun := gzx Tryz.prog gzI true Tryz.f85
def c90 : AFun := gzx Tryz.prog gzI true Tryz.f90
def c91r : AFun := gzx Tryz.prog gzI true Tryz.f91
def c91l0 : AC := gzl c91r 0 []
attribute [local irreducible] c91l0
def c91 : AFun := gzn c91r [c91l0]
def c92 : AFun := gzx Tryz.prog gzI false Tryz.f92
def c95r : AFun := gzx Tryz.prog gzI true Tryz.f95
def c95l0 : AC := gzl c95r 0 []
attribute [local irreducible] c95l0
def c95 : AFun := gzn c95r [c95l0]
def c97 : AFun := gzx Tryz.prog gzI true Tryz.f97
def c98 : AFun := gzx Tryz.prog gzI true Tryz.f98
def c99 : AFun := gzx Tryz.prog gzI true Tryz.f99
def c100 : AFun := gzx Tryz.prog gzI true Tryz.f100
def c101r : AFun := gzx Tryz.prog gzI true Tryz.f101
def c101l0 : AC := gzl c101r 0 []
attribute [local irreducible] c101l0
def c101 : AFun := gzn c101r [c101l0]
def c103 : AFun := gzx Tryz.prog gzI true Tryz.f103
def c104 : AFun := gzx Tryz.prog gzI true Tryz.f104
def c105r : AFun := gzx Tryz.prog gzI true Tryz.f105
def c105l0 : AC := gzl c105r 0 []
attribute [local irreducible] c105l0
def c105 : AFun := gzn c105r [c105l0]
def c106 : AFun := gzx Tryz.prog gzI true Tryz.f106
def c107r : AFun := gzx Tryz.prog gzI true Tryz.f107
def c107l0 : AC := gzl c107r 0 []
attribute [local irreducible] c107l0
def c107 : AFun := gzn c107r [c107l0]
def c108 : AFun := gzx Tryz.prog gzI true Tryz.f108
def c109r : AFun := gzx Tryz.prog gzI false Tryz.f109
def c109l0 : AC := gzl c109r 0 []
attribute [local irreducible] c109l0
def c109 : AFun := gzn c109r [c109l0]
def c110 : AFun := gzx Tryz.prog gzI true Tryz.f110
def c111 : AFun := gzx Tryz.prog gzI true Tryz.f111
def c112 : AFun := gzx Tryz.prog gzI true Tryz.f112
def c113 : AFun := gzx Tryz.prog gzI true Tryz.f113
def c115 : AFun := gzx Tryz.prog gzI false Tryz.f115
def c116 : AFun := gzx Tryz.prog gzI false Tryz.f116
def c117 : AFun := gzx Tryz.prog gzI false Tryz.f117
def c118 : AFun := gzx Tryz.prog gzI false Tryz.f118
def c119 : AFun := gzx Tryz.prog gzI false Tryz.f119
def c120r : AFun := gzx Tryz.prog gzI true Tryz.f120
def c120l0 : AC := gzl c120r 0 []
attribute [local irreducible] c120l0
def c120 : AFun := gzn c120r [c120l0]
def c121 : AFun := gzx Tryz.prog gzI true Tryz.f121
def c122 : AFun := gzx Tryz.prog gzI true Tryz.f122
def c123 : AFun := gzx Tryz.prog gzI true Tryz.f123
def c124 : AFun := gzx Tryz.prog gzI true Tryz.f124
def c127 : AFun := gzx Tryz.prog gzI true Tryz.f127
def c128 : AFun := gzx Tryz.prog gzI false Tryz.f128
def c129 : AFun := gzx Tryz.prog gzI true Tryz.f129
def c130r : AFun := gzx Tryz.prog gzI true Tryz.f130
def c130l0 : AC := gzl c130r 0 []
attribute [local irreducible] c130l0
def c130 : AFun := gzn c130r [c130l0]
def c131 : AFun := gzx Tryz.prog gzI false Tryz.f131
def c133 : AFun := gzx Tryz.prog gzI true Tryz.f133
def c134 : AFun := gzx Tryz.prog gzI true Tryz.f134
def c135 : AFun := gzx Tryz.prog gzI true Tryz.f135
def c136r : AFun := gzx Tryz.prog gzI true Tryz.f136
def c136l0 : AC := gzl c136r 1 []
attribute [local irreducible] c136l0
def c136l1 : AC := gzl c136r 0 []
attribute [local irreducible] c136l1
def c136 : AFun := gzn c136r [c136l1, c136l0]
def c141r : AFun := gzx Tryz.prog gzI true Tryz.f141
def c141l0 : AC := gzl c141r 0 []
attribute [local irreducible] c141l0
def c141 : AFun := gzn c141r [c141l0]
def c142 : AFun := gzx Tryz.prog gzI true Tryz.f142
def c143r : AFun := gzx Tryz.prog gzI true Tryz.f143
def c143l0 : AC := gzl c143r 0 []
attribute [local irreducible] c143l0
def c143 : AFun := gzn c143r [c143l0]
def c144 : AFun := gzx Tryz.prog gzI true Tryz.f144
def c145r : AFun := gzx Tryz.prog gzI true Tryz.f145
def c145l0 : AC := gzl c145r 0 []
attribute [local irreducible] c145l0
def c145 : AFun := gzn c145r [c145l0]
def c146 : AFun := gzx Tryz.prog gzI true Tryz.f146
def c147 : AFun := gzx Tryz.prog gzI true Tryz.f147
def c150 : AFun := gzx Tryz.prog gzI true Tryz.f150
def c151 : AFun := gzx Tryz.prog gzI true Tryz.f151
def c152r : AFun := gzx Tryz.prog gzI false Tryz.f152
def c152l0 : AC := gzl c152r 1 []
attribute [local irreducible] c152l0
def c152l1 : AC := gzl c152r 0 [c152l0]
attribute [local irreducible] c152l1
def c152 : AFun := gzn c152r [c152l1, c152l0]
def c153 : AFun := gzx Tryz.prog gzI false Tryz.f153
def c154 : AFun := gzx Tryz.prog gzI false Tryz.f154
def c155 : AFun := gzx Tryz.prog gzI false Tryz.f155
def c156 : AFun := gzx Tryz.prog gzI false Tryz.f156
def c157 : AFun := gzx Tryz.prog gzI true Tryz.f157
def c158 : AFun := gzx Tryz.prog gzI false Tryz.f158
def c159 : AFun := gzx Tryz.prog gzI false Tryz.f159
def c160r : AFun := gzx Tryz.prog gzI true Tryz.f160
def c160l0 : AC := gzl c160r 0 []
attribute [local irreducible] c160l0
def c160 : AFun := gzn c160r [c160l0]
def c161 : AFun := gzx Tryz.prog gzI true Tryz.f161
def c162 : AFun := gzx Tryz.prog gzI true Tryz.f162
def c163r : AFun := gzx Tryz.prog gzI true Tryz.f163
def c163l0 : AC := gzl c163r 0 []
attribute [local irreducible] c163l0
def c163 : AFun := gzn c163r [c163l0]
def c166 : AFun := gzx Tryz.prog gzI true Tryz.f166
def c167 : AFun := gzx Tryz.prog gzI true Tryz.f167
def c168r : AFun := gzx Tryz.prog gzI true Tryz.f168
def c168l0 : AC := gzl c168r 0 []
attribute [local irreducible] c168l0
def c168 : AFun := gzn c168r [c168l0]
def c169r : AFun := gzx Tryz.prog gzI false Tryz.f169
def c169l0 : AC := gzl c169r 0 []
attribute [local irreducible] c169l0
def c169 : AFun := gzn c169r [c169l0]
def c170 : AFun := gzx Tryz.prog gzI true Tryz.f170
def c171 : AFun := gzx Tryz.prog gzI false Tryz.f171
def c173 : AFun := gzx Tryz.prog gzI true Tryz.f173
def c174 : AFun := gzx Tryz.prog gzI true Tryz.f174
def c175r : AFun := gzx Tryz.prog gzI false Tryz.f175
def c175l0 : AC := gzl c175r 0 []
attribute [local irreducible] c175l0
def c175 : AFun := gzn c175r [c175l0]
def c176r : AFun := gzx Tryz.prog gzI false Tryz.f176
def c176l0 : AC := gzl c176r 1 []
attribute [local irreducible] c176l0
def c176l1 : AC := gzl c176r 0 []
attribute [local irreducible] c176l1
def c176 : AFun := gzn c176r [c176l1, c176l0]
def c177 : AFun := gzx Tryz.prog gzI false Tryz.f177
def c178 : AFun := gzx Tryz.prog gzI true Tryz.f178
def c180 : AFun := gzx Tryz.prog gzI true Tryz.f180
def c181r : AFun := gzx Tryz.prog gzI true Tryz.f181
def c181l0 : AC := gzl c181r 1 []
attribute [local irreducible] c181l0
def c181l1 : AC := gzl c181r 0 []
attribute [local irreducible] c181l1
def c181 : AFun := gzn c181r [c181l1, c181l0]
def c182 : AFun := gzx Tryz.prog gzI true Tryz.f182
def c183 : AFun := gzx Tryz.prog gzI true Tryz.f183
def c184 : AFun := gzx Tryz.prog gzI true Tryz.f184
def c185 : AFun := gzx Tryz.prog gzI true Tryz.f185
def c186 : AFun := gzx Tryz.prog gzI true Tryz.f186
def c187 : AFun := gzx Tryz.prog gzI true Tryz.f187
def c188 : AFun := gzx Tryz.prog gzI true Tryz.f188
def c190 : AFun := gzx Tryz.prog gzI false Tryz.f190
def c191 : AFun := gzx Tryz.prog gzI false Tryz.f191
def c192r : AFun := gzx Tryz.prog gzI false Tryz.f192
def c192l0 : AC := gzl c192r 0 []
attribute [local irreducible] c192l0
def c192 : AFun := gzn c192r [c192l0]
def c193 : AFun := gzx Tryz.prog gzI true Tryz.f193
def c194 : AFun := gzx Tryz.prog gzI false Tryz.f194
def c195r : AFun := gzx Tryz.prog gzI true Tryz.f195
def c195l0 : AC := gzl c195r 0 []
attribute [local irreducible] c195l0
def c195 : AFun := gzn c195r [c195l0]
def c196 : AFun := gzx Tryz.prog gzI true Tryz.f196
def c198 : AFun := gzx Tryz.prog gzI false Tryz.f198
def c202 : AFun := gzx Tryz.prog gzI true Tryz.f202
def c203 : AFun := gzx Tryz.prog gzI true Tryz.f203
def c204r : AFun := gzx Tryz.prog gzI true Tryz.f204
def c204l0 : AC := gzl c204r 0 []
attribute [local irreducible] c204l0
def c204 : AFun := gzn c204r [c204l0]
def c205 : AFun := gzx Tryz.prog gzI true Tryz.f205
def c206 : AFun := gzx Tryz.prog gzI true Tryz.f206
def c207 : AFun := gzx Tryz.prog gzI true Tryz.f207
def c208 : AFun := gzx Tryz.prog gzI true Tryz.f208
def c209 : AFun := gzx Tryz.prog gzI true Tryz.f209
def c210 : AFun := gzx Tryz.prog gzI false Tryz.f210
def c212r : AFun := gzx Tryz.prog gzI true Tryz.f212
def c212l0 : AC := gzl c212r 1 []
attribute [local irreducible] c212l0
def c212l1 : AC := gzl c212r 0 []
attribute [local irreducible] c212l1
def c212 : AFun := gzn c212r [c212l1, c212l0]
def c213r : AFun := gzx Tryz.prog gzI true Tryz.f213
def c213l0 : AC := gzl c213r 0 []
attribute [local irreducible] c213l0
def c213 : AFun := gzn c213r [c213l0]
def c214 : AFun := gzx Tryz.prog gzI true Tryz.f214
def c215 : AFun := gzx Tryz.prog gzI true Tryz.f215
def c216 : AFun := gzx Tryz.prog gzI true Tryz.f216
def c217r : AFun := gzx Tryz.prog gzI false Tryz.f217
def c217b0 : AC := gzl c217r 1 []
attribute [local irreducible] c217b0
def c217a0 : AC := gzl c217r 0 []
attribute [local irreducible] c217a0
def c217 : AFun := gzn c217r [c217a0, c217b0]
def c218r : AFun := gzx Tryz.prog gzI false Tryz.f218
def c218l0 : AC := gzl c218r 0 []
attribute [local irreducible] c218l0
def c218 : AFun := gzn c218r [c218l0]
def c219 : AFun := gzx Tryz.prog gzI true Tryz.f219
def c221 : AFun := gzx Tryz.prog gzI false Tryz.f221
def c222 : AFun := gzx Tryz.prog gzI false Tryz.f222
def c223 : AFun := gzx Tryz.prog gzI true Tryz.f223
def c224 : AFun := gzx Tryz.prog gzI true Tryz.f224
def c226 : AFun := gzx Tryz.prog gzI true Tryz.f226
def c227r : AFun := gzx Tryz.prog gzI true Tryz.f227
def c227l0 : AC := gzl c227r 0 []
attribute [local irreducible] c227l0
def c227 : AFun := gzn c227r [c227l0]
def c228r : AFun := gzx Tryz.prog gzI false Tryz.f228
def c228l0 : AC := gzl c228r 1 []
attribute [local irreducible] c228l0
def c228l1 : AC := gzl c228r 0 [c228l0]
attribute [local irreducible] c228l1
def c228 : AFun := gzn c228r [c228l1, c228l0]
def c238 : AFun := gzx Tryz.prog gzI false Tryz.f238
def c239r : AFun := gzx Tryz.prog gzI false Tryz.f239
def c239l0 : AC := gzl c239r 0 []
attribute [local irreducible] c239l0
def c239 : AFun := gzn c239r [c239l0]
def c246r : AFun := gzx Tryz.prog gzI false Tryz.f246
def c246l0 : AC := gzl c246r 0 []
attribute [local irreducible] c246l0
def c246 : AFun := gzn c246r [c246l0]
def fns0 : FuncId → Option AFun
  | 5 => some c5
  | 15 => some c15
  | 18 => some c18
  | 22 => some c22
  | 23 => some c23
  | 25 => some c25
  | 26 => some c26
  | 27 => some c27
  | 28 => some c28
  | 29 => some c29
  | 30 => some c30
  | 32 => some c32
  | 34 => some c34
  | 35 => some c35
  | 36 => some c36
  | 41 => some c41
  | 42 => some c42
  | 44 => some c44
  | 46 => some c46
  | 48 => some c48
  | 49 => some c49
  | 50 => some c50
  | 53 => some c53
  | 54 => some c54
  | 55 => some c55
  | 58 => some c58
  | 59 => some c59
  | 60 => some c60
  | 61 => some c61
  | 62 => some c62
  | 63 => some c63
  | 64 => some c64
  | 65 => some c65
  | 66 => some c66
  | 67 => some c67
  | 68 => some c68
  | 69 => some c69
  | 70 => some c70
  | 71 => some c71
  | 72 => some c72
  | 73 => some c73
  | 74 => some c74
  | 75 => some c75
  | 76 => some c76
  | 77 => some c77
  | 78 => some c78
  | 81 => some c81
  | 82 => some c82
  | 83 => some c83
  | 84 => some c84
  | 85 => some c85
  | 90 => some c90
  | 91 => some c91
  | 92 => some c92
  | 95 => some c95
  | 97 => some c97
  | 98 => some c98
  | 99 => some c99
  | 100 => some c100
  | 101 => some c101
  | _ => none
theorem fns0_ok : FunsOK Tryz.prog fns0 := by
  intro f af h
  unfold fns0 at h
  split at h
  · cases h; exact gk Tryz.func5
  · cases h; exact gk Tryz.func15
  · cases h; exact gk Tryz.func18
  · cases h; exact gk Tryz.func22
  · cases h; exact gk Tryz.func23
  · cases h; exact gk Tryz.func25
  · cases h; exact gk Tryz.func26
  · cases h; exact gk Tryz.func27
  · cases h; exact gk Tryz.func28
  · cases h; exact gk Tryz.func29
  · cases h; exact gk Tryz.func30
  · cases h; exact gk Tryz.func32
  · cases h; exact gk Tryz.func34
  · cases h; exact gk Tryz.func35
  · cases h; exact gk Tryz.func36
  · cases h; exact gk Tryz.func41
  · cases h; exact gk Tryz.func42
  · cases h; exact gk Tryz.func44
  · cases h; exact gk Tryz.func46
  · cases h; exact gk Tryz.func48
  · cases h; exact gk Tryz.func49
  · cases h; exact gk Tryz.func50
  · cases h; exact gk Tryz.func53
  · cases h; exact gk Tryz.func54
  · cases h; exact gk Tryz.func55
  · cases h; exact gk Tryz.func58
  · cases h; exact gk Tryz.func59
  · cases h; exact gk Tryz.func60
  · cases h; exact gk Tryz.func61
  · cases h; exact gokD (t := 6) Tryz.func62 (by kernel_rfl) Tryz.func114 rfl (by kernel_rfl) harm_do (by kernel_rfl)
  · cases h; exact gk Tryz.func63
  · cases h; exact gk Tryz.func64
  · cases h; exact gk Tryz.func65
  · cases h; exact gk Tryz.func66
  · cases h; exact gk Tryz.func67
  · cases h; exact gk Tryz.func68
  · cases h; exact gk Tryz.func69
  · cases h; exact gk Tryz.func70
  · cases h; exact gk Tryz.func71
  · cases h; exact gk Tryz.func72
  · cases h; exact gk Tryz.func73
  · cases h; exact gk Tryz.func74
  · cases h; exact gk Tryz.func75
  · cases h; exact gk Tryz.func76
  · cases h; exact gk Tryz.func77
  · cases h; exact gk Tryz.func78
  · cases h; exact gk Tryz.func81
  · cases h; exact gk Tryz.func82
  · cases h; exact gk Tryz.func83
  · cases h; exact gk Tryz.func84
  · cases h; exact gk Tryz.func85
  · cases h; exact gk Tryz.func90
  · cases h; exact gk Tryz.func91
  · cases h; exact gk Tryz.func92
  · cases h; exact gk Tryz.func95
  · cases h; exact gk Tryz.func97
  · cases h; exact gk Tryz.func98
  · cases h; exact gk Tryz.func99
  · cases h; exact gk Tryz.func100
  · cases h; exact gk Tryz.func101
  · cases h
def fns1 : FuncId → Option AFun
  | 103 => some c103
  | 104 => some c104
  | 105 => some c105
  | 106 => some c106
  | 107 => some c107
  | 108 => some c108
  | 109 => some c109
  | 110 => some c110
  | 111 => some c111
  | 112 => some c112
  | 113 => some c113
  | 115 => some c115
  | 116 => some c116
  | 117 => some c117
  | 118 => some c118
  | 119 => some c119
  | 120 => some c120
  | 121 => some c121
  | 122 => some c122
  | 123 => some c123
  | 124 => some c124
  | 127 => some c127
  | 128 => some c128
  | 129 => some c129
  | 130 => some c130
  | 131 => some c131
  | 133 => some c133
  | 134 => some c134
  | 135 => some c135
  | 136 => some c136
  | 141 => some c141
  | 142 => some c142
  | 143 => some c143
  | 144 => some c144
  | 145 => some c145
  | 146 => some c146
  | 147 => some c147
  | 150 => some c150
  | 151 => some c151
  | 152 => some c152
  | 153 => some c153
  | 154 => some c154
  | 155 => some c155
  | 156 => some c156
  | 157 => some c157
  | 158 => some c158
  | 159 => some c159
  | 160 => some c160
  | 161 => some c161
  | 162 => some c162
  | 163 => some c163
  | 166 => some c166
  | 167 => some c167
  | 168 => some c168
  | 169 => some c169
  | 170 => some c170
  | 171 => some c171
  | 173 => some c173
  | 174 => some c174
  | 175 => some c175
  | _ => none
theorem fns1_ok : FunsOK Tryz.prog fns1 := by
  intro f af h
  unfold fns1 at h
  split at h
  · cases h; exact gk Tryz.func103
  · cases h; exact gk Tryz.func104
  · cases h; exact gk Tryz.func105
  · cases h; exact gk Tryz.func106
  · cases h; exact gk Tryz.func107
  · cases h; exact gk Tryz.func108
  · cases h; exact gk Tryz.func109
  · cases h; exact gk Tryz.func110
  · cases h; exact gk Tryz.func111
  · cases h; exact gk Tryz.func112
  · cases h; exact gk Tryz.func113
  · cases h; exact gk Tryz.func115
  · cases h; exact gk Tryz.func116
  · cases h; exact gk Tryz.func117
  · cases h; exact gk Tryz.func118
  · cases h; exact gk Tryz.func119
  · cases h; exact gk Tryz.func120
  · cases h; exact gk Tryz.func121
  · cases h; exact gk Tryz.func122
  · cases h; exact gk Tryz.func123
  · cases h; exact gk Tryz.func124
  · cases h; exact gk Tryz.func127
  · cases h; exact gk Tryz.func128
  · cases h; exact gk Tryz.func129
  · cases h; exact gk Tryz.func130
  · cases h; exact gk Tryz.func131
  · cases h; exact gk Tryz.func133
  · cases h; exact gk Tryz.func134
  · cases h; exact gk Tryz.func135
  · cases h; exact gk Tryz.func136
  · cases h; exact gk Tryz.func141
  · cases h; exact gk Tryz.func142
  · cases h; exact gk Tryz.func143
  · cases h; exact gk Tryz.func144
  · cases h; exact gk Tryz.func145
  · cases h; exact gk Tryz.func146
  · cases h; exact gk Tryz.func147
  · cases h; exact gk Tryz.func150
  · cases h; exact gk Tryz.func151
  · cases h; exact gk Tryz.func152
  · cases h; exact gk Tryz.func153
  · cases h; exact gk Tryz.func154
  · cases h; exact gk Tryz.func155
  · cases h; exact gk Tryz.func156
  · cases h; exact gk Tryz.func157
  · cases h; exact gk Tryz.func158
  · cases h; exact gk Tryz.func159
  · cases h; exact gk Tryz.func160
  · cases h; exact gk Tryz.func161
  · cases h; exact gk Tryz.func162
  · cases h; exact gk Tryz.func163
  · cases h; exact gk Tryz.func166
  · cases h; exact gk Tryz.func167
  · cases h; exact gk Tryz.func168
  · cases h; exact gk Tryz.func169
  · cases h; exact gk Tryz.func170
  · cases h; exact gk Tryz.func171
  · cases h; exact gk Tryz.func173
  · cases h; exact gk Tryz.func174
  · cases h; exact gk Tryz.func175
  · cases h
def fns2 : FuncId → Option AFun
  | 176 => some c176
  | 177 => some c177
  | 178 => some c178
  | 180 => some c180
  | 181 => some c181
  | 182 => some c182
  | 183 => some c183
  | 184 => some c184
  | 185 => some c185
  | 186 => some c186
  | 187 => some c187
  | 188 => some c188
  | 190 => some c190
  | 191 => some c191
  | 192 => some c192
  | 193 => some c193
  | 194 => some c194
  | 195 => some c195
  | 196 => some c196
  | 198 => some c198
  | 202 => some c202
  | 203 => some c203
  | 204 => some c204
  | 205 => some c205
  | 206 => some c206
  | 207 => some c207
  | 208 => some c208
  | 209 => some c209
  | 210 => some c210
  | 212 => some c212
  | 213 => some c213
  | 214 => some c214
  | 215 => some c215
  | 216 => some c216
  | 217 => some c217
  | 218 => some c218
  | 219 => some c219
  | 221 => some c221
  | 222 => some c222
  | 223 => some c223
  | 224 => some c224
  | 226 => some c226
  | 227 => some c227
  | 228 => some c228
  | 238 => some c238
  | 239 => some c239
  | 246 => some c246
  | _ => none
theorem fns2_ok : FunsOK Tryz.prog fns2 := by
  intro f af h
  unfold fns2 at h
  split at h
  · cases h; exact gk Tryz.func176
  · cases h; exact gk Tryz.func177
  · cases h; exact gk Tryz.func178
  · cases h; exact gk Tryz.func180
  · cases h; exact gk Tryz.func181
  · cases h; exact gk Tryz.func182
  · cases h; exact gk Tryz.func183
  · cases h; exact gk Tryz.func184
  · cases h; exact gk Tryz.func185
  · cases h; exact gk Tryz.func186
  · cases h; exact gk Tryz.func187
  · cases h; exact gk Tryz.func188
  · cases h; exact gk Tryz.func190
  · cases h; exact gk Tryz.func191
  · cases h; exact gk Tryz.func192
  · cases h; exact gk Tryz.func193
  · cases h; exact gk Tryz.func194
  · cases h; exact gk Tryz.func195
  · cases h; exact gk Tryz.func196
  · cases h; exact gk Tryz.func198
  · cases h; exact gk Tryz.func202
  · cases h; exact gk Tryz.func203
  · cases h; exact gk Tryz.func204
  · cases h; exact gk Tryz.func205
  · cases h; exact gk Tryz.func206
  · cases h; exact gk Tryz.func207
  · cases h; exact gk Tryz.func208
  · cases h; exact gk Tryz.func209
  · cases h; exact gk Tryz.func210
  · cases h; exact gk Tryz.func212
  · cases h; exact gk Tryz.func213
  · cases h; exact gk Tryz.func214
  · cases h; exact gk Tryz.func215
  · cases h; exact gk Tryz.func216
  · cases h; exact gk Tryz.func217
  · cases h; exact gk Tryz.func218
  · cases h; exact gk Tryz.func219
  · cases h; exact gk Tryz.func221
  · cases h; exact gk Tryz.func222
  · cases h; exact gk Tryz.func223
  · cases h; exact gk Tryz.func224
  · cases h; exact gk Tryz.func226
  · cases h; exact gk Tryz.func227
  · cases h; exact gk Tryz.func228
  · cases h; exact gk Tryz.func238
  · cases h; exact gk Tryz.func239
  · cases h; exact gk Tryz.func246
  · cases h
def fns (f : FuncId) : Option AFun := (fns0 f).or ((fns1 f).or (fns2 f))
theorem fns_ok : FunsOK Tryz.prog fns := by
  intro f af h
  unfold fns at h
  rcases Option.or_eq_some_iff.1 h with h | ⟨_, h⟩
  · exact fns0_ok f af h
  rcases Option.or_eq_some_iff.1 h with h | ⟨_, h⟩
  · exact fns1_ok f af h
  exact fns2_ok f af h
end
end Go.Proofs.YtgohenjcanfolaaGreatDoor
namespace Go.Proofs.YtgohenjcanfolaaGreatDoor
open Go Go.Itp
set_option maxRecDepth 100000
def prims0:List (FuncId × Prim × TypeId):= [(137,.same,0),(211,.indexByte,0),(96,.count,0),(225,.makeNoZero,5)]
theorem prims_all:AllPrims Tryz.prog prims0:=
 ⟨⟨⟨Tryz.f137,Tryz.func137,by kernel_rfl,by kernel_rfl,by kernel_rfl,rfl⟩⟩,⟨⟨Tryz.f211,Tryz.func211,by kernel_rfl,by kernel_rfl,by kernel_rfl,rfl⟩⟩,⟨⟨Tryz.f96,Tryz.func96,by kernel_rfl,by kernel_rfl,by kernel_rfl,rfl⟩⟩,
  ⟨⟨Tryz.f225,Tryz.func225,by kernel_rfl,by kernel_rfl,#[3],97,by kernel_rfl,rfl,Tryz.underlying97⟩⟩,trivial⟩
theorem run_alive:runsTo true (body (callP (fun _ _=>none) many fns (primsOf prims0) 40) c18 [] St.empty)=true:=by kernel_rfl
end Go.Proofs.YtgohenjcanfolaaGreatDoor
namespace Go.Proofs.YtgohenjcanfolaaGreatDoor
open Go Go.Itp
open Go.RowKit (Below)
set_option maxRecDepth 100000
set_option linter.unusedVariables false
theorem own:ownKnob Tryz.prog.godebug=none:=by kernel_rfl
theorem mixed:Tryz.prog.follows .mixedOrders=true:=by kernel_rfl
def known:List (FuncId × List Value × Bool):= [(18,[],true)]
theorem has_alive:∃ fn c,Tryz.prog.funcs[(18:Nat)]? =some fn∧fn.body=some c∧(fn.name== "runtime.NumGoroutine")=false:=⟨Tryz.f18,_,Tryz.func18,rfl,by kernel_rfl⟩
theorem known_ok:Answers Tryz.prog (fun _ _=>none) known:=
 ⟨answer_of mixed fns_ok (fun w _=>primsOf_ok prims0 prims_all w) (f:=18) (af:=c18) rfl rfl run_alive,has_alive,trivial⟩
abbrev PR (w:World):FuncId→List Value→St→Option (Value × List Blk):=primT known
noncomputable abbrev EN (w:World) (n:Nat):Env:=callP (oldOf w) many fns (PR w) n
theorem prims_ok (W:World):PrimsOK Tryz.prog (PR W) W:=primT_ok (old:=fun _ _=>none) (fun _ _ _ h=>by cases h) known known_ok
theorem law_of {W:World} {f:FuncId} {af:AFun} (hf:fns f=some af) {xs:List Value} (hxs:idsL 0 xs= []) (n:Nat) {v:Value} {s':St} (hb:body (EN W n) af xs St.empty=some (v,s')) (hv:ids 0 v= []):
  Calls Tryz.prog f xs.toArray W fun e w'=>e= .returned v∧Below W.heap.size W w':=
 law_at mixed fns_ok (oldOf_ok W) (prims_ok W) hf hxs n hb hv
theorem alive_o (w:World) (n:Nat) (st:VSt):VSpecO (EN w (n+1)) 18 st [] (.sc (.bool true)):=by
 intro s μ F xsI w0 hsr hx
 have:xsI= []:=by simpa [VRepL] using hx
 subst this
 exact ⟨.bool true,rfl,fun w=> .mksc rfl⟩
end Go.Proofs.YtgohenjcanfolaaGreatDoor
namespace Go.Itp
set_option linter.unusedVariables false
set_option linter.unusedSimpArgs false
set_option maxRecDepth 10000
structure Sti where
 kind:Nat
 purl:Bool
 a:Int
 b:Int
abbrev wKnit:List UInt8:= [107,110,105,116]
abbrev wPurl:List UInt8:= [112,117,114,108]
abbrev wSlip:List UInt8:= [115,108,105,112]
abbrev wWith:List UInt8:= [119,105,116,104]
abbrev wYarn:List UInt8:= [121,97,114,110]
abbrev wIn:List UInt8:= [105,110]
abbrev wFront:List UInt8:= [102,114,111,110,116]
abbrev wOver:List UInt8:= [111,118,101,114]
abbrev wTog:List UInt8:= [116,111,103,101,116,104,101,114]
abbrev wFirst:List UInt8:= [40,102,105,114,115,116]
abbrev wOn:List UInt8:= [111,110]
abbrev wTop:List UInt8:= [116,111,112,41]
abbrev wMake:List UInt8:= [109,97,107,101]
abbrev wOut:List UInt8:= [111,117,116]
abbrev wOf:List UInt8:= [111,102]
abbrev w1:List UInt8:= [49]
abbrev wWise:List UInt8:= [112,117,114,108,119,105,115,101]
abbrev wCross:List UInt8:= [99,114,111,115,115]
abbrev wBehind:List UInt8:= [98,101,104,105,110,100]
abbrev wCast:List UInt8:= [99,97,115,116]
abbrev wBind:List UInt8:= [98,105,110,100]
abbrev wOff:List UInt8:= [111,102,102]
abbrev wTimes:List UInt8:= [116,105,109,101,115]
theorem Sti.ext' {x y:Sti} (h1:x.kind=y.kind) (h2:x.purl=y.purl) (h3:x.a=y.a) (h4:x.b=y.b):x=y:=by
 cases x;cases y;simp_all
instance:DecidableEq Sti:=fun x y=>decidable_of_iff (x.kind=y.kind∧x.purl=y.purl∧x.a=y.a∧x.b=y.b) ⟨fun ⟨h1,h2,h3,h4⟩=>Sti.ext' h1 h2 h3 h4,fun h=>by subst h;exact ⟨rfl,rfl,rfl,rfl⟩⟩
def sti0:Sti:=⟨0,false,0,0⟩
instance:Inhabited Sti:=⟨sti0⟩
def StiP (x:Sti):Prop:=
 (x.kind=1∨x.kind=8)∧x.a=0∧x.b=0∨
 x.kind=2∧x.purl=false∧x.a=0∧x.b=0∨
 (x.kind=3∨x.kind=4∨x.kind=5)∧2≤x.a∧x.a≤4∧x.b=0∨
 (x.kind=6∨x.kind=7)∧(1≤x.a∧x.a≤6)∧1≤x.b∧x.b≤6∨
 x.kind=9∧x.purl=false∧1≤x.a∧x.a≤200∧x.b=0∨
 x.kind=10∧1≤x.a∧x.a≤200∧x.b=0
instance stiP_dec (x:Sti):Decidable (StiP x):=by unfold StiP;infer_instance
def stiOK (x:Sti):Bool:=decide (StiP x)
theorem StiP.bounds {x:Sti} (h:StiP x):1≤x.kind∧x.kind≤10∧0≤x.a∧x.a≤200∧0≤x.b∧x.b≤6:=by
 unfold StiP at h
 omega
def sideW (p:Bool):List UInt8:=if p=true then wPurl else wKnit
def wiseW (p:Bool):List (List UInt8):=if p=true then [wWise] else []
def baseW (x:Sti) (n:Int):List (List UInt8):=match x.kind with
 |1=> [sideW x.purl,Lib.itoa n]
 |2=> [wYarn,wOver]
 |3=> [sideW x.purl,Lib.itoa x.a,wTog,wFirst,wOn,wTop]
 |4=> [sideW x.purl,Lib.itoa x.a,wTog]
 |5=> [wMake,Lib.itoa x.a,wOut,wOf,w1]++wiseW x.purl
 |6=> [wCross,Lib.itoa x.a,wIn,wFront,wOf,Lib.itoa x.b]++wiseW x.purl
 |7=> [wCross,Lib.itoa x.a,wBehind,Lib.itoa x.b]++wiseW x.purl
 |8=> [wSlip,Lib.itoa n]++if x.purl=true then [wWith,wYarn,wIn,wFront] else []
 |9=> [wCast,wOn,Lib.itoa x.a]
 |_=> [wBind,wOff,Lib.itoa x.a]++wiseW x.purl
def timesW (x:Sti) (n:Int):List (List UInt8):=if 1<n∧x.kind ≠ 1∧x.kind ≠ 8 then [Lib.itoa n,wTimes] else []
def phraseW (x:Sti) (n:Int):List (List UInt8):=baseW x n++timesW x n
def phraseS (x:Sti) (n:Int):List UInt8:=join 32 (phraseW x n)
def okW (w:List UInt8):Prop:=(32:UInt8) ∉ w∧(44:UInt8) ∉ w∧(10:UInt8) ∉ w∧w ≠ []
instance okW_dec (w:List UInt8):Decidable (okW w):=by unfold okW;infer_instance
end Go.Itp
namespace Go.Itp
set_option linter.unusedVariables false
set_option linter.unusedSimpArgs false
set_option maxRecDepth 10000
def usedS (x:Sti):Int:=if x.kind=2∨x.kind=9 then 0 else if x.kind=3∨x.kind=4∨x.kind=10 then x.a else if x.kind=6∨x.kind=7 then x.a+x.b else 1
def madeS (x:Sti):Int:=if x.kind=10 then 0 else if x.kind=5∨x.kind=9 then x.a else if x.kind=6∨x.kind=7 then x.a+x.b else 1
def sumS (f:Sti→Int):List Sti→Int
 | []=>0
 |x::l=>f x+sumS f l
def allF (L:List Sti):Int:=if 200<L.length then 4 else if L.all stiOK=true then (if 200<sumS usedS L∨200<sumS madeS L then 4 else 0) else 8
def runsS:List Sti→List (Sti × Nat)
 | []=> []
 |x::l=>match runsS l with
  | []=> [(x,1)]
  |(y,n)::r=>if y=x then (x,n+1)::r else (x,1)::(y,n)::r
def phr (r:Sti × Nat):List UInt8:=phraseS r.1 r.2
def jnC:List (List UInt8)→List UInt8
 | []=> []
 | [w]=>w
 |w::ws=>w++44::32::jnC ws
def nothingS:List UInt8:= [110,111,116,104,105,110,103]
def wordsS (L:List Sti):List UInt8:=if L= [] then nothingS else jnC ((runsS L).map phr)
def cellsF (L:List Sti):List UInt8 × Int:=if allF L=0 then (if 2000<(wordsS L).length then ([],4) else (wordsS L,0)) else ([],allF L)
def faceS (b:Bool):List UInt8:=if b=true then [98,97,99,107] else [102,114,111,110,116]
def faceW (b:Bool):List UInt8:=40::faceS b++ [41,58]
def rowW:List UInt8:= [114,111,119]
def headS (b:Bool) (n:Int):List UInt8:=rowW++32::(Lib.itoa n++32::(faceW b++ [32]))
def rowF (b:Bool) (L:List Sti) (n:Int):List UInt8 × Int:=if allF L=0 then (if n<1∨100<n then ([],2) else if (cellsF L).2=0 then (headS b n++(cellsF L).1++ [46],0) else ([],(cellsF L).2)) else ([],allF L)
open Classical in
noncomputable def readR (s:List UInt8):Option (Bool × List Sti × Int):=if h:∃ r:Bool × List Sti × Int,rowF r.1 r.2.1 r.2.2=(s,0) then some (Classical.choose h) else none
abbrev ChT:=Int × List (Bool × List Sti)
def rowsE:List (Bool × List Sti)→Int
 | []=>0
 |r::l=>if allF r.2=0 then rowsE l else allF r.2
def checkF (c:ChT):Int:=if 100<c.2.length then 4 else if c.1<0∨200<c.1 then 8 else rowsE c.2
def linesF:Int→List (Bool × List Sti)→List UInt8 × Int
 |_,[]=>([],0)
 |n,r::l=>if (rowF r.1 r.2 n).2=0 then (if (linesF (n+1) l).2=0 then ((rowF r.1 r.2 n).1++10::(linesF (n+1) l).1,0) else ([],(linesF (n+1) l).2)) else ([],(rowF r.1 r.2 n).2)
def startS (n:Int):List UInt8:= [115,116,97,114,116]++32::([119,105,116,104]++32::(Lib.itoa n++32:: [115,116,105,116,99,104,101,115,46]))
def chartF (c:ChT):List UInt8 × Int:=if checkF c=0 then (if (linesF 1 c.2).2=0 then (if 60000<(startS c.1++10::(linesF 1 c.2).1).length then ([],4) else (startS c.1++10::(linesF 1 c.2).1,0)) else ([],(linesF 1 c.2).2)) else ([],checkF c)
open Classical in
noncomputable def readT (s:List UInt8):Option ChT:=if h:∃ c:ChT,chartF c=(s,0) then some (Classical.choose h) else none
end Go.Itp
namespace Go.Itp
set_option linter.unusedVariables false
set_option linter.unusedSimpArgs false
set_option maxRecDepth 10000
def fill:List (List UInt8)→List Int→List UInt8
 | [],_=> []
 | [p],_=>p
 |p::ps,[]=>p++35::fill ps []
 |p::ps,v::vs=>p++(Lib.itoa v++fill ps vs)
def noDig (r:List UInt8):Prop:=∀ c,r.head? =some c→isDig c=false
instance noDig_dec (r:List UInt8):Decidable (noDig r):=decidable_of_iff (r.head?.all (fun c=> !isDig c)=true) (by
 cases r with
 |nil=>simp[noDig]
 |cons c r=>simp[noDig])
end Go.Itp
namespace Go.Proofs.YtgohenjcanfolaaGreatDoor
open Go Go.Itp
set_option maxRecDepth 100000
set_option maxHeartbeats 400000
set_option linter.unusedSimpArgs false
set_option linter.unusedVariables false
def fL:Nat→List UInt8
 |3=> [102]|4=> [108]|5=> [109]|6=> [120]|7=> [121]|8=> [115]|10=> [111]
 |_=> []
def fA0:Nat→Int
 |3=>2|4=>2|5=>2|6=>1|7=>1|9=>1|10=>1
 |_=>0
def fA1:Nat→Int
 |3=>4|4=>4|5=>4|6=>6|7=>6|9=>200|10=>200
 |_=>0
def fB0:Nat→Int
 |6=>1|7=>1
 |_=>0
def fB1:Nat→Int
 |6=>6|7=>6
 |_=>0
def fS:Nat→Bool
 |2=>false|9=>false
 |_=>true
def fU:Nat→Nat
 |1=>1|2=>0|3=>2|4=>2|5=>1|6=>3|7=>3|8=>1|9=>0
 |_=>2
def fM:Nat→Nat
 |1=>1|2=>1|3=>1|4=>1|5=>2|6=>3|7=>3|8=>1|9=>2
 |_=>0
def formV (k:Nat):List Value:= [.string ⟨(fL k).toArray⟩,.int .i64 (fA0 k),.int .i64 (fA1 k),.int .i64 (fB0 k),.int .i64 (fB1 k),.bool (fS k),.int .i64 (fU k),.int .i64 (fM k)]
def formsD:List D:=(formV 1++formV 2++formV 3++formV 4++formV 5++formV 6++formV 7++formV 8++formV 9++formV 10).map D.sc
attribute [local irreducible] formsD
section
variable (w:World) (n:Nat)
end
end Go.Proofs.YtgohenjcanfolaaGreatDoor
namespace Go.Proofs.YtgohenjcanfolaaGreatDoor
open Go Go.Itp
set_option maxRecDepth 100000
set_option maxHeartbeats 400000
set_option linter.unusedSimpArgs false
set_option linter.unusedVariables false
section
variable (w:World) (n:Nat)
end
abbrev KOK (L:List Sti):Prop:=∀ x ∈ L,x.kind<256
theorem KOK.at {L:List Sti} (h:KOK L) {k:Nat} (hk:k<L.length):L[k]!.kind<256:=h _ (by rw[getElem!_pos _ k hk];exact List.getElem_mem hk)
section
variable (w:World) (n:Nat)
end
set_option maxHeartbeats 1000000
section
variable (w:World) (n:Nat)
end
end Go.Proofs.YtgohenjcanfolaaGreatDoor
namespace Go.Itp
set_option linter.unusedVariables false
set_option linter.unusedSimpArgs false
structure Ins where
 op:Nat
 right:Bool
 bed:Nat
 pos:Int
 to:Int
 car:Int
 rack:Int
theorem Ins.ext' {i j:Ins} (h1:i.op=j.op) (h2:i.right=j.right) (h3:i.bed=j.bed) (h4:i.pos=j.pos) (h5:i.to=j.to) (h6:i.car=j.car) (h7:i.rack=j.rack):i=j:=by
 cases i;cases j;simp_all
def ins0:Ins:=⟨0,false,0,0,0,0,0⟩
def insC (i:Ins):List Value:= [.int .u8 i.op,.bool i.right,.int .u8 i.bed,.int .i64 i.pos,.int .i64 i.to,.int .i64 i.car,.int .i64 i.rack]
def insV (i:Ins):V:= .agg [.sc (.int .u8 i.op),.sc (.bool i.right),.sc (.int .u8 i.bed),.sc (.int .i64 i.pos),.sc (.int .i64 i.to),.sc (.int .i64 i.car),.sc (.int .i64 i.rack)]
abbrev ndOK (z:Int):Prop:= -100≤z∧z≤100
def InsP (i:Ins):Prop:=
 (i.op=1∨i.op=2)∧(1≤i.car∧i.car≤6)∧i.right=false∧i.bed=0∧i.pos=0∧i.to=0∧i.rack=0∨
 (i.op=3∨i.op=4∨i.op=5)∧(1≤i.car∧i.car≤6)∧i.bed≤1∧ndOK i.pos∧i.to=0∧i.rack=0∨
 i.op=6∧(1≤i.car∧i.car≤6)∧i.bed≤1∧ndOK i.pos∧ndOK i.to∧i.rack=0∨
 i.op=7∧i.right=false∧i.car=0∧i.rack=0∧i.bed≤1∧ndOK i.pos∧ndOK i.to∨
 i.op=8∧i.right=false∧i.bed=0∧i.pos=0∧i.to=0∧i.car=0∧ -8≤i.rack∧i.rack≤8∨
 i.op=9∧i.right=false∧i.to=0∧i.car=0∧i.rack=0∧i.bed≤1∧ndOK i.pos
open Classical in
noncomputable def insOK (i:Ins):Bool:=decide (InsP i)
open Classical in
theorem insOK_iff {i:Ins}:insOK i=true↔InsP i:=by
 unfold insOK
 constructor
 ·exact of_decide_eq_true
 ·intro h;exact decide_eq_true h
def nameI:Nat→List UInt8
 |1=> [105,110]
 |2=> [111,117,116]
 |3=> [107,110,105,116]
 |4=> [116,117,99,107]
 |5=> [109,105,115,115]
 |6=> [115,112,108,105,116]
 |7=> [120,102,101,114]
 |8=> [114,97,99,107]
 |9=> [100,114,111,112]
 |_=> []
def partsI:Nat→List UInt8
 |1=> [99]
 |2=> [99]
 |3=> [100,110,99]
 |4=> [100,110,99]
 |5=> [100,110,99]
 |6=> [100,110,111,99]
 |7=> [110,111]
 |8=> [114]
 |9=> [110]
 |_=> []
def ndl (b:Nat) (z:Int):List UInt8:=(if b=1 then 98 else 102)::Lib.itoa z
def partT (i:Ins) (c:UInt8):List UInt8:=
 if c=100 then (if i.right=true then [43] else [45]) else if c=110 then ndl i.bed i.pos else if c=111 then ndl (1 - i.bed) i.to else if c=99 then Lib.itoa i.car else Lib.itoa i.rack
def textI (i:Ins):List UInt8:=join 32 (nameI i.op::(partsI i.op).map (partT i))
end Go.Itp
namespace Go.Itp
set_option linter.unusedVariables false
set_option linter.unusedSimpArgs false
open Classical in
noncomputable def readO (s:List UInt8):Option Ins:=if h:∃ i,InsP i∧textI i=s then some (Classical.choose h) else none
theorem InsP.bounds {i:Ins} (h:InsP i):i.bed≤1∧ndOK i.pos∧ndOK i.to∧(0≤i.car∧i.car≤6)∧ -8≤i.rack∧i.rack≤8:=by
 unfold InsP ndOK at h
 unfold ndOK
 omega
end Go.Itp
namespace Go.Proofs.YtgohenjcanfolaaGreatDoor
open Go Go.Itp
set_option maxRecDepth 100000
set_option maxHeartbeats 2000000
set_option linter.unusedSimpArgs false
set_option linter.unusedVariables false
section
variable (w:World) (n:Nat)
theorem bneedle_p (z:Int):VSpec (EN w (n+1)) 103 [.sc (.int .i64 z)] (.sc (.bool (decide (ndOK z)))) ⟨[],0,0⟩:=by
 refine vspec_flat rfl rfl (fun _ _=>rfl) (Nat.le_of_ble_eq_true rfl) (oldVals w) rfl fun C hC h0=>?_
 by_cases h:ndOK z
 ·rw[decide_eq_true h]
  unfold ndOK at h
  repeat' (first|(simp (disch:=first|omega|assumption|exact bd (by with_unfolding_all rfl)|exact Or.inl rfl|exact Or.inl trivial|exact okL_map _ (fun _=>rfl) _|(simp only[VVlen]<;>omega)|fail) only[VV0,VV1,VV2,VV3,VV4,VV5,VV6,VV7,VV8,VV9,mkFnV,vargs,slotsL,opdsA,Nat.reduceEqDiff,Nat.reduceLT,Nat.reduceAdd,Nat.reduceBEq,Int.reduceAdd,Int.reduceSub,Int.reduceLT,Int.reduceLE,Int.reduceEq,Int.reduceNeg,↓reduceIte,reduceCtorEq,scL,scD,expand,List.replicate,c103])|apply gC_drawW|((first|apply gI_dec|apply gG_dec|apply gPG_dec|apply gI_var|apply gG_var|apply gPG_var)<;>intro _))
  all_goals try (exfalso;omega)
  exact weak_flat rfl h0 rfl
 ·rw[decide_eq_false h]
  unfold ndOK at h
  repeat' (first|(simp (disch:=first|omega|assumption|exact bd (by with_unfolding_all rfl)|exact Or.inl rfl|exact Or.inl trivial|exact okL_map _ (fun _=>rfl) _|(simp only[VVlen]<;>omega)|fail) only[VV0,VV1,VV2,VV3,VV4,VV5,VV6,VV7,VV8,VV9,mkFnV,vargs,slotsL,opdsA,Nat.reduceEqDiff,Nat.reduceLT,Nat.reduceAdd,Nat.reduceBEq,Int.reduceAdd,Int.reduceSub,Int.reduceLT,Int.reduceLE,Int.reduceEq,Int.reduceNeg,↓reduceIte,reduceCtorEq,scL,scD,expand,List.replicate,c103])|apply gC_drawW|((first|apply gI_dec|apply gG_dec|apply gPG_dec|apply gI_var|apply gG_var|apply gPG_var)<;>intro _))
  all_goals try (exfalso;omega)
  all_goals exact weak_flat rfl h0 rfl
theorem rat_p (z:Int):VSpec (EN w (n+1)) 54 [.sc (.int .i64 z)] (.sc (.bool (decide (ndOK z)))) ⟨[],0,0⟩:=by
 refine vspec_flat rfl rfl (fun _ _=>rfl) (Nat.le_of_ble_eq_true rfl) (oldVals w) rfl fun C hC h0=>?_
 by_cases h:ndOK z
 ·rw[decide_eq_true h]
  unfold ndOK at h
  repeat' (first|(simp (disch:=first|omega|assumption|exact bd (by with_unfolding_all rfl)|exact Or.inl rfl|exact Or.inl trivial|exact okL_map _ (fun _=>rfl) _|(simp only[VVlen]<;>omega)|fail) only[VV0,VV1,VV2,VV3,VV4,VV5,VV6,VV7,VV8,VV9,mkFnV,vargs,slotsL,opdsA,Nat.reduceEqDiff,Nat.reduceLT,Nat.reduceAdd,Nat.reduceBEq,Int.reduceAdd,Int.reduceSub,Int.reduceLT,Int.reduceLE,Int.reduceEq,Int.reduceNeg,↓reduceIte,reduceCtorEq,scL,scD,expand,List.replicate,c54])|apply gC_drawW|((first|apply gI_dec|apply gG_dec|apply gPG_dec|apply gI_var|apply gG_var|apply gPG_var)<;>intro _))
  all_goals try (exfalso;omega)
  exact weak_flat rfl h0 rfl
 ·rw[decide_eq_false h]
  unfold ndOK at h
  repeat' (first|(simp (disch:=first|omega|assumption|exact bd (by with_unfolding_all rfl)|exact Or.inl rfl|exact Or.inl trivial|exact okL_map _ (fun _=>rfl) _|(simp only[VVlen]<;>omega)|fail) only[VV0,VV1,VV2,VV3,VV4,VV5,VV6,VV7,VV8,VV9,mkFnV,vargs,slotsL,opdsA,Nat.reduceEqDiff,Nat.reduceLT,Nat.reduceAdd,Nat.reduceBEq,Int.reduceAdd,Int.reduceSub,Int.reduceLT,Int.reduceLE,Int.reduceEq,Int.reduceNeg,↓reduceIte,reduceCtorEq,scL,scD,expand,List.replicate,c54])|apply gC_drawW|((first|apply gI_dec|apply gG_dec|apply gPG_dec|apply gI_var|apply gG_var|apply gPG_var)<;>intro _))
  all_goals try (exfalso;omega)
  all_goals exact weak_flat rfl h0 rfl
theorem rfeed_p (z:Int):VSpec (EN w (n+1)) 55 [.sc (.int .i64 z)] (.sc (.bool (decide (1≤z∧z≤6)))) ⟨[],0,0⟩:=by
 refine vspec_flat rfl rfl (fun _ _=>rfl) (Nat.le_of_ble_eq_true rfl) (oldVals w) rfl fun C hC h0=>?_
 by_cases h:1≤z∧z≤6
 ·rw[decide_eq_true h]
  repeat' (first|(simp (disch:=first|omega|assumption|exact bd (by with_unfolding_all rfl)|exact Or.inl rfl|exact Or.inl trivial|exact okL_map _ (fun _=>rfl) _|(simp only[VVlen]<;>omega)|fail) only[VV0,VV1,VV2,VV3,VV4,VV5,VV6,VV7,VV8,VV9,mkFnV,vargs,slotsL,opdsA,Nat.reduceEqDiff,Nat.reduceLT,Nat.reduceAdd,Nat.reduceBEq,Int.reduceAdd,Int.reduceSub,Int.reduceLT,Int.reduceLE,Int.reduceEq,Int.reduceNeg,↓reduceIte,reduceCtorEq,scL,scD,expand,List.replicate,c55])|apply gC_drawW|((first|apply gI_dec|apply gG_dec|apply gPG_dec|apply gI_var|apply gG_var|apply gPG_var)<;>intro _))
  all_goals try (exfalso;omega)
  exact weak_flat rfl h0 rfl
 ·rw[decide_eq_false h]
  repeat' (first|(simp (disch:=first|omega|assumption|exact bd (by with_unfolding_all rfl)|exact Or.inl rfl|exact Or.inl trivial|exact okL_map _ (fun _=>rfl) _|(simp only[VVlen]<;>omega)|fail) only[VV0,VV1,VV2,VV3,VV4,VV5,VV6,VV7,VV8,VV9,mkFnV,vargs,slotsL,opdsA,Nat.reduceEqDiff,Nat.reduceLT,Nat.reduceAdd,Nat.reduceBEq,Int.reduceAdd,Int.reduceSub,Int.reduceLT,Int.reduceLE,Int.reduceEq,Int.reduceNeg,↓reduceIte,reduceCtorEq,scL,scD,expand,List.replicate,c55])|apply gC_drawW|((first|apply gI_dec|apply gG_dec|apply gPG_dec|apply gI_var|apply gG_var|apply gPG_var)<;>intro _))
  all_goals try (exfalso;omega)
  all_goals exact weak_flat rfl h0 rfl
end
end Go.Proofs.YtgohenjcanfolaaGreatDoor
namespace Go.Itp
def AC.l:AC→AC
 | .seq a _=>a
 |x=>x
def AC.r:AC→AC
 | .seq _ b=>b
 |x=>x
end Go.Itp
namespace Go.Proofs.YtgohenjcanfolaaGreatDoor
open Go Go.Itp
set_option maxRecDepth 100000
set_option maxHeartbeats 2000000
set_option linter.unusedSimpArgs false
set_option linter.unusedVariables false
abbrev insL (o:Nat) (r:Bool) (b:Nat) (p t c k:Int):List V:= [.sc (.int .u8 o),.sc (.bool r),.sc (.int .u8 b),.sc (.int .i64 p),.sc (.int .i64 t),.sc (.int .i64 c),.sc (.int .i64 k)]
abbrev insB (o:Nat) (r:Bool) (b:Nat) (p t c k:Int):Itp.Obj:= .box 54 1 (insL o r b p t c k)
section
variable (w:World) (n:Nat)
theorem binstr_tail {C:Ctx} (hC:C.E=EN w (n+1)) (h0:C.w0.nx=0) (o:Nat) (r:Bool) (b:Nat) (p t c k:Int) (o':Nat) (r':Bool) (b':Nat) (p' t' c' k':Int) (ok:Bool) (E:Bool) (R:Int)
  (hE:(decide ((o':Int)=0) && (r'==false && (decide ((b':Int)=0) && (decide (p'=0) && (decide (t'=0) && (decide (c'=0) && decide (k'=0)))))))=E)
  (h:R=if ok=true∧E=true∧b≤1∧ndOK p∧ndOK t then 0 else 8) {T:AC} (hT:T=AC.r (AC.r (AC.r (AC.r (AC.r (AC.r c63.code)))))):
  gC C T [] [(1,.ptr 0 0),(4,.ptr 1 0),(5,.sc (.bool ok))] ⟨[(1,insB o' r' b' p' t' c' k'),(0,insB o r b p t c k)],2,0⟩ (RetV C c63.res (.sc (.int .i64 R)) ⟨[],0,0⟩):=by
 have hp:=(bneedle_p w n p).of hC rfl
 have ht:=(bneedle_p w n t).of hC rfl
 simp only[c63,AC.r] at hT
 subst hT
 cases ok
 ·rw[if_neg (by simp)] at h
  subst h
  repeat' (first|(simp (disch:=first|omega|assumption|exact bd (by with_unfolding_all rfl)|exact Or.inl rfl|exact Or.inl trivial|exact okL_map _ (fun _=>rfl) _|(simp only[VVlen]<;>omega)|fail) only[VV0,VV1,VV2,VV3,VV4,VV5,VV6,VV7,VV8,VV9,mkFnV,vargs,slotsL,opdsA,Nat.reduceEqDiff,Nat.reduceLT,Nat.reduceAdd,Nat.reduceBEq,Int.reduceAdd,Int.reduceSub,Int.reduceLT,Int.reduceLE,Int.reduceEq,Int.reduceNeg,↓reduceIte,reduceCtorEq,scL,scD,expand,List.replicate,c63])|apply gC_drawW|((first|apply gI_dec|apply gG_dec|apply gPG_dec|apply gI_var|apply gG_var|apply gPG_var)<;>intro _))
  exact weak_flat rfl h0 rfl
 cases E
 ·rw[if_neg (by simp)] at h
  subst h
  repeat' (first|(simp (disch:=first|omega|assumption|exact bd (by with_unfolding_all rfl)|exact Or.inl rfl|exact Or.inl trivial|exact okL_map _ (fun _=>rfl) _|(simp only[VVlen]<;>omega)|fail) only[VV0,VV1,VV2,VV3,VV4,VV5,VV6,VV7,VV8,VV9,mkFnV,vargs,slotsL,opdsA,Nat.reduceEqDiff,Nat.reduceLT,Nat.reduceAdd,Nat.reduceBEq,Int.reduceAdd,Int.reduceSub,Int.reduceLT,Int.reduceLE,Int.reduceEq,Int.reduceNeg,↓reduceIte,reduceCtorEq,scL,scD,expand,List.replicate,c63,hE])|apply gC_drawW|((first|apply gI_dec|apply gG_dec|apply gPG_dec|apply gI_var|apply gG_var|apply gPG_var)<;>intro _))
  exact weak_flat rfl h0 rfl
 by_cases hb:b≤1
 case neg=>
  rw[if_neg (fun hh=>hb hh.2.2.1)] at h
  subst h
  repeat' (first|(simp (disch:=first|omega|assumption|exact bd (by with_unfolding_all rfl)|exact Or.inl rfl|exact Or.inl trivial|exact okL_map _ (fun _=>rfl) _|(simp only[VVlen]<;>omega)|fail) only[VV0,VV1,VV2,VV3,VV4,VV5,VV6,VV7,VV8,VV9,mkFnV,vargs,slotsL,opdsA,Nat.reduceEqDiff,Nat.reduceLT,Nat.reduceAdd,Nat.reduceBEq,Int.reduceAdd,Int.reduceSub,Int.reduceLT,Int.reduceLE,Int.reduceEq,Int.reduceNeg,↓reduceIte,reduceCtorEq,scL,scD,expand,List.replicate,c63,hE])|apply gC_drawW|((first|apply gI_dec|apply gG_dec|apply gPG_dec|apply gI_var|apply gG_var|apply gPG_var)<;>intro _))
  all_goals try (exfalso;omega)
  exact weak_flat rfl h0 rfl
 by_cases h1:ndOK p
 case neg=>
  rw[if_neg (fun hh=>h1 hh.2.2.2.1)] at h
  subst h
  rw[decide_eq_false h1] at hp
  repeat' (first|(simp (disch:=first|omega|assumption|exact bd (by with_unfolding_all rfl)|exact Or.inl rfl|exact Or.inl trivial|exact okL_map _ (fun _=>rfl) _|(simp only[VVlen]<;>omega)|fail) only[VV0,VV1,VV2,VV3,VV4,VV5,VV6,VV7,VV8,VV9,mkFnV,vargs,slotsL,opdsA,Nat.reduceEqDiff,Nat.reduceLT,Nat.reduceAdd,Nat.reduceBEq,Int.reduceAdd,Int.reduceSub,Int.reduceLT,Int.reduceLE,Int.reduceEq,Int.reduceNeg,↓reduceIte,reduceCtorEq,scL,scD,expand,List.replicate,c63,hE])|apply gC_drawW|((first|apply gI_dec|apply gG_dec|apply gPG_dec|apply gI_var|apply gG_var|apply gPG_var)<;>intro _))
  all_goals try (exfalso;omega)
  refine callV_flat (hp _ rfl) ?_
  repeat' (first|(simp (disch:=first|omega|assumption|exact bd (by with_unfolding_all rfl)|exact Or.inl rfl|exact Or.inl trivial|exact okL_map _ (fun _=>rfl) _|(simp only[VVlen]<;>omega)|fail) only[VV0,VV1,VV2,VV3,VV4,VV5,VV6,VV7,VV8,VV9,mkFnV,vargs,slotsL,opdsA,Nat.reduceEqDiff,Nat.reduceLT,Nat.reduceAdd,Nat.reduceBEq,Int.reduceAdd,Int.reduceSub,Int.reduceLT,Int.reduceLE,Int.reduceEq,Int.reduceNeg,↓reduceIte,reduceCtorEq,scL,scD,expand,List.replicate])|apply gC_drawW|((first|apply gI_dec|apply gG_dec|apply gPG_dec|apply gI_var|apply gG_var|apply gPG_var)<;>intro _))
  exact weak_flat rfl h0 rfl
 rw[decide_eq_true h1] at hp
 repeat' (first|(simp (disch:=first|omega|assumption|exact bd (by with_unfolding_all rfl)|exact Or.inl rfl|exact Or.inl trivial|exact okL_map _ (fun _=>rfl) _|(simp only[VVlen]<;>omega)|fail) only[VV0,VV1,VV2,VV3,VV4,VV5,VV6,VV7,VV8,VV9,mkFnV,vargs,slotsL,opdsA,Nat.reduceEqDiff,Nat.reduceLT,Nat.reduceAdd,Nat.reduceBEq,Int.reduceAdd,Int.reduceSub,Int.reduceLT,Int.reduceLE,Int.reduceEq,Int.reduceNeg,↓reduceIte,reduceCtorEq,scL,scD,expand,List.replicate,c63,hE])|apply gC_drawW|((first|apply gI_dec|apply gG_dec|apply gPG_dec|apply gI_var|apply gG_var|apply gPG_var)<;>intro _))
 all_goals try (exfalso;omega)
 refine callV_flat (hp _ rfl) ?_
 repeat' (first|(simp (disch:=first|omega|assumption|exact bd (by with_unfolding_all rfl)|exact Or.inl rfl|exact Or.inl trivial|exact okL_map _ (fun _=>rfl) _|(simp only[VVlen]<;>omega)|fail) only[VV0,VV1,VV2,VV3,VV4,VV5,VV6,VV7,VV8,VV9,mkFnV,vargs,slotsL,opdsA,Nat.reduceEqDiff,Nat.reduceLT,Nat.reduceAdd,Nat.reduceBEq,Int.reduceAdd,Int.reduceSub,Int.reduceLT,Int.reduceLE,Int.reduceEq,Int.reduceNeg,↓reduceIte,reduceCtorEq,scL,scD,expand,List.replicate])|apply gC_drawW|((first|apply gI_dec|apply gG_dec|apply gPG_dec|apply gI_var|apply gG_var|apply gPG_var)<;>intro _))
 refine callV_flat (ht _ rfl) ?_
 by_cases h2:ndOK t
 ·rw[if_pos ⟨rfl,rfl,hb,h1,h2⟩] at h
  subst h
  rw[decide_eq_true h2]
  repeat' (first|(simp (disch:=first|omega|assumption|exact bd (by with_unfolding_all rfl)|exact Or.inl rfl|exact Or.inl trivial|exact okL_map _ (fun _=>rfl) _|(simp only[VVlen]<;>omega)|fail) only[VV0,VV1,VV2,VV3,VV4,VV5,VV6,VV7,VV8,VV9,mkFnV,vargs,slotsL,opdsA,Nat.reduceEqDiff,Nat.reduceLT,Nat.reduceAdd,Nat.reduceBEq,Int.reduceAdd,Int.reduceSub,Int.reduceLT,Int.reduceLE,Int.reduceEq,Int.reduceNeg,↓reduceIte,reduceCtorEq,scL,scD,expand,List.replicate])|apply gC_drawW|((first|apply gI_dec|apply gG_dec|apply gPG_dec|apply gI_var|apply gG_var|apply gPG_var)<;>intro _))
  exact weak_flat rfl h0 rfl
 ·rw[if_neg (fun hh=>h2 hh.2.2.2.2)] at h
  subst h
  rw[decide_eq_false h2]
  repeat' (first|(simp (disch:=first|omega|assumption|exact bd (by with_unfolding_all rfl)|exact Or.inl rfl|exact Or.inl trivial|exact okL_map _ (fun _=>rfl) _|(simp only[VVlen]<;>omega)|fail) only[VV0,VV1,VV2,VV3,VV4,VV5,VV6,VV7,VV8,VV9,mkFnV,vargs,slotsL,opdsA,Nat.reduceEqDiff,Nat.reduceLT,Nat.reduceAdd,Nat.reduceBEq,Int.reduceAdd,Int.reduceSub,Int.reduceLT,Int.reduceLE,Int.reduceEq,Int.reduceNeg,↓reduceIte,reduceCtorEq,scL,scD,expand,List.replicate])|apply gC_drawW|((first|apply gI_dec|apply gG_dec|apply gPG_dec|apply gI_var|apply gG_var|apply gPG_var)<;>intro _))
  exact weak_flat rfl h0 rfl
theorem binstr_p (i:Ins):VSpec (EN w (n+2)) 63 [insV i] (.sc (.int .i64 (if insOK i=true then 0 else 8))) ⟨[],0,0⟩:=by
 refine vspec_flat rfl rfl (fun _ _=>rfl) (Nat.le_of_ble_eq_true rfl) (oldVals w) rfl fun C hC h0=>?_
 obtain ⟨T,hT⟩:∃ T,T=AC.r (AC.r (AC.r (AC.r (AC.r (AC.r c63.code))))):=⟨_,rfl⟩
 have hc:c63.code= .seq (AC.l c63.code) (.seq (AC.l (AC.r c63.code)) (.seq (AC.l (AC.r (AC.r c63.code))) (.seq (AC.l (AC.r (AC.r (AC.r c63.code)))) (.seq (AC.l (AC.r (AC.r (AC.r (AC.r c63.code))))) (.seq (AC.l (AC.r (AC.r (AC.r (AC.r (AC.r c63.code)))))) T))))):=by rw[hT];rfl
 rw[hc]
 obtain ⟨op,right,bed,pos,to,car,rack⟩:=i
 have key:∀ x:Prop,[Decidable x]→(InsP ⟨op,right,bed,pos,to,car,rack⟩↔x)→(if insOK ⟨op,right,bed,pos,to,car,rack⟩=true then (0:Int) else 8)=if x then 0 else 8:=fun x _ h=>by
  by_cases hx:x
  ·rw[if_pos hx,if_pos (insOK_iff.2 (h.2 hx))]
  ·rw[if_neg hx,if_neg (fun hh=>hx (h.1 (insOK_iff.1 hh)))]
 have tl:=fun (o':Nat) (r':Bool) (b':Nat) (p' t' c' k':Int) (ok E:Bool) (hE) (h)=>binstr_tail w n hC h0 op right bed pos to car rack o' r' b' p' t' c' k' ok E _ hE (key _ h) hT
 unfold InsP at tl
 by_cases h1:op=1∨op=2
 ·rcases h1 with rfl|rfl
  all_goals
   repeat' (first|(simp (disch:=first|omega|assumption|exact bd (by with_unfolding_all rfl)|exact Or.inl rfl|exact Or.inl trivial|exact okL_map _ (fun _=>rfl) _|(simp only[VVlen]<;>omega)|fail) only[VV0,VV1,VV2,VV3,VV4,VV5,VV6,VV7,VV8,VV9,mkFnV,vargs,slotsL,opdsA,Nat.reduceEqDiff,Nat.reduceLT,Nat.reduceAdd,Nat.reduceBEq,Int.reduceAdd,Int.reduceSub,Int.reduceLT,Int.reduceLE,Int.reduceEq,Int.reduceNeg,↓reduceIte,reduceCtorEq,scL,scD,expand,List.replicate,c63,insV,AC.l,AC.r])|apply gC_drawW|((first|apply gI_dec|apply gG_dec|apply gPG_dec|apply gI_var|apply gG_var|apply gPG_var)<;>intro _))
   all_goals try (exfalso;omega)
   all_goals refine tl 0 right bed pos to 0 rack _ _ rfl ?_
   all_goals
    cases right<;>simp only[ndOK,Bool.and_eq_true,decide_eq_true_eq,beq_iff_eq,true_and,and_true,reduceCtorEq,false_and,and_false,or_false,false_or,Nat.reduceEqDiff,true_or,or_true,iff_false,true_iff,false_iff]<;>omega
 by_cases h2:op=3∨op=4∨op=5
 ·rcases h2 with rfl|rfl|rfl
  all_goals
   repeat' (first|(simp (disch:=first|omega|assumption|exact bd (by with_unfolding_all rfl)|exact Or.inl rfl|exact Or.inl trivial|exact okL_map _ (fun _=>rfl) _|(simp only[VVlen]<;>omega)|fail) only[VV0,VV1,VV2,VV3,VV4,VV5,VV6,VV7,VV8,VV9,mkFnV,vargs,slotsL,opdsA,Nat.reduceEqDiff,Nat.reduceLT,Nat.reduceAdd,Nat.reduceBEq,Int.reduceAdd,Int.reduceSub,Int.reduceLT,Int.reduceLE,Int.reduceEq,Int.reduceNeg,↓reduceIte,reduceCtorEq,scL,scD,expand,List.replicate,c63,insV,AC.l,AC.r])|apply gC_drawW|((first|apply gI_dec|apply gG_dec|apply gPG_dec|apply gI_var|apply gG_var|apply gPG_var)<;>intro _))
   all_goals try (exfalso;omega)
   all_goals refine tl 0 false 0 0 to 0 rack _ _ rfl ?_
   all_goals
    cases right<;>simp only[ndOK,Bool.and_eq_true,decide_eq_true_eq,beq_iff_eq,true_and,and_true,reduceCtorEq,false_and,and_false,or_false,false_or,Nat.reduceEqDiff,true_or,or_true,iff_false,true_iff,false_iff]<;>omega
 by_cases h3:op=6
 ·subst h3
  all_goals
   repeat' (first|(simp (disch:=first|omega|assumption|exact bd (by with_unfolding_all rfl)|exact Or.inl rfl|exact Or.inl trivial|exact okL_map _ (fun _=>rfl) _|(simp only[VVlen]<;>omega)|fail) only[VV0,VV1,VV2,VV3,VV4,VV5,VV6,VV7,VV8,VV9,mkFnV,vargs,slotsL,opdsA,Nat.reduceEqDiff,Nat.reduceLT,Nat.reduceAdd,Nat.reduceBEq,Int.reduceAdd,Int.reduceSub,Int.reduceLT,Int.reduceLE,Int.reduceEq,Int.reduceNeg,↓reduceIte,reduceCtorEq,scL,scD,expand,List.replicate,c63,insV,AC.l,AC.r])|apply gC_drawW|((first|apply gI_dec|apply gG_dec|apply gPG_dec|apply gI_var|apply gG_var|apply gPG_var)<;>intro _))
   all_goals try (exfalso;omega)
   all_goals refine tl 0 false 0 0 0 0 rack _ _ rfl ?_
   all_goals
    cases right<;>simp only[ndOK,Bool.and_eq_true,decide_eq_true_eq,beq_iff_eq,true_and,and_true,reduceCtorEq,false_and,and_false,or_false,false_or,Nat.reduceEqDiff,true_or,or_true,iff_false,true_iff,false_iff]<;>omega
 by_cases h4:op=7
 ·subst h4
  all_goals
   repeat' (first|(simp (disch:=first|omega|assumption|exact bd (by with_unfolding_all rfl)|exact Or.inl rfl|exact Or.inl trivial|exact okL_map _ (fun _=>rfl) _|(simp only[VVlen]<;>omega)|fail) only[VV0,VV1,VV2,VV3,VV4,VV5,VV6,VV7,VV8,VV9,mkFnV,vargs,slotsL,opdsA,Nat.reduceEqDiff,Nat.reduceLT,Nat.reduceAdd,Nat.reduceBEq,Int.reduceAdd,Int.reduceSub,Int.reduceLT,Int.reduceLE,Int.reduceEq,Int.reduceNeg,↓reduceIte,reduceCtorEq,scL,scD,expand,List.replicate,c63,insV,AC.l,AC.r])|apply gC_drawW|((first|apply gI_dec|apply gG_dec|apply gPG_dec|apply gI_var|apply gG_var|apply gPG_var)<;>intro _))
   all_goals try (exfalso;omega)
   all_goals refine tl 0 right 0 0 0 car rack _ _ rfl ?_
   all_goals
    cases right<;>simp only[ndOK,Bool.and_eq_true,decide_eq_true_eq,beq_iff_eq,true_and,and_true,reduceCtorEq,false_and,and_false,or_false,false_or,Nat.reduceEqDiff,true_or,or_true,iff_false,true_iff,false_iff]<;>omega
 by_cases h5:op=8
 ·subst h5
  have hw:IntKind.i64.wrap (0 - rack)= -rack∨8<rack∨rack< -8:=by
   by_cases h: -8≤rack∧rack≤8
   ·left;rw[wrap64 _ (by omega) (by omega)];omega
   ·omega
  repeat' (first|(simp (disch:=first|omega|assumption|exact bd (by with_unfolding_all rfl)|exact Or.inl rfl|exact Or.inl trivial|exact okL_map _ (fun _=>rfl) _|(simp only[VVlen]<;>omega)|fail) only[VV0,VV1,VV2,VV3,VV4,VV5,VV6,VV7,VV8,VV9,mkFnV,vargs,slotsL,opdsA,Nat.reduceEqDiff,Nat.reduceLT,Nat.reduceAdd,Nat.reduceBEq,Int.reduceAdd,Int.reduceSub,Int.reduceLT,Int.reduceLE,Int.reduceEq,Int.reduceNeg,↓reduceIte,reduceCtorEq,scL,scD,expand,List.replicate,c63,insV,AC.l,AC.r])|apply gC_drawW|((first|apply gI_dec|apply gG_dec|apply gPG_dec|apply gI_var|apply gG_var|apply gPG_var)<;>intro _))
  all_goals refine tl 0 right bed pos to car 0 _ _ rfl ?_
  all_goals generalize IntKind.i64.wrap (0 - rack)=NR at*
  all_goals
   cases right<;>simp only[ndOK,Bool.and_eq_true,decide_eq_true_eq,beq_iff_eq,true_and,and_true,reduceCtorEq,false_and,and_false,or_false,false_or,Nat.reduceEqDiff,true_or,or_true,iff_false,true_iff,false_iff]<;>omega
 by_cases h6:op=9
 ·subst h6
  all_goals
   repeat' (first|(simp (disch:=first|omega|assumption|exact bd (by with_unfolding_all rfl)|exact Or.inl rfl|exact Or.inl trivial|exact okL_map _ (fun _=>rfl) _|(simp only[VVlen]<;>omega)|fail) only[VV0,VV1,VV2,VV3,VV4,VV5,VV6,VV7,VV8,VV9,mkFnV,vargs,slotsL,opdsA,Nat.reduceEqDiff,Nat.reduceLT,Nat.reduceAdd,Nat.reduceBEq,Int.reduceAdd,Int.reduceSub,Int.reduceLT,Int.reduceLE,Int.reduceEq,Int.reduceNeg,↓reduceIte,reduceCtorEq,scL,scD,expand,List.replicate,c63,insV,AC.l,AC.r])|apply gC_drawW|((first|apply gI_dec|apply gG_dec|apply gPG_dec|apply gI_var|apply gG_var|apply gPG_var)<;>intro _))
   all_goals try (exfalso;omega)
   all_goals refine tl 0 right 0 0 to car rack _ _ rfl ?_
   all_goals
    cases right<;>simp only[ndOK,Bool.and_eq_true,decide_eq_true_eq,beq_iff_eq,true_and,and_true,reduceCtorEq,false_and,and_false,or_false,false_or,Nat.reduceEqDiff,true_or,or_true,iff_false,true_iff,false_iff]<;>omega
 repeat' (first|(simp (disch:=first|omega|assumption|exact bd (by with_unfolding_all rfl)|exact Or.inl rfl|exact Or.inl trivial|exact okL_map _ (fun _=>rfl) _|(simp only[VVlen]<;>omega)|fail) only[VV0,VV1,VV2,VV3,VV4,VV5,VV6,VV7,VV8,VV9,mkFnV,vargs,slotsL,opdsA,Nat.reduceEqDiff,Nat.reduceLT,Nat.reduceAdd,Nat.reduceBEq,Int.reduceAdd,Int.reduceSub,Int.reduceLT,Int.reduceLE,Int.reduceEq,Int.reduceNeg,↓reduceIte,reduceCtorEq,scL,scD,expand,List.replicate,c63,insV,AC.l,AC.r])|apply gC_drawW|((first|apply gI_dec|apply gG_dec|apply gPG_dec|apply gI_var|apply gG_var|apply gPG_var)<;>intro _))
 all_goals try (exfalso;omega)
 all_goals refine tl 0 right bed pos to car rack _ _ rfl ?_
 all_goals
  cases right<;>simp only[ndOK,Bool.and_eq_true,decide_eq_true_eq,beq_iff_eq,true_and,and_true,reduceCtorEq,false_and,and_false,or_false,false_or,Nat.reduceEqDiff,true_or,or_true,iff_false,true_iff,false_iff]<;>omega
end
end Go.Proofs.YtgohenjcanfolaaGreatDoor
namespace Go.Proofs.YtgohenjcanfolaaGreatDoor
open Go Go.Itp
set_option maxRecDepth 100000
set_option maxHeartbeats 20000000
set_option linter.unusedSimpArgs false
set_option linter.unusedVariables false
section
variable (w:World) (n:Nat)
theorem rinstr_tail {C:Ctx} (hC:C.E=EN w (n+1)) (h0:C.w0.nx=0) (o:Nat) (r:Bool) (b:Nat) (p t c k:Int) (o':Nat) (r':Bool) (b':Nat) (p' t' c' k':Int) (ok:Bool) (E:Bool) (R:Int)
  (hE:(decide ((o':Int)=o) && (r'==r && (decide ((b':Int)=b) && (decide (p'=p) && (decide (t'=t) && (decide (c'=c) && decide (k'=k)))))))=E)
  (h:R=if ok=true∧E=true∧b≤1∧ndOK p∧ndOK t then 0 else 8) {T:AC} (hT:T=AC.r (AC.r (AC.r (AC.r c25.code)))):
  gC C T [] [(1,.ptr 0 0),(3,.ptr 1 0),(4,.sc (.bool ok))] ⟨[(1,insB o' r' b' p' t' c' k'),(0,insB o r b p t c k)],2,0⟩ (RetV C c25.res (.sc (.int .i64 R)) ⟨[],0,0⟩):=by
 have hp:=(rat_p w n p).of hC rfl
 have ht:=(rat_p w n t).of hC rfl
 simp only[c25,AC.r] at hT
 subst hT
 cases ok
 ·rw[if_neg (by simp)] at h
  subst h
  repeat' (first|(simp (disch:=first|omega|assumption|exact bd (by with_unfolding_all rfl)|exact Or.inl rfl|exact Or.inl trivial|exact okL_map _ (fun _=>rfl) _|(simp only[VVlen]<;>omega)|fail) only[VV0,VV1,VV2,VV3,VV4,VV5,VV6,VV7,VV8,VV9,mkFnV,vargs,slotsL,opdsA,Nat.reduceEqDiff,Nat.reduceLT,Nat.reduceAdd,Nat.reduceBEq,Int.reduceAdd,Int.reduceSub,Int.reduceLT,Int.reduceLE,Int.reduceEq,Int.reduceNeg,↓reduceIte,reduceCtorEq,scL,scD,expand,List.replicate,c25])|apply gC_drawW|((first|apply gI_dec|apply gG_dec|apply gPG_dec|apply gI_var|apply gG_var|apply gPG_var)<;>intro _))
  exact weak_flat rfl h0 rfl
 cases E
 ·rw[if_neg (by simp)] at h
  subst h
  repeat' (first|(simp (disch:=first|omega|assumption|exact bd (by with_unfolding_all rfl)|exact Or.inl rfl|exact Or.inl trivial|exact okL_map _ (fun _=>rfl) _|(simp only[VVlen]<;>omega)|fail) only[VV0,VV1,VV2,VV3,VV4,VV5,VV6,VV7,VV8,VV9,mkFnV,vargs,slotsL,opdsA,Nat.reduceEqDiff,Nat.reduceLT,Nat.reduceAdd,Nat.reduceBEq,Int.reduceAdd,Int.reduceSub,Int.reduceLT,Int.reduceLE,Int.reduceEq,Int.reduceNeg,↓reduceIte,reduceCtorEq,scL,scD,expand,List.replicate,c25,hE])|apply gC_drawW|((first|apply gI_dec|apply gG_dec|apply gPG_dec|apply gI_var|apply gG_var|apply gPG_var)<;>intro _))
  exact weak_flat rfl h0 rfl
 by_cases hb:b≤1
 case neg=>
  rw[if_neg (fun hh=>hb hh.2.2.1)] at h
  subst h
  repeat' (first|(simp (disch:=first|omega|assumption|exact bd (by with_unfolding_all rfl)|exact Or.inl rfl|exact Or.inl trivial|exact okL_map _ (fun _=>rfl) _|(simp only[VVlen]<;>omega)|fail) only[VV0,VV1,VV2,VV3,VV4,VV5,VV6,VV7,VV8,VV9,mkFnV,vargs,slotsL,opdsA,Nat.reduceEqDiff,Nat.reduceLT,Nat.reduceAdd,Nat.reduceBEq,Int.reduceAdd,Int.reduceSub,Int.reduceLT,Int.reduceLE,Int.reduceEq,Int.reduceNeg,↓reduceIte,reduceCtorEq,scL,scD,expand,List.replicate,c25,hE])|apply gC_drawW|((first|apply gI_dec|apply gG_dec|apply gPG_dec|apply gI_var|apply gG_var|apply gPG_var)<;>intro _))
  all_goals try (exfalso;omega)
  exact weak_flat rfl h0 rfl
 by_cases h1:ndOK p
 case neg=>
  rw[if_neg (fun hh=>h1 hh.2.2.2.1)] at h
  subst h
  rw[decide_eq_false h1] at hp
  repeat' (first|(simp (disch:=first|omega|assumption|exact bd (by with_unfolding_all rfl)|exact Or.inl rfl|exact Or.inl trivial|exact okL_map _ (fun _=>rfl) _|(simp only[VVlen]<;>omega)|fail) only[VV0,VV1,VV2,VV3,VV4,VV5,VV6,VV7,VV8,VV9,mkFnV,vargs,slotsL,opdsA,Nat.reduceEqDiff,Nat.reduceLT,Nat.reduceAdd,Nat.reduceBEq,Int.reduceAdd,Int.reduceSub,Int.reduceLT,Int.reduceLE,Int.reduceEq,Int.reduceNeg,↓reduceIte,reduceCtorEq,scL,scD,expand,List.replicate,c25,hE])|apply gC_drawW|((first|apply gI_dec|apply gG_dec|apply gPG_dec|apply gI_var|apply gG_var|apply gPG_var)<;>intro _))
  all_goals try (exfalso;omega)
  refine callV_flat (hp _ rfl) ?_
  repeat' (first|(simp (disch:=first|omega|assumption|exact bd (by with_unfolding_all rfl)|exact Or.inl rfl|exact Or.inl trivial|exact okL_map _ (fun _=>rfl) _|(simp only[VVlen]<;>omega)|fail) only[VV0,VV1,VV2,VV3,VV4,VV5,VV6,VV7,VV8,VV9,mkFnV,vargs,slotsL,opdsA,Nat.reduceEqDiff,Nat.reduceLT,Nat.reduceAdd,Nat.reduceBEq,Int.reduceAdd,Int.reduceSub,Int.reduceLT,Int.reduceLE,Int.reduceEq,Int.reduceNeg,↓reduceIte,reduceCtorEq,scL,scD,expand,List.replicate])|apply gC_drawW|((first|apply gI_dec|apply gG_dec|apply gPG_dec|apply gI_var|apply gG_var|apply gPG_var)<;>intro _))
  exact weak_flat rfl h0 rfl
 rw[decide_eq_true h1] at hp
 repeat' (first|(simp (disch:=first|omega|assumption|exact bd (by with_unfolding_all rfl)|exact Or.inl rfl|exact Or.inl trivial|exact okL_map _ (fun _=>rfl) _|(simp only[VVlen]<;>omega)|fail) only[VV0,VV1,VV2,VV3,VV4,VV5,VV6,VV7,VV8,VV9,mkFnV,vargs,slotsL,opdsA,Nat.reduceEqDiff,Nat.reduceLT,Nat.reduceAdd,Nat.reduceBEq,Int.reduceAdd,Int.reduceSub,Int.reduceLT,Int.reduceLE,Int.reduceEq,Int.reduceNeg,↓reduceIte,reduceCtorEq,scL,scD,expand,List.replicate,c25,hE])|apply gC_drawW|((first|apply gI_dec|apply gG_dec|apply gPG_dec|apply gI_var|apply gG_var|apply gPG_var)<;>intro _))
 all_goals try (exfalso;omega)
 refine callV_flat (hp _ rfl) ?_
 repeat' (first|(simp (disch:=first|omega|assumption|exact bd (by with_unfolding_all rfl)|exact Or.inl rfl|exact Or.inl trivial|exact okL_map _ (fun _=>rfl) _|(simp only[VVlen]<;>omega)|fail) only[VV0,VV1,VV2,VV3,VV4,VV5,VV6,VV7,VV8,VV9,mkFnV,vargs,slotsL,opdsA,Nat.reduceEqDiff,Nat.reduceLT,Nat.reduceAdd,Nat.reduceBEq,Int.reduceAdd,Int.reduceSub,Int.reduceLT,Int.reduceLE,Int.reduceEq,Int.reduceNeg,↓reduceIte,reduceCtorEq,scL,scD,expand,List.replicate])|apply gC_drawW|((first|apply gI_dec|apply gG_dec|apply gPG_dec|apply gI_var|apply gG_var|apply gPG_var)<;>intro _))
 refine callV_flat (ht _ rfl) ?_
 by_cases h2:ndOK t
 ·rw[if_pos ⟨rfl,rfl,hb,h1,h2⟩] at h
  subst h
  rw[decide_eq_true h2]
  repeat' (first|(simp (disch:=first|omega|assumption|exact bd (by with_unfolding_all rfl)|exact Or.inl rfl|exact Or.inl trivial|exact okL_map _ (fun _=>rfl) _|(simp only[VVlen]<;>omega)|fail) only[VV0,VV1,VV2,VV3,VV4,VV5,VV6,VV7,VV8,VV9,mkFnV,vargs,slotsL,opdsA,Nat.reduceEqDiff,Nat.reduceLT,Nat.reduceAdd,Nat.reduceBEq,Int.reduceAdd,Int.reduceSub,Int.reduceLT,Int.reduceLE,Int.reduceEq,Int.reduceNeg,↓reduceIte,reduceCtorEq,scL,scD,expand,List.replicate])|apply gC_drawW|((first|apply gI_dec|apply gG_dec|apply gPG_dec|apply gI_var|apply gG_var|apply gPG_var)<;>intro _))
  exact weak_flat rfl h0 rfl
 ·rw[if_neg (fun hh=>h2 hh.2.2.2.2)] at h
  subst h
  rw[decide_eq_false h2]
  repeat' (first|(simp (disch:=first|omega|assumption|exact bd (by with_unfolding_all rfl)|exact Or.inl rfl|exact Or.inl trivial|exact okL_map _ (fun _=>rfl) _|(simp only[VVlen]<;>omega)|fail) only[VV0,VV1,VV2,VV3,VV4,VV5,VV6,VV7,VV8,VV9,mkFnV,vargs,slotsL,opdsA,Nat.reduceEqDiff,Nat.reduceLT,Nat.reduceAdd,Nat.reduceBEq,Int.reduceAdd,Int.reduceSub,Int.reduceLT,Int.reduceLE,Int.reduceEq,Int.reduceNeg,↓reduceIte,reduceCtorEq,scL,scD,expand,List.replicate])|apply gC_drawW|((first|apply gI_dec|apply gG_dec|apply gPG_dec|apply gI_var|apply gG_var|apply gPG_var)<;>intro _))
  exact weak_flat rfl h0 rfl
theorem rinstr_p (i:Ins):VSpec (EN w (n+2)) 25 [insV i] (.sc (.int .i64 (if insOK i=true then 0 else 8))) ⟨[],0,0⟩:=by
 refine vspec_flat rfl rfl (fun _ _=>rfl) (Nat.le_of_ble_eq_true rfl) (oldVals w) rfl fun C hC h0=>?_
 obtain ⟨T,hT⟩:∃ T,T=AC.r (AC.r (AC.r (AC.r c25.code))):=⟨_,rfl⟩
 have hc:c25.code= .seq (AC.l c25.code) (.seq (AC.l (AC.r c25.code)) (.seq (AC.l (AC.r (AC.r c25.code))) (.seq (AC.l (AC.r (AC.r (AC.r c25.code)))) T))):=by rw[hT];rfl
 rw[hc]
 obtain ⟨op,right,bed,pos,to,car,rack⟩:=i
 have key:∀ x:Prop,[Decidable x]→(InsP ⟨op,right,bed,pos,to,car,rack⟩↔x)→(if insOK ⟨op,right,bed,pos,to,car,rack⟩=true then (0:Int) else 8)=if x then 0 else 8:=fun x _ h=>by
  by_cases hx:x
  ·rw[if_pos hx,if_pos (insOK_iff.2 (h.2 hx))]
  ·rw[if_neg hx,if_neg (fun hh=>hx (h.1 (insOK_iff.1 hh)))]
 have tl:=fun (o':Nat) (r':Bool) (b':Nat) (p' t' c' k':Int) (ok E:Bool) (hE) (h)=>rinstr_tail w n hC h0 op right bed pos to car rack o' r' b' p' t' c' k' ok E _ hE (key _ h) hT
 unfold InsP at tl
 have hf:=(rfeed_p w n car).of hC rfl
 by_cases h1:op=1∨op=2
 ·rcases h1 with h1|h1
  all_goals
   repeat' (first|(simp (disch:=first|omega|assumption|exact bd (by with_unfolding_all rfl)|exact Or.inl rfl|exact Or.inl trivial|exact okL_map _ (fun _=>rfl) _|(simp only[VVlen]<;>omega)|fail) only[VV0,VV1,VV2,VV3,VV4,VV5,VV6,VV7,VV8,VV9,mkFnV,vargs,slotsL,opdsA,Nat.reduceEqDiff,Nat.reduceLT,Nat.reduceAdd,Nat.reduceBEq,Int.reduceAdd,Int.reduceSub,Int.reduceLT,Int.reduceLE,Int.reduceEq,Int.reduceNeg,↓reduceIte,reduceCtorEq,scL,scD,expand,List.replicate,c25,insV,AC.l,AC.r])|apply gC_drawW|((first|apply gI_dec|apply gG_dec|apply gPG_dec|apply gI_var|apply gG_var|apply gPG_var)<;>intro _))
   all_goals try (exfalso;omega)
   refine callV_flat (hf _ rfl) ?_
   repeat' (first|(simp (disch:=first|omega|assumption|exact bd (by with_unfolding_all rfl)|exact Or.inl rfl|exact Or.inl trivial|exact okL_map _ (fun _=>rfl) _|(simp only[VVlen]<;>omega)|fail) only[VV0,VV1,VV2,VV3,VV4,VV5,VV6,VV7,VV8,VV9,mkFnV,vargs,slotsL,opdsA,Nat.reduceEqDiff,Nat.reduceLT,Nat.reduceAdd,Nat.reduceBEq,Int.reduceAdd,Int.reduceSub,Int.reduceLT,Int.reduceLE,Int.reduceEq,Int.reduceNeg,↓reduceIte,reduceCtorEq,scL,scD,expand,List.replicate])|apply gC_drawW|((first|apply gI_dec|apply gG_dec|apply gPG_dec|apply gI_var|apply gG_var|apply gPG_var)<;>intro _))
   all_goals refine tl op false 0 0 0 car 0 _ _ rfl ?_
   all_goals
    cases right<;>simp only[ndOK,Bool.and_eq_true,decide_eq_true_eq,beq_iff_eq,true_and,and_true,reduceCtorEq,false_and,and_false,or_false,false_or,Nat.reduceEqDiff,true_or,or_true,iff_false,true_iff,false_iff]<;>omega
 by_cases h2:op=3∨op=4∨op=5
 ·rcases h2 with h2|h2|h2
  all_goals
   repeat' (first|(simp (disch:=first|omega|assumption|exact bd (by with_unfolding_all rfl)|exact Or.inl rfl|exact Or.inl trivial|exact okL_map _ (fun _=>rfl) _|(simp only[VVlen]<;>omega)|fail) only[VV0,VV1,VV2,VV3,VV4,VV5,VV6,VV7,VV8,VV9,mkFnV,vargs,slotsL,opdsA,Nat.reduceEqDiff,Nat.reduceLT,Nat.reduceAdd,Nat.reduceBEq,Int.reduceAdd,Int.reduceSub,Int.reduceLT,Int.reduceLE,Int.reduceEq,Int.reduceNeg,↓reduceIte,reduceCtorEq,scL,scD,expand,List.replicate,c25,insV,AC.l,AC.r])|apply gC_drawW|((first|apply gI_dec|apply gG_dec|apply gPG_dec|apply gI_var|apply gG_var|apply gPG_var)<;>intro _))
   all_goals try (exfalso;omega)
   refine callV_flat (hf _ rfl) ?_
   repeat' (first|(simp (disch:=first|omega|assumption|exact bd (by with_unfolding_all rfl)|exact Or.inl rfl|exact Or.inl trivial|exact okL_map _ (fun _=>rfl) _|(simp only[VVlen]<;>omega)|fail) only[VV0,VV1,VV2,VV3,VV4,VV5,VV6,VV7,VV8,VV9,mkFnV,vargs,slotsL,opdsA,Nat.reduceEqDiff,Nat.reduceLT,Nat.reduceAdd,Nat.reduceBEq,Int.reduceAdd,Int.reduceSub,Int.reduceLT,Int.reduceLE,Int.reduceEq,Int.reduceNeg,↓reduceIte,reduceCtorEq,scL,scD,expand,List.replicate])|apply gC_drawW|((first|apply gI_dec|apply gG_dec|apply gPG_dec|apply gI_var|apply gG_var|apply gPG_var)<;>intro _))
   all_goals refine tl op right bed pos 0 car 0 _ _ rfl ?_
   all_goals
    cases right<;>simp only[ndOK,Bool.and_eq_true,decide_eq_true_eq,beq_iff_eq,true_and,and_true,reduceCtorEq,false_and,and_false,or_false,false_or,Nat.reduceEqDiff,true_or,or_true,iff_false,true_iff,false_iff]<;>omega
 by_cases h3:op=6
 ·all_goals
   repeat' (first|(simp (disch:=first|omega|assumption|exact bd (by with_unfolding_all rfl)|exact Or.inl rfl|exact Or.inl trivial|exact okL_map _ (fun _=>rfl) _|(simp only[VVlen]<;>omega)|fail) only[VV0,VV1,VV2,VV3,VV4,VV5,VV6,VV7,VV8,VV9,mkFnV,vargs,slotsL,opdsA,Nat.reduceEqDiff,Nat.reduceLT,Nat.reduceAdd,Nat.reduceBEq,Int.reduceAdd,Int.reduceSub,Int.reduceLT,Int.reduceLE,Int.reduceEq,Int.reduceNeg,↓reduceIte,reduceCtorEq,scL,scD,expand,List.replicate,c25,insV,AC.l,AC.r])|apply gC_drawW|((first|apply gI_dec|apply gG_dec|apply gPG_dec|apply gI_var|apply gG_var|apply gPG_var)<;>intro _))
   all_goals try (exfalso;omega)
   refine callV_flat (hf _ rfl) ?_
   repeat' (first|(simp (disch:=first|omega|assumption|exact bd (by with_unfolding_all rfl)|exact Or.inl rfl|exact Or.inl trivial|exact okL_map _ (fun _=>rfl) _|(simp only[VVlen]<;>omega)|fail) only[VV0,VV1,VV2,VV3,VV4,VV5,VV6,VV7,VV8,VV9,mkFnV,vargs,slotsL,opdsA,Nat.reduceEqDiff,Nat.reduceLT,Nat.reduceAdd,Nat.reduceBEq,Int.reduceAdd,Int.reduceSub,Int.reduceLT,Int.reduceLE,Int.reduceEq,Int.reduceNeg,↓reduceIte,reduceCtorEq,scL,scD,expand,List.replicate])|apply gC_drawW|((first|apply gI_dec|apply gG_dec|apply gPG_dec|apply gI_var|apply gG_var|apply gPG_var)<;>intro _))
   all_goals refine tl op right bed pos to car 0 _ _ rfl ?_
   all_goals
    cases right<;>simp only[ndOK,Bool.and_eq_true,decide_eq_true_eq,beq_iff_eq,true_and,and_true,reduceCtorEq,false_and,and_false,or_false,false_or,Nat.reduceEqDiff,true_or,or_true,iff_false,true_iff,false_iff]<;>omega
 by_cases h4:op=7
 ·all_goals
   repeat' (first|(simp (disch:=first|omega|assumption|exact bd (by with_unfolding_all rfl)|exact Or.inl rfl|exact Or.inl trivial|exact okL_map _ (fun _=>rfl) _|(simp only[VVlen]<;>omega)|fail) only[VV0,VV1,VV2,VV3,VV4,VV5,VV6,VV7,VV8,VV9,mkFnV,vargs,slotsL,opdsA,Nat.reduceEqDiff,Nat.reduceLT,Nat.reduceAdd,Nat.reduceBEq,Int.reduceAdd,Int.reduceSub,Int.reduceLT,Int.reduceLE,Int.reduceEq,Int.reduceNeg,↓reduceIte,reduceCtorEq,scL,scD,expand,List.replicate,c25,insV,AC.l,AC.r])|apply gC_drawW|((first|apply gI_dec|apply gG_dec|apply gPG_dec|apply gI_var|apply gG_var|apply gPG_var)<;>intro _))
   all_goals try (exfalso;omega)
   all_goals refine tl op false bed pos to 0 0 _ _ rfl ?_
   all_goals
    cases right<;>simp only[ndOK,Bool.and_eq_true,decide_eq_true_eq,beq_iff_eq,true_and,and_true,reduceCtorEq,false_and,and_false,or_false,false_or,Nat.reduceEqDiff,true_or,or_true,iff_false,true_iff,false_iff]<;>omega
 by_cases h5:op=8
 ·all_goals
   repeat' (first|(simp (disch:=first|omega|assumption|exact bd (by with_unfolding_all rfl)|exact Or.inl rfl|exact Or.inl trivial|exact okL_map _ (fun _=>rfl) _|(simp only[VVlen]<;>omega)|fail) only[VV0,VV1,VV2,VV3,VV4,VV5,VV6,VV7,VV8,VV9,mkFnV,vargs,slotsL,opdsA,Nat.reduceEqDiff,Nat.reduceLT,Nat.reduceAdd,Nat.reduceBEq,Int.reduceAdd,Int.reduceSub,Int.reduceLT,Int.reduceLE,Int.reduceEq,Int.reduceNeg,↓reduceIte,reduceCtorEq,scL,scD,expand,List.replicate,c25,insV,AC.l,AC.r])|apply gC_drawW|((first|apply gI_dec|apply gG_dec|apply gPG_dec|apply gI_var|apply gG_var|apply gPG_var)<;>intro _))
   all_goals try (exfalso;omega)
   all_goals refine tl op false 0 0 0 0 rack _ _ rfl ?_
   all_goals
    cases right<;>simp only[ndOK,Bool.and_eq_true,decide_eq_true_eq,beq_iff_eq,true_and,and_true,reduceCtorEq,false_and,and_false,or_false,false_or,Nat.reduceEqDiff,true_or,or_true,iff_false,true_iff,false_iff]<;>omega
 by_cases h6:op=9
 ·all_goals
   repeat' (first|(simp (disch:=first|omega|assumption|exact bd (by with_unfolding_all rfl)|exact Or.inl rfl|exact Or.inl trivial|exact okL_map _ (fun _=>rfl) _|(simp only[VVlen]<;>omega)|fail) only[VV0,VV1,VV2,VV3,VV4,VV5,VV6,VV7,VV8,VV9,mkFnV,vargs,slotsL,opdsA,Nat.reduceEqDiff,Nat.reduceLT,Nat.reduceAdd,Nat.reduceBEq,Int.reduceAdd,Int.reduceSub,Int.reduceLT,Int.reduceLE,Int.reduceEq,Int.reduceNeg,↓reduceIte,reduceCtorEq,scL,scD,expand,List.replicate,c25,insV,AC.l,AC.r])|apply gC_drawW|((first|apply gI_dec|apply gG_dec|apply gPG_dec|apply gI_var|apply gG_var|apply gPG_var)<;>intro _))
   all_goals try (exfalso;omega)
   all_goals refine tl op false bed pos 0 0 0 _ _ rfl ?_
   all_goals
    cases right<;>simp only[ndOK,Bool.and_eq_true,decide_eq_true_eq,beq_iff_eq,true_and,and_true,reduceCtorEq,false_and,and_false,or_false,false_or,Nat.reduceEqDiff,true_or,or_true,iff_false,true_iff,false_iff]<;>omega
 rw[key False ?_]
 ·repeat' (first|(simp (disch:=first|omega|assumption|exact bd (by with_unfolding_all rfl)|exact Or.inl rfl|exact Or.inl trivial|exact okL_map _ (fun _=>rfl) _|(simp only[VVlen]<;>omega)|fail) only[VV0,VV1,VV2,VV3,VV4,VV5,VV6,VV7,VV8,VV9,mkFnV,vargs,slotsL,opdsA,Nat.reduceEqDiff,Nat.reduceLT,Nat.reduceAdd,Nat.reduceBEq,Int.reduceAdd,Int.reduceSub,Int.reduceLT,Int.reduceLE,Int.reduceEq,Int.reduceNeg,↓reduceIte,reduceCtorEq,scL,scD,expand,List.replicate,c25,insV,AC.l,AC.r])|apply gC_drawW|((first|apply gI_dec|apply gG_dec|apply gPG_dec|apply gI_var|apply gG_var|apply gPG_var)<;>intro _))
  all_goals try (exfalso;omega)
  exact weak_flat rfl h0 rfl
 ·unfold InsP
  simp only[iff_false]
  omega
end
set_option maxHeartbeats 1000000
instance:Inhabited Ins:=⟨ins0⟩
def insD (L:List Ins):List D:=L.flatMap fun a=>(insC a).map D.sc
theorem insD_len (L:List Ins):(insD L).length=L.length*7:=by
 induction L with
 |nil=>rfl
 |cons p L ih=>
  have e:insD (p::L)=(insC p).map D.sc++insD L:=by simp[insD]
  rw[e,List.length_append,ih];simp[insC];omega
theorem insD_agg (L:List Ins) (k:Nat) (hk:k<L.length):dload (insD L) (k*7) (some 7)=some (insV L[k]!):=by
 have:=dload_flat (fun p:Ins=>(insC p).map D.sc) 7 L (fun _=>rfl) (by decide) k hk
 unfold insD
 rw[this]
 rfl
theorem row1V_ins (nx t:Nat) (a b c d e f g:Value):mkRowV nx t 7 1 [.int .u8 0,.bool false,.int .u8 0,.int .i64 0,.int .i64 0,.int .i64 0,.int .i64 0] [(0,7,.agg [.sc a,.sc b,.sc c,.sc d,.sc e,.sc f,.sc g])]=some (.ref nx 0 1 1,some (.row t 7 false false [.sc a,.sc b,.sc c,.sc d,.sc e,.sc f,.sc g]),[]):=rfl
theorem snap_gr7 {H:VHp} {o t n:Nat} {z:Bool} {l:List D} (h:aget H o=some (.gro t 7 z l)) (hl:l.length=n*7):snapV H (.gr 2 o n)=some (.sl 2 n l):=by
 simp only[snapV,toD,h]
 rw[if_pos ⟨hl,by decide,by decide,by decide⟩]
 rfl
theorem insD_app (L M:List Ins):insD (L++M)=insD L++insD M:=by simp[insD]
theorem partD_front (L:List Ins) (a:Nat) (h:a≤L.length):partD (insD L) 0 (a*7)=insD (L.take a):=by
 have h1:(insD (L.take a)).length=a*7:=by rw[insD_len,List.length_take];congr 1;omega
 have h2:insD L=insD (L.take a)++insD (L.drop a):=by rw[← insD_app,List.take_append_drop]
 unfold partD
 rw[h2,List.drop_zero,Nat.sub_zero,List.take_left' h1]
theorem partD_back (L:List Ins) (a:Nat) (h:a≤L.length):partD (insD L) (a*7) (L.length*7)=insD (L.drop a):=by
 have h1:(insD (L.take a)).length=a*7:=by rw[insD_len,List.length_take];congr 1;omega
 have h2:insD L=insD (L.take a)++insD (L.drop a):=by rw[← insD_app,List.take_append_drop]
 have h3:(insD (L.drop a)).length=L.length*7 - a*7:=by rw[insD_len,List.length_drop];omega
 unfold partD
 rw[h2,List.drop_left' h1,← h3,List.take_length]
instance:DecidableEq Ins:=fun x y=>decidable_of_iff (x.op=y.op∧x.right=y.right∧x.bed=y.bed∧x.pos=y.pos∧x.to=y.to∧x.car=y.car∧x.rack=y.rack) ⟨fun ⟨h1,h2,h3,h4,h5,h6,h7⟩=>Ins.ext' h1 h2 h3 h4 h5 h6 h7,fun h=>by subst h;exact ⟨rfl,rfl,rfl,rfl,rfl,rfl,rfl⟩⟩
abbrev iN (z:Int):V:= .sc (.int .i64 z)
abbrev jS (s:Nat) (L:List Ins):V:= .sl s L.length (insD L)
theorem eqAgg_ins (g:Bool) (x y:Ins):eqAggV g [(0,0),(1,2),(2,0),(3,0),(4,0),(5,0),(6,0)] (insV x) (insV y)=some (.sc (.bool (negB g (decide (x=y))))):=by
 obtain ⟨a1,a2,a3,a4,a5,a6,a7⟩:=x
 obtain ⟨b1,b2,b3,b4,b5,b6,b7⟩:=y
 unfold insV
 rw[eqAggV_agg]
 have e:eqCellsV [(0,0),(1,2),(2,0),(3,0),(4,0),(5,0),(6,0)] [V.sc (.int .u8 a1),.sc (.bool a2),.sc (.int .u8 a3),.sc (.int .i64 a4),.sc (.int .i64 a5),.sc (.int .i64 a6),.sc (.int .i64 a7)] [V.sc (.int .u8 b1),.sc (.bool b2),.sc (.int .u8 b3),.sc (.int .i64 b4),.sc (.int .i64 b5),.sc (.int .i64 b6),.sc (.int .i64 b7)]=
   some (decide ((a1:Int)=b1) && ((a2==b2) && (decide ((a3:Int)=b3) && (decide (a4=b4) && (decide (a5=b5) && (decide (a6=b6) && decide (a7=b7))))))):=by
  simp only[eqCellsV_cons,eqCellsV_nil,eqCellV_int,eqCellV_bool,andC_some,Bool.and_true,lget,Option.bind_some]
 rw[e]
 simp only[Option.map_some]
 congr 4
 rw[Bool.eq_iff_iff]
 simp only[Bool.and_eq_true,beq_iff_eq,decide_eq_true_eq,Ins.mk.injEq]
 constructor
 ·rintro ⟨h1,h2,h3,h4⟩;exact ⟨by omega,h2,by omega,h4⟩
 ·rintro ⟨h1,h2,h3,h4⟩;exact ⟨by omega,h2,by omega,h4⟩
theorem eqJ_of_all {a l:List Ins} (h:a.length=l.length) (ha:∀ j,j<l.length→a[j]! =l[j]!):a=l:=by
 refine List.ext_getElem h fun i h1 h2=>?_
 have:=ha i h2
 rwa [getElem!_pos a i h1,getElem!_pos l i h2] at this
def cmn:List Ins→List Ins→Nat
 |a::A,b::B=>if a=b then cmn A B+1 else 0
 |_,_=>0
theorem cmn_le:∀ (A B:List Ins),cmn A B≤A.length∧cmn A B≤B.length
 | [],_=>⟨Nat.zero_le _,Nat.zero_le _⟩
 |_::_,[]=>⟨Nat.zero_le _,Nat.zero_le _⟩
 |a::A,b::B=>by
  have ih:=cmn_le A B
  rw[cmn]
  split<;>simp<;>omega
theorem cmn_eq:∀ (A B:List Ins) (j:Nat),j<cmn A B→A[j]! =B[j]!
 | [],_,j,h=>absurd h (Nat.not_lt_zero _)
 |_::_,[],j,h=>absurd h (Nat.not_lt_zero _)
 |a::A,b::B,j,h=>by
  rw[cmn] at h
  split at h
  ·rename_i e
   cases j with
   |zero=>simpa using e
   |succ j=>simpa using cmn_eq A B j (by omega)
  ·exact absurd h (Nat.not_lt_zero _)
theorem cmn_ne:∀ (A B:List Ins),cmn A B<A.length→cmn A B<B.length→A[cmn A B]! ≠ B[cmn A B]!
 | [],_,h,_=>absurd h (Nat.not_lt_zero _)
 |_::_,[],_,h=>absurd h (Nat.not_lt_zero _)
 |a::A,b::B,h1,h2=>by
  rw[cmn] at h1 h2 ⊢
  split at h1
  ·rename_i e
   rw[if_pos e] at h2 ⊢
   have:=cmn_ne A B (by simpa using h1) (by simpa using h2)
   simpa using this
  ·rename_i e
   rw[if_neg e]
   simpa using e
section
variable (w:World) (n:Nat)
theorem jequal_p (s t:Nat) (L M:List Ins) (hL:L.length≤140737488351232) (hM:M.length≤140737488351232):VSpec (EN w (n+1)) 69 [jS s L,jS t M] (.sc (.bool (decide (L=M)))) ⟨[],0,0⟩:=by
 have hil:=insD_len L
 have him:=insD_len M
 by_cases hlen:L.length=M.length
 case neg=>
  rw[decide_eq_false fun h=>hlen (by rw[h])]
  refine vspec_flat rfl rfl (fun _ _=>rfl) (Nat.le_of_ble_eq_true rfl) (oldVals w) rfl fun C hC h0=>?_
  repeat' (first|(simp (disch:=first|omega|assumption|exact bd (by with_unfolding_all rfl)|exact Or.inl rfl|exact Or.inl trivial|exact okL_map _ (fun _=>rfl) _|(simp only[VVlen]<;>omega)|fail) only[VV0,VV1,VV2,VV3,VV4,VV5,VV6,VV7,VV8,VV9,mkFnV,vargs,slotsL,opdsA,Nat.reduceEqDiff,Nat.reduceLT,Nat.reduceAdd,Nat.reduceBEq,Int.reduceAdd,Int.reduceSub,Int.reduceLT,Int.reduceLE,Int.reduceEq,Int.reduceNeg,↓reduceIte,reduceCtorEq,scL,scD,expand,List.replicate,c69])|apply gC_drawW|((first|apply gI_dec|apply gG_dec|apply gPG_dec|apply gI_var|apply gG_var|apply gPG_var)<;>intro _))
  all_goals try (exfalso;omega)
  exact weak_flat rfl h0 rfl
 refine vspec_flat rfl rfl (fun _ _=>rfl) (Nat.le_of_ble_eq_true rfl) (oldVals w) rfl fun C hC h0=>?_
 have hrn:C.E.rounds=many:=by rw[hC,callP_rounds]
 repeat' (first|(simp (disch:=first|omega|assumption|exact bd (by with_unfolding_all rfl)|exact Or.inl rfl|exact Or.inl trivial|exact okL_map _ (fun _=>rfl) _|(simp only[VVlen]<;>omega)|fail) only[VV0,VV1,VV2,VV3,VV4,VV5,VV6,VV7,VV8,VV9,mkFnV,vargs,slotsL,opdsA,Nat.reduceEqDiff,Nat.reduceLT,Nat.reduceAdd,Nat.reduceBEq,Int.reduceAdd,Int.reduceSub,Int.reduceLT,Int.reduceLE,Int.reduceEq,Int.reduceNeg,↓reduceIte,reduceCtorEq,scL,scD,expand,List.replicate,c69])|apply gC_drawW|((first|apply gI_dec|apply gG_dec|apply gPG_dec|apply gI_var|apply gG_var|apply gPG_var)<;>intro _))
 all_goals try (exfalso;omega)
 refine g_while (fun m fr st=>∃ (k:Nat),m=L.length - k∧k≤L.length∧(∀ j,j<k→L[j]! =M[j]!)∧fr= [(0,jS s L),(1,jS t M),(12,iN L.length),(13,iN k)]∧st=⟨[],0,0⟩) L.length ?_ ⟨_,_,.refl _ _,0,by omega,Nat.zero_le _,fun j hj=>absurd hj (Nat.not_lt_zero _),rfl,rfl⟩ ?_
 ·rw[hrn];unfold many;omega
 rintro m fr st ⟨k,rfl,hk,heq,rfl,rfl⟩
 by_cases hlt:k<L.length
 ·have hag:=insD_agg L k hlt
  have hag2:=insD_agg M k (by omega)
  by_cases hx:L[k]! =M[k]!
  ·have hnx:∀ j,j<k+1→L[j]! =M[j]! :=fun j hj=>by
    rcases Nat.lt_succ_iff_lt_or_eq.1 hj with h|h
    ·exact heq j h
    ·rw[h];exact hx
   rw[hx] at hag
   repeat' (first|(simp (disch:=first|omega|assumption|exact bd (by with_unfolding_all rfl)|exact Or.inl rfl|exact Or.inl trivial|exact okL_map _ (fun _=>rfl) _|(simp only[VVlen]<;>omega)|fail) only[VV0,VV1,VV2,VV3,VV4,VV5,VV6,VV7,VV8,VV9,mkFnV,vargs,slotsL,opdsA,Nat.reduceEqDiff,Nat.reduceLT,Nat.reduceAdd,Nat.reduceBEq,Int.reduceAdd,Int.reduceSub,Int.reduceLT,Int.reduceLE,Int.reduceEq,Int.reduceNeg,↓reduceIte,reduceCtorEq,scL,scD,expand,List.replicate,c69l0,hag,hag2,↓eqAgg_ins])|apply gC_drawW|((first|apply gI_dec|apply gG_dec|apply gPG_dec|apply gI_var|apply gG_var|apply gPG_var)<;>intro _))
   all_goals try (exfalso;omega)
   exact ⟨L.length - (k+1),_,_,by omega,.refl _ _,k+1,rfl,by omega,hnx,rfl,rfl⟩
  ·rw[decide_eq_false fun h=>hx (by rw[h])]
   have hdd:=decide_eq_false hx
   repeat' (first|(simp (disch:=first|omega|assumption|exact bd (by with_unfolding_all rfl)|exact Or.inl rfl|exact Or.inl trivial|exact okL_map _ (fun _=>rfl) _|(simp only[VVlen]<;>omega)|fail) only[VV0,VV1,VV2,VV3,VV4,VV5,VV6,VV7,VV8,VV9,mkFnV,vargs,slotsL,opdsA,Nat.reduceEqDiff,Nat.reduceLT,Nat.reduceAdd,Nat.reduceBEq,Int.reduceAdd,Int.reduceSub,Int.reduceLT,Int.reduceLE,Int.reduceEq,Int.reduceNeg,↓reduceIte,reduceCtorEq,scL,scD,expand,List.replicate,c69l0,hag,hag2,↓eqAgg_ins,hdd])|apply gC_drawW|((first|apply gI_dec|apply gG_dec|apply gPG_dec|apply gI_var|apply gG_var|apply gPG_var)<;>intro _))
   all_goals try (exfalso;omega)
   exact weak_flat rfl h0 rfl
 ·rw[decide_eq_true (eqJ_of_all hlen fun j h=>heq j (by omega))]
  repeat' (first|(simp (disch:=first|omega|assumption|exact bd (by with_unfolding_all rfl)|exact Or.inl rfl|exact Or.inl trivial|exact okL_map _ (fun _=>rfl) _|(simp only[VVlen]<;>omega)|fail) only[VV0,VV1,VV2,VV3,VV4,VV5,VV6,VV7,VV8,VV9,mkFnV,vargs,slotsL,opdsA,Nat.reduceEqDiff,Nat.reduceLT,Nat.reduceAdd,Nat.reduceBEq,Int.reduceAdd,Int.reduceSub,Int.reduceLT,Int.reduceLE,Int.reduceEq,Int.reduceNeg,↓reduceIte,reduceCtorEq,scL,scD,expand,List.replicate,c69l0])|apply gC_drawW|((first|apply gI_dec|apply gG_dec|apply gPG_dec|apply gI_var|apply gG_var|apply gPG_var)<;>intro _))
  all_goals try (exfalso;omega)
  exact weak_flat rfl h0 rfl
theorem jsame_p (s t:Nat) (L M:List Ins) (hL:L.length≤140737488351232) (hM:M.length≤140737488351232):VSpec (EN w (n+1)) 28 [jS s L,jS t M] (.sc (.bool (decide (L=M)))) ⟨[],0,0⟩:=by
 have hil:=insD_len L
 have him:=insD_len M
 by_cases hlen:L.length=M.length
 case neg=>
  rw[decide_eq_false fun h=>hlen (by rw[h])]
  refine vspec_flat rfl rfl (fun _ _=>rfl) (Nat.le_of_ble_eq_true rfl) (oldVals w) rfl fun C hC h0=>?_
  repeat' (first|(simp (disch:=first|omega|assumption|exact bd (by with_unfolding_all rfl)|exact Or.inl rfl|exact Or.inl trivial|exact okL_map _ (fun _=>rfl) _|(simp only[VVlen]<;>omega)|fail) only[VV0,VV1,VV2,VV3,VV4,VV5,VV6,VV7,VV8,VV9,mkFnV,vargs,slotsL,opdsA,Nat.reduceEqDiff,Nat.reduceLT,Nat.reduceAdd,Nat.reduceBEq,Int.reduceAdd,Int.reduceSub,Int.reduceLT,Int.reduceLE,Int.reduceEq,Int.reduceNeg,↓reduceIte,reduceCtorEq,scL,scD,expand,List.replicate,c28])|apply gC_drawW|((first|apply gI_dec|apply gG_dec|apply gPG_dec|apply gI_var|apply gG_var|apply gPG_var)<;>intro _))
  all_goals try (exfalso;omega)
  exact weak_flat rfl h0 rfl
 refine vspec_flat rfl rfl (fun _ _=>rfl) (Nat.le_of_ble_eq_true rfl) (oldVals w) rfl fun C hC h0=>?_
 have hrn:C.E.rounds=many:=by rw[hC,callP_rounds]
 repeat' (first|(simp (disch:=first|omega|assumption|exact bd (by with_unfolding_all rfl)|exact Or.inl rfl|exact Or.inl trivial|exact okL_map _ (fun _=>rfl) _|(simp only[VVlen]<;>omega)|fail) only[VV0,VV1,VV2,VV3,VV4,VV5,VV6,VV7,VV8,VV9,mkFnV,vargs,slotsL,opdsA,Nat.reduceEqDiff,Nat.reduceLT,Nat.reduceAdd,Nat.reduceBEq,Int.reduceAdd,Int.reduceSub,Int.reduceLT,Int.reduceLE,Int.reduceEq,Int.reduceNeg,↓reduceIte,reduceCtorEq,scL,scD,expand,List.replicate,c28])|apply gC_drawW|((first|apply gI_dec|apply gG_dec|apply gPG_dec|apply gI_var|apply gG_var|apply gPG_var)<;>intro _))
 all_goals try (exfalso;omega)
 refine g_while (fun m fr st=>∃ (k:Nat),m=L.length - k∧k≤L.length∧(∀ j,j<k→L[j]! =M[j]!)∧fr= [(0,jS s L),(1,jS t M),(5,iN k)]∧st=⟨[],0,0⟩) L.length ?_ ⟨_,_,.refl _ _,0,by omega,Nat.zero_le _,fun j hj=>absurd hj (Nat.not_lt_zero _),rfl,rfl⟩ ?_
 ·rw[hrn];unfold many;omega
 rintro m fr st ⟨k,rfl,hk,heq,rfl,rfl⟩
 by_cases hlt:k<L.length
 ·have hag:=insD_agg L k hlt
  have hag2:=insD_agg M k (by omega)
  by_cases hx:L[k]! =M[k]!
  ·have hnx:∀ j,j<k+1→L[j]! =M[j]! :=fun j hj=>by
    rcases Nat.lt_succ_iff_lt_or_eq.1 hj with h|h
    ·exact heq j h
    ·rw[h];exact hx
   rw[hx] at hag
   repeat' (first|(simp (disch:=first|omega|assumption|exact bd (by with_unfolding_all rfl)|exact Or.inl rfl|exact Or.inl trivial|exact okL_map _ (fun _=>rfl) _|(simp only[VVlen]<;>omega)|fail) only[VV0,VV1,VV2,VV3,VV4,VV5,VV6,VV7,VV8,VV9,mkFnV,vargs,slotsL,opdsA,Nat.reduceEqDiff,Nat.reduceLT,Nat.reduceAdd,Nat.reduceBEq,Int.reduceAdd,Int.reduceSub,Int.reduceLT,Int.reduceLE,Int.reduceEq,Int.reduceNeg,↓reduceIte,reduceCtorEq,scL,scD,expand,List.replicate,c28l0,hag,hag2,↓eqAgg_ins])|apply gC_drawW|((first|apply gI_dec|apply gG_dec|apply gPG_dec|apply gI_var|apply gG_var|apply gPG_var)<;>intro _))
   all_goals try (exfalso;omega)
   exact ⟨L.length - (k+1),_,_,by omega,.refl _ _,k+1,rfl,by omega,hnx,rfl,rfl⟩
  ·rw[decide_eq_false fun h=>hx (by rw[h])]
   have hdd:=decide_eq_false hx
   repeat' (first|(simp (disch:=first|omega|assumption|exact bd (by with_unfolding_all rfl)|exact Or.inl rfl|exact Or.inl trivial|exact okL_map _ (fun _=>rfl) _|(simp only[VVlen]<;>omega)|fail) only[VV0,VV1,VV2,VV3,VV4,VV5,VV6,VV7,VV8,VV9,mkFnV,vargs,slotsL,opdsA,Nat.reduceEqDiff,Nat.reduceLT,Nat.reduceAdd,Nat.reduceBEq,Int.reduceAdd,Int.reduceSub,Int.reduceLT,Int.reduceLE,Int.reduceEq,Int.reduceNeg,↓reduceIte,reduceCtorEq,scL,scD,expand,List.replicate,c28l0,hag,hag2,↓eqAgg_ins,hdd])|apply gC_drawW|((first|apply gI_dec|apply gG_dec|apply gPG_dec|apply gI_var|apply gG_var|apply gPG_var)<;>intro _))
   all_goals try (exfalso;omega)
   exact weak_flat rfl h0 rfl
 ·rw[decide_eq_true (eqJ_of_all hlen fun j h=>heq j (by omega))]
  repeat' (first|(simp (disch:=first|omega|assumption|exact bd (by with_unfolding_all rfl)|exact Or.inl rfl|exact Or.inl trivial|exact okL_map _ (fun _=>rfl) _|(simp only[VVlen]<;>omega)|fail) only[VV0,VV1,VV2,VV3,VV4,VV5,VV6,VV7,VV8,VV9,mkFnV,vargs,slotsL,opdsA,Nat.reduceEqDiff,Nat.reduceLT,Nat.reduceAdd,Nat.reduceBEq,Int.reduceAdd,Int.reduceSub,Int.reduceLT,Int.reduceLE,Int.reduceEq,Int.reduceNeg,↓reduceIte,reduceCtorEq,scL,scD,expand,List.replicate,c28l0])|apply gC_drawW|((first|apply gI_dec|apply gG_dec|apply gPG_dec|apply gI_var|apply gG_var|apply gPG_var)<;>intro _))
  all_goals try (exfalso;omega)
  exact weak_flat rfl h0 rfl
end
end Go.Proofs.YtgohenjcanfolaaGreatDoor
namespace Go.Proofs.YtgohenjcanfolaaGreatDoor
open Go Go.Itp
set_option maxRecDepth 100000
set_option maxHeartbeats 1000000
set_option linter.unusedSimpArgs false
set_option linter.unusedVariables false
def backF (A:List Ins):Nat→Nat
 |0=>0
 |n+1=>if A[n]! =A[n+1]! then backF A n else n+1
theorem backF_le (A:List Ins):∀ n,backF A n≤n
 |0=>Nat.le_refl _
 |n+1=>by
  have:=backF_le A n
  rw[backF];split<;>omega
theorem backF_eq (A:List Ins):∀ n j,backF A n≤j→j≤n→A[j]! =A[n]!
 |0,j,h1,h2=>by rw[show j=0 by omega]
 |n+1,j,h1,h2=>by
  rw[backF] at h1
  split at h1
  ·rename_i e
   by_cases hj:j=n+1
   ·rw[hj]
   ·rw[backF_eq A n j h1 (by omega),e]
  ·rw[show j=n+1 by omega]
theorem backF_ne (A:List Ins):∀ n i,i<backF A n→∃ j,i≤j∧j<n∧A[j]! ≠ A[j+1]!
 |0,i,h=>absurd h (Nat.not_lt_zero _)
 |n+1,i,h=>by
  rw[backF] at h
  split at h
  ·obtain ⟨j,h1,h2,h3⟩:=backF_ne A n i h
   exact ⟨j,h1,by omega,h3⟩
  ·rename_i e
   exact ⟨n,by omega,by omega,e⟩
def lackF (A B:List Ins):Option Nat:=if A.length=B.length+1∧A.drop (cmn A B+1)=B.drop (cmn A B) then some (backF A (cmn A B)) else none
def wo (A:List Ins) (i:Nat):List Ins:=A.take i++A.drop (i+1)
theorem at_drop (A:List Ins) (i j:Nat) (h:i+j<A.length):(A.drop i)[j]! =A[i+j]! :=by
 rw[getElem!_pos _ j (by rw[List.length_drop];omega),List.getElem_drop,getElem!_pos A (i+j) h]
theorem wo_iff {A B:List Ins} (hl:A.length=B.length+1) {i:Nat} (hi:i≤cmn A B):wo A i=B↔∀ j,i≤j→j<B.length→A[j+1]! =B[j]! :=by
 have hc:=cmn_le A B
 have e1:(A.take i).length=i:=by rw[List.length_take];omega
 constructor
 ·intro h j h1 h2
  have:B[j]! =(wo A i)[j]! :=by rw[h]
  rw[this]
  unfold wo
  rw[getElem!_pos (A.take i++A.drop (i+1)) j (by simp;omega),List.getElem_append_right (by omega)]
  simp only[e1]
  rw[List.getElem_drop,getElem!_pos A (j+1) (by omega)]
  congr 1;omega
 ·intro h
  refine eqJ_of_all (by unfold wo;simp;omega) fun j hj=>?_
  unfold wo
  rw[getElem!_pos (A.take i++A.drop (i+1)) j (by simp;omega)]
  by_cases hji:j<i
  ·rw[List.getElem_append_left (by omega),List.getElem_take]
   have:=cmn_eq A B j (by omega)
   rw[getElem!_pos A j (by omega)] at this
   exact this
  ·rw[List.getElem_append_right (by omega)]
   simp only[e1]
   rw[List.getElem_drop,← h j (by omega) hj,getElem!_pos A (j+1) (by omega)]
   congr 1;omega
theorem drop_iff {A B:List Ins} (hl:A.length=B.length+1):A.drop (cmn A B+1)=B.drop (cmn A B)↔∀ j,cmn A B≤j→j<B.length→A[j+1]! =B[j]! :=by
 have hc:=cmn_le A B
 constructor
 ·intro h j h1 h2
  obtain ⟨d,rfl⟩:∃ d,j=cmn A B+d:=⟨j - cmn A B,by omega⟩
  have a1:=at_drop A (cmn A B+1) d (by omega)
  have a2:=at_drop B (cmn A B) d (by omega)
  rw[h,a2] at a1
  rw[a1]
  congr 1;omega
 ·intro h
  refine eqJ_of_all (by simp;omega) fun j hj=>?_
  rw[List.length_drop] at hj
  rw[at_drop _ _ _ (by omega),at_drop _ _ _ (by omega),← h (cmn A B+j) (by omega) (by omega)]
  congr 1;omega
theorem lackF_none {A B:List Ins} (hl:A.length=B.length+1) (h:lackF A B=none) {i:Nat} (hi:i≤cmn A B):wo A i ≠ B:=fun e=>by
 unfold lackF at h
 rw[if_pos ⟨hl,(drop_iff hl).2 fun j h1 h2=>(wo_iff hl hi).1 e j (by omega) h2⟩] at h
 cases h
theorem lackF_some {A B:List Ins} {k:Nat} (h:lackF A B=some k):A.length=B.length+1∧A.drop (cmn A B+1)=B.drop (cmn A B)∧k=backF A (cmn A B)∧k≤cmn A B∧wo A k=B∧∀ i,i<k→wo A i ≠ B:=by
 unfold lackF at h
 split at h
 case isFalse=>cases h
 rename_i hc
 cases h
 obtain ⟨hl,hd⟩:=hc
 have hle:=cmn_le A B
 have hb:=backF_le A (cmn A B)
 have hd':=(drop_iff hl).1 hd
 refine ⟨hl,hd,rfl,hb,(wo_iff hl hb).2 fun j h1 h2=>?_,fun i hi e=>?_⟩
 ·by_cases hj:cmn A B≤j
  ·exact hd' j hj h2
  ·rw[← cmn_eq A B j (by omega),backF_eq A (cmn A B) j h1 (by omega),backF_eq A (cmn A B) (j+1) (by omega) (by omega)]
 ·obtain ⟨j,h1,h2,h3⟩:=backF_ne A (cmn A B) i hi
  have:=(wo_iff hl (by omega)).1 e j h1 (by omega)
  rw[← cmn_eq A B j h2] at this
  exact h3 this.symm
section
variable (w:World) (n:Nat)
theorem common_p (s t:Nat) (L M:List Ins) (hL:L.length≤140737488351232) (hM:M.length≤140737488351232):VSpec (EN w (n+1)) 67 [jS s L,jS t M] (iN (cmn L M)) ⟨[],0,0⟩:=by
 have hil:=insD_len L
 have him:=insD_len M
 have hc:=cmn_le L M
 refine vspec_flat rfl rfl (fun _ _=>rfl) (Nat.le_of_ble_eq_true rfl) (oldVals w) rfl fun C hC h0=>?_
 have hrn:C.E.rounds=many:=by rw[hC,callP_rounds]
 repeat' (first|(simp (disch:=first|omega|assumption|exact bd (by with_unfolding_all rfl)|exact Or.inl rfl|exact Or.inl trivial|exact okL_map _ (fun _=>rfl) _|(simp only[VVlen]<;>omega)|fail) only[VV0,VV1,VV2,VV3,VV4,VV5,VV6,VV7,VV8,VV9,mkFnV,vargs,slotsL,opdsA,Nat.reduceEqDiff,Nat.reduceLT,Nat.reduceAdd,Nat.reduceBEq,Int.reduceAdd,Int.reduceSub,Int.reduceLT,Int.reduceLE,Int.reduceEq,Int.reduceNeg,↓reduceIte,reduceCtorEq,scL,scD,expand,List.replicate,c67])|apply gC_drawW|((first|apply gI_dec|apply gG_dec|apply gPG_dec|apply gI_var|apply gG_var|apply gPG_var)<;>intro _))
 refine g_while (fun m fr st=>∃ (k:Nat),m=cmn L M - k∧k≤cmn L M∧fr= [(0,jS s L),(1,jS t M),(5,iN k)]∧st=⟨[],0,0⟩) (cmn L M) ?_ ⟨_,_,.refl _ _,0,by omega,Nat.zero_le _,rfl,rfl⟩ ?_
 ·rw[hrn];unfold many;omega
 rintro m fr st ⟨k,rfl,hk,rfl,rfl⟩
 by_cases hlt:k<L.length∧k<M.length
 case neg=>
  have:k=cmn L M:=by omega
  rw[← this]
  repeat' (first|(simp (disch:=first|omega|assumption|exact bd (by with_unfolding_all rfl)|exact Or.inl rfl|exact Or.inl trivial|exact okL_map _ (fun _=>rfl) _|(simp only[VVlen]<;>omega)|fail) only[VV0,VV1,VV2,VV3,VV4,VV5,VV6,VV7,VV8,VV9,mkFnV,vargs,slotsL,opdsA,Nat.reduceEqDiff,Nat.reduceLT,Nat.reduceAdd,Nat.reduceBEq,Int.reduceAdd,Int.reduceSub,Int.reduceLT,Int.reduceLE,Int.reduceEq,Int.reduceNeg,↓reduceIte,reduceCtorEq,scL,scD,expand,List.replicate,c67l0])|apply gC_drawW|((first|apply gI_dec|apply gG_dec|apply gPG_dec|apply gI_var|apply gG_var|apply gPG_var)<;>intro _))
  all_goals try (exfalso;omega)
  exact weak_flat rfl h0 rfl
 obtain ⟨hl1,hl2⟩:=hlt
 have hag:=insD_agg L k hl1
 have hag2:=insD_agg M k hl2
 by_cases hx:L[k]! =M[k]!
 ·have hkc:k<cmn L M:=by
   by_cases h:k<cmn L M
   ·exact h
   ·have:k=cmn L M:=by omega
    have hne:=cmn_ne L M (by omega) (by omega)
    rw[← this] at hne
    exact absurd hx hne
  rw[hx] at hag
  repeat' (first|(simp (disch:=first|omega|assumption|exact bd (by with_unfolding_all rfl)|exact Or.inl rfl|exact Or.inl trivial|exact okL_map _ (fun _=>rfl) _|(simp only[VVlen]<;>omega)|fail) only[VV0,VV1,VV2,VV3,VV4,VV5,VV6,VV7,VV8,VV9,mkFnV,vargs,slotsL,opdsA,Nat.reduceEqDiff,Nat.reduceLT,Nat.reduceAdd,Nat.reduceBEq,Int.reduceAdd,Int.reduceSub,Int.reduceLT,Int.reduceLE,Int.reduceEq,Int.reduceNeg,↓reduceIte,reduceCtorEq,scL,scD,expand,List.replicate,c67l0,hag,hag2,↓eqAgg_ins])|apply gC_drawW|((first|apply gI_dec|apply gG_dec|apply gPG_dec|apply gI_var|apply gG_var|apply gPG_var)<;>intro _))
  all_goals try (exfalso;omega)
  exact ⟨cmn L M - (k+1),_,_,by omega,.refl _ _,k+1,rfl,by omega,rfl,rfl⟩
 ·have hkc:k=cmn L M:=by
   by_cases h:k<cmn L M
   ·exact absurd (cmn_eq L M k h) hx
   ·omega
  rw[← hkc]
  have hdd:=decide_eq_false hx
  repeat' (first|(simp (disch:=first|omega|assumption|exact bd (by with_unfolding_all rfl)|exact Or.inl rfl|exact Or.inl trivial|exact okL_map _ (fun _=>rfl) _|(simp only[VVlen]<;>omega)|fail) only[VV0,VV1,VV2,VV3,VV4,VV5,VV6,VV7,VV8,VV9,mkFnV,vargs,slotsL,opdsA,Nat.reduceEqDiff,Nat.reduceLT,Nat.reduceAdd,Nat.reduceBEq,Int.reduceAdd,Int.reduceSub,Int.reduceLT,Int.reduceLE,Int.reduceEq,Int.reduceNeg,↓reduceIte,reduceCtorEq,scL,scD,expand,List.replicate,c67l0,hag,hag2,↓eqAgg_ins,hdd])|apply gC_drawW|((first|apply gI_dec|apply gG_dec|apply gPG_dec|apply gI_var|apply gG_var|apply gPG_var)<;>intro _))
  all_goals try (exfalso;omega)
  exact weak_flat rfl h0 rfl
end
def lackV (o:Option Nat):V:=match o with
 |none=> .tup [iN 0,.sc (.bool false)]
 |some k=> .tup [iN k,.sc (.bool true)]
section
variable (w:World) (n:Nat)
theorem lack_p (A B:List Ins) (hA:A.length≤2500) (hB:B.length≤2500):VSpec (EN w (n+2)) 72 [jS 3 A,jS 3 B] (lackV (lackF A B)) ⟨[],0,0⟩:=by
 have hil:=insD_len A
 have him:=insD_len B
 have hc:=cmn_le A B
 have hcm:=common_p w n 3 3 A B (by omega) (by omega)
 refine vspec_flat rfl rfl (fun _ _=>rfl) (Nat.le_of_ble_eq_true rfl) (oldVals w) (by cases lackF A B<;>rfl) fun C hC h0=>?_
 have hrn:C.E.rounds=many:=by rw[hC,callP_rounds]
 by_cases hl:A.length=B.length+1
 case neg=>
  have e:lackF A B=none:=if_neg fun h=>hl h.1
  rw[e]
  repeat' (first|(simp (disch:=first|omega|assumption|exact bd (by with_unfolding_all rfl)|exact Or.inl rfl|exact Or.inl trivial|exact okL_map _ (fun _=>rfl) _|(simp only[VVlen]<;>omega)|fail) only[VV0,VV1,VV2,VV3,VV4,VV5,VV6,VV7,VV8,VV9,mkFnV,vargs,slotsL,opdsA,Nat.reduceEqDiff,Nat.reduceLT,Nat.reduceAdd,Nat.reduceBEq,Int.reduceAdd,Int.reduceSub,Int.reduceLT,Int.reduceLE,Int.reduceEq,Int.reduceNeg,↓reduceIte,reduceCtorEq,scL,scD,expand,List.replicate,c72])|apply gC_drawW|((first|apply gI_dec|apply gG_dec|apply gPG_dec|apply gI_var|apply gG_var|apply gPG_var)<;>intro _))
  refine callV_flat (by rw[hC];exact hcm.flat rfl rfl) ?_
  repeat' (first|(simp (disch:=first|omega|assumption|exact bd (by with_unfolding_all rfl)|exact Or.inl rfl|exact Or.inl trivial|exact okL_map _ (fun _=>rfl) _|(simp only[VVlen]<;>omega)|fail) only[VV0,VV1,VV2,VV3,VV4,VV5,VV6,VV7,VV8,VV9,mkFnV,vargs,slotsL,opdsA,Nat.reduceEqDiff,Nat.reduceLT,Nat.reduceAdd,Nat.reduceBEq,Int.reduceAdd,Int.reduceSub,Int.reduceLT,Int.reduceLE,Int.reduceEq,Int.reduceNeg,↓reduceIte,reduceCtorEq,scL,scD,expand,List.replicate])|apply gC_drawW|((first|apply gI_dec|apply gG_dec|apply gPG_dec|apply gI_var|apply gG_var|apply gPG_var)<;>intro _))
  all_goals try (exfalso;omega)
  exact weak_flat rfl h0 rfl
 have e1:=partD_back A (cmn A B+1) (by omega)
 have e2:=partD_back B (cmn A B) (by omega)
 have heq:=jequal_p w n 3 3 (A.drop (cmn A B+1)) (B.drop (cmn A B)) (by simp;omega) (by simp;omega)
 unfold jS at heq
 rw[← e1,← e2,List.length_drop,List.length_drop] at heq
 by_cases hd:A.drop (cmn A B+1)=B.drop (cmn A B)
 case neg=>
  have e:lackF A B=none:=if_neg fun h=>hd h.2
  rw[e]
  rw[decide_eq_false hd] at heq
  generalize cmn A B=N at*
  repeat' (first|(simp (disch:=first|omega|assumption|exact bd (by with_unfolding_all rfl)|exact Or.inl rfl|exact Or.inl trivial|exact okL_map _ (fun _=>rfl) _|(simp only[VVlen]<;>omega)|fail) only[VV0,VV1,VV2,VV3,VV4,VV5,VV6,VV7,VV8,VV9,mkFnV,vargs,slotsL,opdsA,Nat.reduceEqDiff,Nat.reduceLT,Nat.reduceAdd,Nat.reduceBEq,Int.reduceAdd,Int.reduceSub,Int.reduceLT,Int.reduceLE,Int.reduceEq,Int.reduceNeg,↓reduceIte,reduceCtorEq,scL,scD,expand,List.replicate,c72])|apply gC_drawW|((first|apply gI_dec|apply gG_dec|apply gPG_dec|apply gI_var|apply gG_var|apply gPG_var)<;>intro _))
  refine callV_flat (by rw[hC];exact hcm.flat rfl rfl) ?_
  repeat' (first|(simp (disch:=first|omega|assumption|exact bd (by with_unfolding_all rfl)|exact Or.inl rfl|exact Or.inl trivial|exact okL_map _ (fun _=>rfl) _|(simp only[VVlen]<;>omega)|fail) only[VV0,VV1,VV2,VV3,VV4,VV5,VV6,VV7,VV8,VV9,mkFnV,vargs,slotsL,opdsA,Nat.reduceEqDiff,Nat.reduceLT,Nat.reduceAdd,Nat.reduceBEq,Int.reduceAdd,Int.reduceSub,Int.reduceLT,Int.reduceLE,Int.reduceEq,Int.reduceNeg,↓reduceIte,reduceCtorEq,scL,scD,expand,List.replicate,show ((N:Int)+1).toNat=N+1 from by omega])|apply gC_drawW|((first|apply gI_dec|apply gG_dec|apply gPG_dec|apply gI_var|apply gG_var|apply gPG_var)<;>intro _))
  all_goals try (exfalso;omega)
  refine callV_flat (by rw[hC];exact heq.flat rfl rfl) ?_
  repeat' (first|(simp (disch:=first|omega|assumption|exact bd (by with_unfolding_all rfl)|exact Or.inl rfl|exact Or.inl trivial|exact okL_map _ (fun _=>rfl) _|(simp only[VVlen]<;>omega)|fail) only[VV0,VV1,VV2,VV3,VV4,VV5,VV6,VV7,VV8,VV9,mkFnV,vargs,slotsL,opdsA,Nat.reduceEqDiff,Nat.reduceLT,Nat.reduceAdd,Nat.reduceBEq,Int.reduceAdd,Int.reduceSub,Int.reduceLT,Int.reduceLE,Int.reduceEq,Int.reduceNeg,↓reduceIte,reduceCtorEq,scL,scD,expand,List.replicate])|apply gC_drawW|((first|apply gI_dec|apply gG_dec|apply gPG_dec|apply gI_var|apply gG_var|apply gPG_var)<;>intro _))
  exact weak_flat rfl h0 rfl
 have e:lackF A B=some (backF A (cmn A B)):=if_pos ⟨hl,hd⟩
 rw[e]
 rw[decide_eq_true hd] at heq
 generalize cmn A B=N at*
 repeat' (first|(simp (disch:=first|omega|assumption|exact bd (by with_unfolding_all rfl)|exact Or.inl rfl|exact Or.inl trivial|exact okL_map _ (fun _=>rfl) _|(simp only[VVlen]<;>omega)|fail) only[VV0,VV1,VV2,VV3,VV4,VV5,VV6,VV7,VV8,VV9,mkFnV,vargs,slotsL,opdsA,Nat.reduceEqDiff,Nat.reduceLT,Nat.reduceAdd,Nat.reduceBEq,Int.reduceAdd,Int.reduceSub,Int.reduceLT,Int.reduceLE,Int.reduceEq,Int.reduceNeg,↓reduceIte,reduceCtorEq,scL,scD,expand,List.replicate,c72])|apply gC_drawW|((first|apply gI_dec|apply gG_dec|apply gPG_dec|apply gI_var|apply gG_var|apply gPG_var)<;>intro _))
 refine callV_flat (by rw[hC];exact hcm.flat rfl rfl) ?_
 repeat' (first|(simp (disch:=first|omega|assumption|exact bd (by with_unfolding_all rfl)|exact Or.inl rfl|exact Or.inl trivial|exact okL_map _ (fun _=>rfl) _|(simp only[VVlen]<;>omega)|fail) only[VV0,VV1,VV2,VV3,VV4,VV5,VV6,VV7,VV8,VV9,mkFnV,vargs,slotsL,opdsA,Nat.reduceEqDiff,Nat.reduceLT,Nat.reduceAdd,Nat.reduceBEq,Int.reduceAdd,Int.reduceSub,Int.reduceLT,Int.reduceLE,Int.reduceEq,Int.reduceNeg,↓reduceIte,reduceCtorEq,scL,scD,expand,List.replicate,show ((N:Int)+1).toNat=N+1 from by omega])|apply gC_drawW|((first|apply gI_dec|apply gG_dec|apply gPG_dec|apply gI_var|apply gG_var|apply gPG_var)<;>intro _))
 all_goals try (exfalso;omega)
 refine callV_flat (by rw[hC];exact heq.flat rfl rfl) ?_
 repeat' (first|(simp (disch:=first|omega|assumption|exact bd (by with_unfolding_all rfl)|exact Or.inl rfl|exact Or.inl trivial|exact okL_map _ (fun _=>rfl) _|(simp only[VVlen]<;>omega)|fail) only[VV0,VV1,VV2,VV3,VV4,VV5,VV6,VV7,VV8,VV9,mkFnV,vargs,slotsL,opdsA,Nat.reduceEqDiff,Nat.reduceLT,Nat.reduceAdd,Nat.reduceBEq,Int.reduceAdd,Int.reduceSub,Int.reduceLT,Int.reduceLE,Int.reduceEq,Int.reduceNeg,↓reduceIte,reduceCtorEq,scL,scD,expand,List.replicate])|apply gC_drawW|((first|apply gI_dec|apply gG_dec|apply gPG_dec|apply gI_var|apply gG_var|apply gPG_var)<;>intro _))
 refine g_while (fun m fr st=>∃ k:Nat,m=k∧k≤N∧backF A k=backF A N∧fr= [(0,jS 3 A),(6,iN k)]∧st=⟨[],0,0⟩) N ?_ ⟨_,_,weak_akeep [0,6] rfl,N,rfl,Nat.le_refl _,rfl,rfl,rfl⟩ ?_
 ·rw[hrn];unfold many;omega
 rintro m fr st ⟨k,rfl,hk,hb,rfl,rfl⟩
 cases m with
 |zero=>
  rw[← hb]
  repeat' (first|(simp (disch:=first|omega|assumption|exact bd (by with_unfolding_all rfl)|exact Or.inl rfl|exact Or.inl trivial|exact okL_map _ (fun _=>rfl) _|(simp only[VVlen]<;>omega)|fail) only[VV0,VV1,VV2,VV3,VV4,VV5,VV6,VV7,VV8,VV9,mkFnV,vargs,slotsL,opdsA,Nat.reduceEqDiff,Nat.reduceLT,Nat.reduceAdd,Nat.reduceBEq,Int.reduceAdd,Int.reduceSub,Int.reduceLT,Int.reduceLE,Int.reduceEq,Int.reduceNeg,↓reduceIte,reduceCtorEq,scL,scD,expand,List.replicate,c72l0])|apply gC_drawW|((first|apply gI_dec|apply gG_dec|apply gPG_dec|apply gI_var|apply gG_var|apply gPG_var)<;>intro _))
  all_goals try (exfalso;omega)
  exact weak_flat rfl h0 rfl
 |succ k=>
  have hag:=insD_agg A k (by omega)
  have hag2:=insD_agg A (k+1) (by omega)
  have hk1:((k+1:Nat):Int) - 1=(k:Int):=by omega
  have hk2:((k+1:Nat):Int).toNat=k+1:=by omega
  rw[backF] at hb
  by_cases hx:A[k]! =A[k+1]!
  ·rw[if_pos hx] at hb
   rw[hx] at hag
   repeat' (first|(simp (disch:=first|omega|assumption|exact bd (by with_unfolding_all rfl)|exact Or.inl rfl|exact Or.inl trivial|exact okL_map _ (fun _=>rfl) _|(simp only[VVlen]<;>omega)|fail) only[VV0,VV1,VV2,VV3,VV4,VV5,VV6,VV7,VV8,VV9,mkFnV,vargs,slotsL,opdsA,Nat.reduceEqDiff,Nat.reduceLT,Nat.reduceAdd,Nat.reduceBEq,Int.reduceAdd,Int.reduceSub,Int.reduceLT,Int.reduceLE,Int.reduceEq,Int.reduceNeg,↓reduceIte,reduceCtorEq,scL,scD,expand,List.replicate,c72l0,hag,hag2,↓eqAgg_ins,hk1,hk2])|apply gC_drawW|((first|apply gI_dec|apply gG_dec|apply gPG_dec|apply gI_var|apply gG_var|apply gPG_var)<;>intro _))
   all_goals try (exfalso;omega)
   exact ⟨k,_,_,by omega,.refl _ _,k,rfl,by omega,hb,rfl,rfl⟩
  ·rw[if_neg hx] at hb
   rw[← hb]
   have hdd:=decide_eq_false hx
   repeat' (first|(simp (disch:=first|omega|assumption|exact bd (by with_unfolding_all rfl)|exact Or.inl rfl|exact Or.inl trivial|exact okL_map _ (fun _=>rfl) _|(simp only[VVlen]<;>omega)|fail) only[VV0,VV1,VV2,VV3,VV4,VV5,VV6,VV7,VV8,VV9,mkFnV,vargs,slotsL,opdsA,Nat.reduceEqDiff,Nat.reduceLT,Nat.reduceAdd,Nat.reduceBEq,Int.reduceAdd,Int.reduceSub,Int.reduceLT,Int.reduceLE,Int.reduceEq,Int.reduceNeg,↓reduceIte,reduceCtorEq,scL,scD,expand,List.replicate,c72l0,hag,hag2,↓eqAgg_ins,hdd,hk1,hk2])|apply gC_drawW|((first|apply gI_dec|apply gG_dec|apply gPG_dec|apply gI_var|apply gG_var|apply gPG_var)<;>intro _))
   all_goals try (exfalso;omega)
   exact weak_flat rfl h0 rfl
end
def z7:List Value:= [.int .u8 0,.bool false,.int .u8 0,.int .i64 0,.int .i64 0,.int .i64 0,.int .i64 0]
theorem rep_z7 (m:Nat):scD (rep z7 m)=insD (List.replicate m ins0):=by
 induction m with
 |zero=>rfl
 |succ m ih=>
  have e:insD (List.replicate (m+1) ins0)=scD z7++insD (List.replicate m ins0):=by simp[insD,List.replicate_succ];rfl
  rw[e,← ih]
  simp[rep,scD]
theorem appMk7 (nx t b:Nat) (n:Nat) (hn:0<n) (h1:n≤1099511627776) (h2:n*b≤1099511627776):vappMk nx t 7 b [.int .u8 0,.bool false,.int .u8 0,.int .i64 0,.int .i64 0,.int .i64 0,.int .i64 0] (.sc (.slice none 0 0)) (.sc (.int .i64 n))=some (.gr 2 nx n,some (.gro t 7 false (insD (List.replicate n ins0))),[]):=by
 simp only[vappMk]
 rw[if_neg (by omega),if_pos ⟨by omega,by unfold room;omega,rfl,by simp⟩]
 simp only[Int.toNat_natCast]
 rw[if_pos (by rw[Nat.ble_eq];exact h2)]
 have:=rep_z7 n
 unfold z7 at this
 rw[this]
theorem insD_nil:insD []= []:=(rfl)
def rowJ (p:Nat × List Ins):D:= .sl p.1 p.2.length (insD p.2)
theorem rowJ_dv (p:Nat × List Ins):dv (rowJ p)= .sl p.1 p.2.length (insD p.2):=(rfl)
def catJ (L:List (Nat × List Ins)):List Ins:=L.flatMap (·.2)
theorem catJ_step {L:List (Nat × List Ins)} {k:Nat} (hk:k<L.length):catJ (L.take (k+1))=catJ (L.take k)++L[k]!.2:=by
 unfold catJ
 rw[List.take_succ_eq_append_getElem hk,List.flatMap_append,getElem!_pos L k hk]
 simp
theorem catJ_le {L:List (Nat × List Ins)} (k:Nat):(catJ (L.take k)).length≤(catJ L).length:=by
 have:catJ L=catJ (L.take k)++catJ (L.drop k):=by
  unfold catJ
  rw[← List.flatMap_append,List.take_append_drop]
 rw[this,List.length_append]
 omega
theorem appFull_big (nx t e b n N o k m:Nat) (base:Src) (new:List D) (fz:List Nat) (hm:m ≠ 0):appFull nx t e b n (big+N) o k base (some (m,new,fz))=none:=by
 have h:Nat.blt (big+N) big=false:=by rw[← Bool.not_eq_true,Nat.blt_eq];omega
 simp only[appFull,h,Bool.false_and,Bool.false_eq_true,if_false]
 rw[if_neg (by rw[nbeq];exact hm)]
 split<;>rfl
theorem room_eqJ (A l:List Ins) (T:Nat) (h:A.length+l.length≤T):
  (insD (A++List.replicate (T - A.length) ins0)).take (A.length*7)++insD l++(insD (A++List.replicate (T - A.length) ins0)).drop (A.length*7+(insD l).length)=insD ((A++l)++List.replicate (T - (A.length+l.length)) ins0):=by
 have h1:(insD A).length=A.length*7:=insD_len A
 have h2:List.replicate (T - A.length) ins0=List.replicate l.length ins0++List.replicate (T - (A.length+l.length)) ins0:=by
  rw[List.replicate_append_replicate];congr 1;omega
 have h3:(insD (List.replicate l.length ins0)).length=(insD l).length:=by rw[insD_len,insD_len,List.length_replicate]
 rw[h2,insD_app,insD_app,insD_app,insD_app,List.take_left' h1,← List.append_assoc (insD A),List.drop_left' (by rw[List.length_append,h1,h3])]
section
variable (w:World) (n:Nat)
theorem growJ_zero:VSpec (EN w (n+1)) 121 [.sc (.slice none 0 0),iN 0] (.sc (.slice none 0 0)) ⟨[],0,0⟩:=by
 refine vspec_flat rfl rfl (fun _ _=>rfl) (Nat.le_of_ble_eq_true rfl) (oldVals w) rfl fun C hC h0=>?_
 repeat' (first|(simp (disch:=first|omega|assumption|exact bd (by with_unfolding_all rfl)|exact Or.inl rfl|exact Or.inl trivial|exact okL_map _ (fun _=>rfl) _|(simp only[VVlen]<;>omega)|fail) only[VV0,VV1,VV2,VV3,VV4,VV5,VV6,VV7,VV8,VV9,mkFnV,vargs,slotsL,opdsA,Nat.reduceEqDiff,Nat.reduceLT,Nat.reduceAdd,Nat.reduceBEq,Int.reduceAdd,Int.reduceSub,Int.reduceLT,Int.reduceLE,Int.reduceEq,Int.reduceNeg,↓reduceIte,reduceCtorEq,scL,scD,expand,List.replicate,c121])|apply gC_drawW|((first|apply gI_dec|apply gG_dec|apply gPG_dec|apply gI_var|apply gG_var|apply gPG_var)<;>intro _))
 exact weak_flat rfl h0 rfl
theorem growJ_p (N:Nat) (hN:0<N) (hN2:N≤1000000000):VSpec (EN w (n+1)) 121 [.sc (.slice none 0 0),iN N] (.ref 0 0 0 (big+N)) ⟨[(0,.row 54 7 true false (insD (List.replicate N ins0)))],1,0⟩:=by
 refine vspec_g rfl rfl (fun _ _=>rfl) (Nat.le_of_ble_eq_true rfl) (oldVals w) retOK_ref rfl fun C hC h0=>?_
 have hne:N ≠ 0:=by omega
 have hil:=insD_len (List.replicate N ins0)
 rw[List.length_replicate] at hil
 repeat' (first|(simp (disch:=first|omega|assumption|exact bd (by with_unfolding_all rfl)|exact Or.inl rfl|exact Or.inl trivial|exact okL_map _ (fun _=>rfl) _|(simp only[VVlen]<;>omega)|fail) only[VV0,VV1,VV2,VV3,VV4,VV5,VV6,VV7,VV8,VV9,mkFnV,vargs,slotsL,opdsA,Nat.reduceEqDiff,Nat.reduceLT,Nat.reduceAdd,Nat.reduceBEq,Int.reduceAdd,Int.reduceSub,Int.reduceLT,Int.reduceLE,Int.reduceEq,Int.reduceNeg,↓reduceIte,reduceCtorEq,scL,scD,expand,List.replicate,c121,Int.sub_zero,appMk7])|apply gC_drawW|((first|apply gI_dec|apply gG_dec|apply gPG_dec|apply gI_var|apply gG_var|apply gPG_var)<;>intro _))
 refine (weak_row (o:=0) (t:=54) (e:=7) (z:=false) (l:=insD (List.replicate N ins0)) rfl (by intro e;rw[e] at hil;simp at hil;omega)).trans ?_
 exact .refl _ _
theorem concatJ_p (L:List (Nat × List Ins)) (hL:L.length≤1000) (hk:∀ p ∈ L,p.1 ≠ 1∨p.2.length ≠ 0) (hT:(catJ L).length≤100000):VSpec (EN w (n+2)) 65 [.sl 0 L.length (L.map rowJ)] (.gr 2 0 (catJ L).length) ⟨[(0,.gro 54 7 false (insD (catJ L)))],1,0⟩:=by
 refine vspec_g rfl rfl (fun _ _=>rfl) (Nat.le_of_ble_eq_true rfl) (oldVals w) (retOK_gr (by have:=insD_len (catJ L);constructor<;>intro h;exact List.eq_nil_of_length_eq_zero (by omega);rw[h] at this;simp at this;omega)) rfl fun C hC h0=>?_
 simp (disch:=first|omega|assumption|exact bd (by with_unfolding_all rfl)|exact Or.inl rfl|exact Or.inl trivial|exact okL_map _ (fun _=>rfl) _|(simp only[VVlen]<;>omega)|fail) only[VV0,VV1,VV2,VV3,VV4,VV5,VV6,VV7,VV8,VV9,mkFnV,vargs,slotsL,opdsA,Nat.reduceEqDiff,Nat.reduceLT,Nat.reduceAdd,Nat.reduceBEq,Int.reduceAdd,Int.reduceSub,Int.reduceLT,Int.reduceLE,Int.reduceEq,Int.reduceNeg,↓reduceIte,reduceCtorEq,scL,scD,expand,List.replicate,c65]
 refine g_while (fun m fr st=>∃ k:Nat,m=L.length - k∧k≤L.length∧fr= [(0,.sl 0 L.length (L.map rowJ)),(3,iN (catJ (L.take k)).length),(9,.sl 0 L.length (L.map rowJ)),(10,iN L.length),(11,iN k)]∧st=⟨[],0,0⟩) L.length ?_ ⟨_,_,.refl _ _,0,?_⟩ ?_
 ·rw[hC,callP_rounds];unfold many;omega
 ·exact ⟨by omega,by omega,rfl,rfl⟩
 ·rintro m fr st ⟨k,rfl,hkl,rfl,rfl⟩
  have hcl:=catJ_le (L:=L) k
  by_cases hlt:k<L.length
  ·have hcs:=catJ_step hlt
   have hcl2:=catJ_le (L:=L) (k+1)
   have hl2:(catJ (L.take (k+1))).length=(catJ (L.take k)).length+L[k]!.2.length:=by rw[hcs,List.length_append]
   generalize hp:L[k]! =p at hl2
   obtain ⟨s,l⟩:=p
   simp only at hl2
   repeat' (first|(simp (disch:=first|omega|assumption|exact bd (by with_unfolding_all rfl)|exact Or.inl rfl|exact Or.inl trivial|exact okL_map _ (fun _=>rfl) _|(simp only[VVlen]<;>omega)|fail) only[VV0,VV1,VV2,VV3,VV4,VV5,VV6,VV7,VV8,VV9,mkFnV,vargs,slotsL,opdsA,Nat.reduceEqDiff,Nat.reduceLT,Nat.reduceAdd,Nat.reduceBEq,Int.reduceAdd,Int.reduceSub,Int.reduceLT,Int.reduceLE,Int.reduceEq,Int.reduceNeg,↓reduceIte,reduceCtorEq,scL,scD,expand,List.replicate,c65l1,rowJ_dv,hp])|apply gC_drawW|((first|apply gI_dec|apply gG_dec|apply gPG_dec|apply gI_var|apply gG_var|apply gPG_var)<;>intro _))
   exact ⟨_,_,_,by omega,.refl _ _,k+1,rfl,hlt,by rw[hl2];rfl,rfl⟩
  ·have:k=L.length:=by omega
   subst this
   rw[List.take_length]
   by_cases hz:(catJ L).length=0
   ·repeat' (first|(simp (disch:=first|omega|assumption|exact bd (by with_unfolding_all rfl)|exact Or.inl rfl|exact Or.inl trivial|exact okL_map _ (fun _=>rfl) _|(simp only[VVlen]<;>omega)|fail) only[VV0,VV1,VV2,VV3,VV4,VV5,VV6,VV7,VV8,VV9,mkFnV,vargs,slotsL,opdsA,Nat.reduceEqDiff,Nat.reduceLT,Nat.reduceAdd,Nat.reduceBEq,Int.reduceAdd,Int.reduceSub,Int.reduceLT,Int.reduceLE,Int.reduceEq,Int.reduceNeg,↓reduceIte,reduceCtorEq,scL,scD,expand,List.replicate,c65l1,hz])|apply gC_drawW|((first|apply gI_dec|apply gG_dec|apply gPG_dec|apply gI_var|apply gG_var|apply gPG_var)<;>intro _))
    refine callV_flat ((fun st=>(growJ_zero w n).of hC rfl st rfl) _) ?_
    repeat' (first|(simp (disch:=first|omega|assumption|exact bd (by with_unfolding_all rfl)|exact Or.inl rfl|exact Or.inl trivial|exact okL_map _ (fun _=>rfl) _|(simp only[VVlen]<;>omega)|fail) only[VV0,VV1,VV2,VV3,VV4,VV5,VV6,VV7,VV8,VV9,mkFnV,vargs,slotsL,opdsA,Nat.reduceEqDiff,Nat.reduceLT,Nat.reduceAdd,Nat.reduceBEq,Int.reduceAdd,Int.reduceSub,Int.reduceLT,Int.reduceLE,Int.reduceEq,Int.reduceNeg,↓reduceIte,reduceCtorEq,scL,scD,expand,List.replicate])|apply gC_drawW|((first|apply gI_dec|apply gG_dec|apply gPG_dec|apply gI_var|apply gG_var|apply gPG_var)<;>intro _))
    refine g_while (fun m fr st=>∃ k:Nat,m=L.length - k∧k≤L.length∧fr= [(6,.sc (.slice none 0 0)),(25,.sl 0 L.length (L.map rowJ)),(26,iN L.length),(27,iN k)]∧st=⟨[],0,0⟩) L.length ?_ ⟨_,_,.refl _ _,0,?_⟩ ?_
    ·rw[hC,callP_rounds];unfold many;omega
    ·exact ⟨by omega,by omega,rfl,rfl⟩
    ·rintro m fr st ⟨k,rfl,hkl,rfl,rfl⟩
     by_cases hlt:k<L.length
     ·have hcs:=catJ_step hlt
      have hcl2:=catJ_le (L:=L) (k+1)
      have hl2:(catJ (L.take (k+1))).length=(catJ (L.take k)).length+L[k]!.2.length:=by rw[hcs,List.length_append]
      generalize hp:L[k]! =p at hl2
      obtain ⟨s,l⟩:=p
      simp only at hl2
      obtain rfl:l= []:=List.eq_nil_of_length_eq_zero (by omega)
      repeat' (first|(simp (disch:=first|omega|assumption|exact bd (by with_unfolding_all rfl)|exact Or.inl rfl|exact Or.inl trivial|exact okL_map _ (fun _=>rfl) _|(simp only[VVlen]<;>omega)|fail) only[VV0,VV1,VV2,VV3,VV4,VV5,VV6,VV7,VV8,VV9,mkFnV,vargs,slotsL,opdsA,Nat.reduceEqDiff,Nat.reduceLT,Nat.reduceAdd,Nat.reduceBEq,Int.reduceAdd,Int.reduceSub,Int.reduceLT,Int.reduceLE,Int.reduceEq,Int.reduceNeg,↓reduceIte,reduceCtorEq,scL,scD,expand,List.replicate,c65l0,rowJ_dv,hp,insD_nil])|apply gC_drawW|((first|apply gI_dec|apply gG_dec|apply gPG_dec|apply gI_var|apply gG_var|apply gPG_var)<;>intro _))
      exact ⟨_,_,_,by omega,.refl _ _,k+1,rfl,hlt,rfl,rfl⟩
     ·have:k=L.length:=by omega
      subst this
      have hc0:catJ L= []:=List.eq_nil_of_length_eq_zero hz
      rw[hc0]
      repeat' (first|(simp (disch:=first|omega|assumption|exact bd (by with_unfolding_all rfl)|exact Or.inl rfl|exact Or.inl trivial|exact okL_map _ (fun _=>rfl) _|(simp only[VVlen]<;>omega)|fail) only[VV0,VV1,VV2,VV3,VV4,VV5,VV6,VV7,VV8,VV9,mkFnV,vargs,slotsL,opdsA,Nat.reduceEqDiff,Nat.reduceLT,Nat.reduceAdd,Nat.reduceBEq,Int.reduceAdd,Int.reduceSub,Int.reduceLT,Int.reduceLE,Int.reduceEq,Int.reduceNeg,↓reduceIte,reduceCtorEq,scL,scD,expand,List.replicate,c65l0])|apply gC_drawW|((first|apply gI_dec|apply gG_dec|apply gPG_dec|apply gI_var|apply gG_var|apply gPG_var)<;>intro _))
      exact (weak_nilSlot 0 54 7 rfl).trans (.refl _ _)
   ·have hgr:=growJ_p w n (catJ L).length (by omega) (by omega)
    obtain ⟨T,hT0⟩:∃ T,(catJ L).length=T:=⟨_,rfl⟩
    rw[hT0] at hgr hz hcl hT
    repeat' (first|(simp (disch:=first|omega|assumption|exact bd (by with_unfolding_all rfl)|exact Or.inl rfl|exact Or.inl trivial|exact okL_map _ (fun _=>rfl) _|(simp only[VVlen]<;>omega)|fail) only[VV0,VV1,VV2,VV3,VV4,VV5,VV6,VV7,VV8,VV9,mkFnV,vargs,slotsL,opdsA,Nat.reduceEqDiff,Nat.reduceLT,Nat.reduceAdd,Nat.reduceBEq,Int.reduceAdd,Int.reduceSub,Int.reduceLT,Int.reduceLE,Int.reduceEq,Int.reduceNeg,↓reduceIte,reduceCtorEq,scL,scD,expand,List.replicate,c65l1,hT0])|apply gC_drawW|((first|apply gI_dec|apply gG_dec|apply gPG_dec|apply gI_var|apply gG_var|apply gPG_var)<;>intro _))
    refine callV_of (by rw[hC];exact hgr) rfl rfl rfl ?_
    repeat' (first|(simp (disch:=first|omega|assumption|exact bd (by with_unfolding_all rfl)|exact Or.inl rfl|exact Or.inl trivial|exact okL_map _ (fun _=>rfl) _|(simp only[VVlen]<;>omega)|fail) only[VV0,VV1,VV2,VV3,VV4,VV5,VV6,VV7,VV8,VV9,mkFnV,vargs,slotsL,opdsA,Nat.reduceEqDiff,Nat.reduceLT,Nat.reduceAdd,Nat.reduceBEq,Int.reduceAdd,Int.reduceSub,Int.reduceLT,Int.reduceLE,Int.reduceEq,Int.reduceNeg,↓reduceIte,reduceCtorEq,scL,scD,expand,List.replicate,vsh,shH,shO,fzSL,fzS])|apply gC_drawW|((first|apply gI_dec|apply gG_dec|apply gPG_dec|apply gI_var|apply gG_var|apply gPG_var)<;>intro _))
    refine g_while (fun m fr st=>∃ k:Nat,m=L.length - k∧k≤L.length∧fr= [(6,.ref 0 0 (catJ (L.take k)).length (big+T)),(25,.sl 0 L.length (L.map rowJ)),(26,iN L.length),(27,iN k)]∧st=⟨[(0,.row 54 7 true false (insD (catJ (L.take k)++List.replicate (T - (catJ (L.take k)).length) ins0)))],1,0⟩) L.length ?_ ⟨_,_,.refl _ _,0,?_⟩ ?_
    ·rw[hC,callP_rounds];unfold many;omega
    ·exact ⟨by omega,by omega,rfl,rfl⟩
    ·rintro m fr st ⟨k,rfl,hkl,rfl,rfl⟩
     have hcl:=catJ_le (L:=L) k
     rw[hT0] at hcl
     by_cases hlt:k<L.length
     ·have hcs:=catJ_step hlt
      have hcl2:=catJ_le (L:=L) (k+1)
      have hl2:(catJ (L.take (k+1))).length=(catJ (L.take k)).length+L[k]!.2.length:=by rw[hcs,List.length_append]
      have hkk:=hk L[k]! (by rw[getElem!_pos L k hlt];exact List.getElem_mem hlt)
      generalize hp:L[k]! =p at hl2 hcs hkk
      obtain ⟨s,l⟩:=p
      simp only at hl2 hcs hkk
      rw[hT0] at hcl2
      by_cases hl0:l= []
      ·subst hl0
       rw[List.append_nil] at hcs
       repeat' (first|(simp (disch:=first|omega|assumption|exact bd (by with_unfolding_all rfl)|exact Or.inl rfl|exact Or.inl trivial|exact okL_map _ (fun _=>rfl) _|(simp only[VVlen]<;>omega)|fail) only[VV0,VV1,VV2,VV3,VV4,VV5,VV6,VV7,VV8,VV9,mkFnV,vargs,slotsL,opdsA,Nat.reduceEqDiff,Nat.reduceLT,Nat.reduceAdd,Nat.reduceBEq,Int.reduceAdd,Int.reduceSub,Int.reduceLT,Int.reduceLE,Int.reduceEq,Int.reduceNeg,↓reduceIte,reduceCtorEq,scL,scD,expand,List.replicate,c65l0,rowJ_dv,hp,insD_nil])|apply gC_drawW|((first|apply gI_dec|apply gG_dec|apply gPG_dec|apply gI_var|apply gG_var|apply gPG_var)<;>intro _))
       exact ⟨_,_,_,by omega,.refl _ _,k+1,rfl,hlt,by rw[hcs];rfl,by rw[hcs]⟩
      ·have hlp:l.length ≠ 0:=fun h=>hl0 (List.eq_nil_of_length_eq_zero h)
       have hlm:=insD_len l
       have hrl:(insD (catJ (L.take k)++List.replicate (T - (catJ (L.take k)).length) ins0)).length=T*7:=by rw[insD_len];simp;omega
       have hnT:(catJ (L.take k)).length ≠ T:=by omega
       have hrm:=room_eqJ (catJ (L.take k)) l T (by omega)
       have hok:okL (insD l)=true:=by
        simp only[okL,List.all_eq_true]
        intro d hd
        simp only[insD,List.mem_flatMap,List.mem_map] at hd
        obtain ⟨a,_,c,hc,rfl⟩:=hd
        simp[insC] at hc
        rcases hc with rfl|rfl|rfl|rfl|rfl|rfl|rfl<;>rfl
       repeat' (first|(simp (disch:=first|omega|assumption|exact bd (by with_unfolding_all rfl)|exact Or.inl rfl|exact Or.inl trivial|exact okL_map _ (fun _=>rfl) _|(simp only[VVlen]<;>omega)|fail) only[VV0,VV1,VV2,VV3,VV4,VV5,VV6,VV7,VV8,VV9,mkFnV,vargs,slotsL,opdsA,Nat.reduceEqDiff,Nat.reduceLT,Nat.reduceAdd,Nat.reduceBEq,Int.reduceAdd,Int.reduceSub,Int.reduceLT,Int.reduceLE,Int.reduceEq,Int.reduceNeg,↓reduceIte,reduceCtorEq,scL,scD,expand,List.replicate,c65l0,rowJ_dv,hp,appFull_big,hok])|apply gC_drawW|((first|apply gI_dec|apply gG_dec|apply gPG_dec|apply gI_var|apply gG_var|apply gPG_var)<;>intro _))
       refine ⟨_,_,_,by omega,.refl _ _,k+1,rfl,hlt,by rw[hl2];rfl,?_⟩
       rw[hl2,hcs,← hrm]
     ·have:k=L.length:=by omega
      subst this
      rw[List.take_length,hT0]
      have hil:=insD_len (catJ L)
      have hcn:insD (catJ L) ≠ []:=fun h=>hz (by rw[h] at hil;simp at hil;omega)
      repeat' (first|(simp (disch:=first|omega|assumption|exact bd (by with_unfolding_all rfl)|exact Or.inl rfl|exact Or.inl trivial|exact okL_map _ (fun _=>rfl) _|(simp only[VVlen]<;>omega)|fail) only[VV0,VV1,VV2,VV3,VV4,VV5,VV6,VV7,VV8,VV9,mkFnV,vargs,slotsL,opdsA,Nat.reduceEqDiff,Nat.reduceLT,Nat.reduceAdd,Nat.reduceBEq,Int.reduceAdd,Int.reduceSub,Int.reduceLT,Int.reduceLE,Int.reduceEq,Int.reduceNeg,↓reduceIte,reduceCtorEq,scL,scD,expand,List.replicate,c65l0,Nat.sub_self,List.replicate_zero,List.append_nil])|apply gC_drawW|((first|apply gI_dec|apply gG_dec|apply gPG_dec|apply gI_var|apply gG_var|apply gPG_var)<;>intro _))
      refine (weak_gro (o:=0) (t:=54) (e:=7) (z:=false) (l:=insD (catJ L)) ?_ hcn).trans ?_
      ·rw[aget_cons,if_pos rfl]
      ·exact (weak_slot (t:=0) (v:= .ref 0 0 T (big+T)) (v':= .gr 2 0 T) rfl (same_rg hz)).trans (.refl _ _)
end
theorem insD_ok (L:List Ins):okL (insD L)=true:=by
 simp only[okL,List.all_eq_true]
 intro d hd
 simp only[insD,List.mem_flatMap,List.mem_map] at hd
 obtain ⟨a,_,c,hc,rfl⟩:=hd
 simp[insC] at hc
 rcases hc with rfl|rfl|rfl|rfl|rfl|rfl|rfl<;>rfl
theorem fin1 {C:Ctx} {st:VSt} {v:V} {s n:Nat} {l:List D} (hs:snapV st.own v=some (.sl s n l)) (hrow:rowsB st.ro st.own (fzS v)=true) (hk:s ≠ 1∨n ≠ 0) (h0:C.w0.nx=0) (hro:st.ro=0):Weak C [(0,v)] st [(0,.sl 3 n l)] ⟨[],0,0⟩:=by
 refine (weak_snap (t:=0) (v:=v) rfl hs hrow).trans ?_
 exact (weak_slot (t:=0) (v:= .sl s n l) (v':= .sl 3 n l) rfl (same_sl3 hk)).trans (weak_to [] 0 h0 hro rfl rfl rfl)
theorem snap_ref70 {H:VHp} {o c t:Nat} {g z:Bool} {l:List D} (h:aget H o=some (.row t 7 g z l)):snapV H (.ref o 0 0 c)=some (.sl 0 0 []):=by
 simp only[snapV,toD,h,Nat.zero_add,List.drop_zero]
 rw[if_pos (by omega)]
 rfl
theorem retOK_sl3 {n:Nat} {l:List D}:RetOK [] (.sl 3 n l):=retOK_nil (by simp only[Cl];rfl)
theorem all_at' {p:Ins→Bool} {L:List Ins} (h:L.all p=true) {k:Nat} (hk:k<L.length):p L[k]! =true:=List.all_eq_true.1 h _ (by rw[getElem!_pos L k hk];exact List.getElem_mem hk)
theorem take_allJ {p:Ins→Bool} {L:List Ins} {k:Nat} (h:k<L.length) (h1:(L.take k).all p=true) (h2:p L[k]! =true):(L.take (k+1)).all p=true:=by
 rw[List.take_succ_eq_append_getElem h,List.all_append,h1]
 rw[getElem!_pos L k h] at h2
 simp[h2]
theorem all_notJ {p:Ins→Bool} {L:List Ins} {k:Nat} (h:k<L.length) (h2:p L[k]! =false):L.all p=false:=by
 rw[Bool.eq_false_iff]
 intro ha
 rw[all_at' ha h] at h2
 cases h2
section
variable (w:World) (n:Nat)
theorem without_p (A:List Ins) (i:Nat) (hi:i<A.length) (hA:A.length≤2500):VSpec (EN w (n+1)) 26 [jS 3 A,iN i] (jS 3 (wo A i)) ⟨[],0,0⟩:=by
 have hil:=insD_len A
 have hwl:(wo A i).length=A.length - 1:=by unfold wo;simp;omega
 have e1:=partD_front A i (by omega)
 have e2:=partD_back A (i+1) (by omega)
 have l1:(A.take i).length=i:=by rw[List.length_take];omega
 have l2:(A.drop (i+1)).length=A.length - (i+1):=List.length_drop
 have q1:=insD_len (A.take i)
 have q2:=insD_len (A.drop (i+1))
 have o1:=insD_ok (A.take i)
 have o2:=insD_ok (A.drop (i+1))
 have hwo:insD (wo A i)=insD (A.take i)++insD (A.drop (i+1)):=by unfold wo;rw[insD_app]
 have hz:((i:Int)+1).toNat=i+1:=by omega
 unfold jS
 rw[hwl,hwo]
 refine vspec_g rfl rfl (fun _ _=>rfl) (Nat.le_of_ble_eq_true rfl) (oldVals w) retOK_sl3 rfl fun C hC h0=>?_
 by_cases c1:i=0
 ·subst c1
  have t1:insD (A.take 0)= []:=rfl
  rw[t1] at e1 o1 ⊢
  rw[List.nil_append]
  by_cases c2:A.length=1
  ·have t2:A.drop (0+1)= []:=List.drop_eq_nil_of_le (by omega)
   rw[t2,insD_nil] at e2 ⊢
   rw[c2] at e2 ⊢
   repeat' (first|(simp (disch:=first|omega|assumption|exact bd (by with_unfolding_all rfl)|exact Or.inl rfl|exact Or.inl trivial|exact okL_map _ (fun _=>rfl) _|(simp only[VVlen]<;>omega)|fail) only[VV0,VV1,VV2,VV3,VV4,VV5,VV6,VV7,VV8,VV9,mkFnV,vargs,slotsL,opdsA,Nat.reduceEqDiff,Nat.reduceLT,Nat.reduceAdd,Nat.reduceBEq,Int.reduceAdd,Int.reduceSub,Int.reduceLT,Int.reduceLE,Int.reduceEq,Int.reduceNeg,↓reduceIte,reduceCtorEq,scL,scD,expand,List.replicate,c26,e1,e2,hz,c2,Nat.zero_mul,Nat.sub_self,Nat.one_mul,Nat.sub_zero])|apply gC_drawW|((first|apply gI_dec|apply gG_dec|apply gPG_dec|apply gI_var|apply gG_var|apply gPG_var)<;>intro _))
   exact fin1 (snap_ref70 rfl) rfl (.inl (by decide)) h0 rfl
  ·obtain ⟨M,hM⟩:∃ M,M=A.length - (0+1):=⟨_,rfl⟩
   have hM2:A.length - 1=M:=by omega
   rw[← hM] at l2
   rw[l2] at q2
   rw[hM2]
   generalize insD (A.drop (0+1))=Z at*
   repeat' (first|(simp (disch:=first|omega|assumption|exact bd (by with_unfolding_all rfl)|exact Or.inl rfl|exact Or.inl trivial|exact okL_map _ (fun _=>rfl) _|(simp only[VVlen]<;>omega)|fail) only[VV0,VV1,VV2,VV3,VV4,VV5,VV6,VV7,VV8,VV9,mkFnV,vargs,slotsL,opdsA,Nat.reduceEqDiff,Nat.reduceLT,Nat.reduceAdd,Nat.reduceBEq,Int.reduceAdd,Int.reduceSub,Int.reduceLT,Int.reduceLE,Int.reduceEq,Int.reduceNeg,↓reduceIte,reduceCtorEq,scL,scD,expand,List.replicate,c26,e1,e2,hz,Nat.zero_mul,Nat.sub_zero,← hM,hM2])|apply gC_drawW|((first|apply gI_dec|apply gG_dec|apply gPG_dec|apply gI_var|apply gG_var|apply gPG_var)<;>intro _))
   exact fin1 (snap_gr7 rfl q2) rfl (.inl (by decide)) h0 rfl
 ·by_cases c2:i+1=A.length
  ·have t2:A.drop (i+1)= []:=List.drop_eq_nil_of_le (by omega)
   rw[t2,insD_nil] at e2 ⊢
   rw[List.append_nil,show A.length - 1=i from by omega]
   rw[l1] at q1
   generalize insD (A.take i)=Y at*
   have hs:A.length - (i+1)=0:=by omega
   repeat' (first|(simp (disch:=first|omega|assumption|exact bd (by with_unfolding_all rfl)|exact Or.inl rfl|exact Or.inl trivial|exact okL_map _ (fun _=>rfl) _|(simp only[VVlen]<;>omega)|fail) only[VV0,VV1,VV2,VV3,VV4,VV5,VV6,VV7,VV8,VV9,mkFnV,vargs,slotsL,opdsA,Nat.reduceEqDiff,Nat.reduceLT,Nat.reduceAdd,Nat.reduceBEq,Int.reduceAdd,Int.reduceSub,Int.reduceLT,Int.reduceLE,Int.reduceEq,Int.reduceNeg,↓reduceIte,reduceCtorEq,scL,scD,expand,List.replicate,c26,e1,e2,hz,hs])|apply gC_drawW|((first|apply gI_dec|apply gG_dec|apply gPG_dec|apply gI_var|apply gG_var|apply gPG_var)<;>intro _))
   exact fin1 (snap_gr7 rfl q1) rfl (.inl (by decide)) h0 rfl
  ·obtain ⟨M,hM⟩:∃ M,M=A.length - (i+1):=⟨_,rfl⟩
   rw[← hM] at l2
   rw[l2] at q2
   rw[l1] at q1
   rw[show A.length - 1=i+M from by omega]
   generalize insD (A.take i)=Y at*
   generalize insD (A.drop (i+1))=Z at*
   have hM0:M ≠ 0:=by omega
   repeat' (first|(simp (disch:=first|omega|assumption|exact bd (by with_unfolding_all rfl)|exact Or.inl rfl|exact Or.inl trivial|exact okL_map _ (fun _=>rfl) _|(simp only[VVlen]<;>omega)|fail) only[VV0,VV1,VV2,VV3,VV4,VV5,VV6,VV7,VV8,VV9,mkFnV,vargs,slotsL,opdsA,Nat.reduceEqDiff,Nat.reduceLT,Nat.reduceAdd,Nat.reduceBEq,Int.reduceAdd,Int.reduceSub,Int.reduceLT,Int.reduceLE,Int.reduceEq,Int.reduceNeg,↓reduceIte,reduceCtorEq,scL,scD,expand,List.replicate,c26,e1,e2,hz,← hM])|apply gC_drawW|((first|apply gI_dec|apply gG_dec|apply gPG_dec|apply gI_var|apply gG_var|apply gPG_var)<;>intro _))
   exact fin1 (snap_gr7 rfl (by rw[List.length_append,q1,q2,Nat.add_mul])) rfl (.inl (by decide)) h0 rfl
end
set_option maxHeartbeats 2000000
def locT (P D:List Ins) (N:Nat) (K1 K2:Option Nat):Nat × Int × Int:=
 if P=D then (0,0,0) else if N=D.length then (1,N,0) else match K1 with
 |some k=>(2,k,0)
 |none=>match K2 with
  |some k=>(3,k,0)
  |none=>if P.length=D.length∧P.drop (N+1)=D.drop (N+1) then (4,N,0) else (5,N,0)
noncomputable def locF (P D:List Ins):Nat × Int × Int:=
 if 2000<P.length∨2000<D.length then (0,0,4) else if ¬ ((P++D).all insOK=true) then (0,0,8) else locT P D (cmn P D) (lackF P D) (lackF D P)
def locV (r:Nat × Int × Int):V:= .tup [.sc (.int .u8 r.1),iN r.2.1,iN r.2.2]
abbrev okFn:V:= .sc (.func (.func 66) #[] #[])
theorem row2V_j (nx t:Nat) (P D:List Ins):mkRowV nx t 1 2 [.slice none 0 0] [(0,1,jS 3 P),(1,1,jS 3 D)]=some (.ref nx 0 2 2,some (.row t 1 false false ([(3,P),(3,D)].map rowJ)),[]):=(rfl)
section
variable (w:World) (n:Nat)
theorem lok_p (i:Ins):VSpec (EN w (n+3)) 66 [insV i] (.sc (.bool (!insOK i))) ⟨[],0,0⟩:=by
 have hi:=binstr_p w n i
 refine vspec_flat rfl rfl (fun _ _=>rfl) (Nat.le_of_ble_eq_true rfl) (oldVals w) rfl fun C hC h0=>?_
 unfold insV at hi ⊢
 by_cases ho:insOK i=true
 ·rw[if_pos ho] at hi
  rw[ho]
  repeat' (first|(simp (disch:=first|omega|assumption|exact bd (by with_unfolding_all rfl)|exact Or.inl rfl|exact Or.inl trivial|exact okL_map _ (fun _=>rfl) _|(simp only[VVlen]<;>omega)|fail) only[VV0,VV1,VV2,VV3,VV4,VV5,VV6,VV7,VV8,VV9,mkFnV,vargs,slotsL,opdsA,Nat.reduceEqDiff,Nat.reduceLT,Nat.reduceAdd,Nat.reduceBEq,Int.reduceAdd,Int.reduceSub,Int.reduceLT,Int.reduceLE,Int.reduceEq,Int.reduceNeg,↓reduceIte,reduceCtorEq,scL,scD,expand,List.replicate,c66])|apply gC_drawW|((first|apply gI_dec|apply gG_dec|apply gPG_dec|apply gI_var|apply gG_var|apply gPG_var)<;>intro _))
  refine callV_flat (by rw[hC];exact hi.flat rfl rfl) ?_
  repeat' (first|(simp (disch:=first|omega|assumption|exact bd (by with_unfolding_all rfl)|exact Or.inl rfl|exact Or.inl trivial|exact okL_map _ (fun _=>rfl) _|(simp only[VVlen]<;>omega)|fail) only[VV0,VV1,VV2,VV3,VV4,VV5,VV6,VV7,VV8,VV9,mkFnV,vargs,slotsL,opdsA,Nat.reduceEqDiff,Nat.reduceLT,Nat.reduceAdd,Nat.reduceBEq,Int.reduceAdd,Int.reduceSub,Int.reduceLT,Int.reduceLE,Int.reduceEq,Int.reduceNeg,↓reduceIte,reduceCtorEq,scL,scD,expand,List.replicate])|apply gC_drawW|((first|apply gI_dec|apply gG_dec|apply gPG_dec|apply gI_var|apply gG_var|apply gPG_var)<;>intro _))
  exact weak_flat rfl h0 rfl
 ·rw[if_neg ho] at hi
  rw[Bool.not_eq_true] at ho
  rw[ho]
  repeat' (first|(simp (disch:=first|omega|assumption|exact bd (by with_unfolding_all rfl)|exact Or.inl rfl|exact Or.inl trivial|exact okL_map _ (fun _=>rfl) _|(simp only[VVlen]<;>omega)|fail) only[VV0,VV1,VV2,VV3,VV4,VV5,VV6,VV7,VV8,VV9,mkFnV,vargs,slotsL,opdsA,Nat.reduceEqDiff,Nat.reduceLT,Nat.reduceAdd,Nat.reduceBEq,Int.reduceAdd,Int.reduceSub,Int.reduceLT,Int.reduceLE,Int.reduceEq,Int.reduceNeg,↓reduceIte,reduceCtorEq,scL,scD,expand,List.replicate,c66])|apply gC_drawW|((first|apply gI_dec|apply gG_dec|apply gPG_dec|apply gI_var|apply gG_var|apply gPG_var)<;>intro _))
  refine callV_flat (by rw[hC];exact hi.flat rfl rfl) ?_
  repeat' (first|(simp (disch:=first|omega|assumption|exact bd (by with_unfolding_all rfl)|exact Or.inl rfl|exact Or.inl trivial|exact okL_map _ (fun _=>rfl) _|(simp only[VVlen]<;>omega)|fail) only[VV0,VV1,VV2,VV3,VV4,VV5,VV6,VV7,VV8,VV9,mkFnV,vargs,slotsL,opdsA,Nat.reduceEqDiff,Nat.reduceLT,Nat.reduceAdd,Nat.reduceBEq,Int.reduceAdd,Int.reduceSub,Int.reduceLT,Int.reduceLE,Int.reduceEq,Int.reduceNeg,↓reduceIte,reduceCtorEq,scL,scD,expand,List.replicate])|apply gC_drawW|((first|apply gI_dec|apply gG_dec|apply gPG_dec|apply gI_var|apply gG_var|apply gPG_var)<;>intro _))
  exact weak_flat rfl h0 rfl
theorem jcontains_p (s:Nat) (L:List Ins) (hL:L.length≤140737488351232):VSpec (EN w (n+5)) 64 [jS s L,okFn] (.sc (.bool (!(L.all insOK)))) ⟨[],0,0⟩:=by
 have hil:=insD_len L
 have hix:∃ r:Int,(L.all insOK=true→r= -1)∧(¬ L.all insOK=true→0≤r)∧VSpec (EN w (n+4)) 120 [jS s L,okFn] (iN r) ⟨[],0,0⟩:=by
  have main:∀ (j:Nat),j≤L.length→(L.take j).all insOK=true→(j<L.length→insOK L[j]! =false)→VSpec (EN w (n+4)) 120 [jS s L,okFn] (iN (if j<L.length then (j:Int) else -1)) ⟨[],0,0⟩:=by
   intro j hj hall hbad
   refine vspec_flat rfl rfl (fun _ _=>rfl) (Nat.le_of_ble_eq_true rfl) (oldVals w) rfl fun C hC h0=>?_
   repeat' (first|(simp (disch:=first|omega|assumption|exact bd (by with_unfolding_all rfl)|exact Or.inl rfl|exact Or.inl trivial|exact okL_map _ (fun _=>rfl) _|(simp only[VVlen]<;>omega)|fail) only[VV0,VV1,VV2,VV3,VV4,VV5,VV6,VV7,VV8,VV9,mkFnV,vargs,slotsL,opdsA,Nat.reduceEqDiff,Nat.reduceLT,Nat.reduceAdd,Nat.reduceBEq,Int.reduceAdd,Int.reduceSub,Int.reduceLT,Int.reduceLE,Int.reduceEq,Int.reduceNeg,↓reduceIte,reduceCtorEq,scL,scD,expand,List.replicate,c120])|apply gC_drawW|((first|apply gI_dec|apply gG_dec|apply gPG_dec|apply gI_var|apply gG_var|apply gPG_var)<;>intro _))
   refine g_while (fun m fr st=>∃ (k:Nat),m=L.length - k∧k≤j∧fr= [(0,jS s L),(1,okFn),(7,iN L.length),(8,iN k)]∧st=⟨[],0,0⟩) L.length ?_ ⟨_,_,.refl _ _,0,by omega,Nat.zero_le _,rfl,rfl⟩ ?_
   ·rw[hC,callP_rounds];unfold many;omega
   rintro m fr st ⟨k,rfl,hk,rfl,rfl⟩
   by_cases hlt:k<L.length
   case neg=>
    rw[if_neg (by omega)]
    repeat' (first|(simp (disch:=first|omega|assumption|exact bd (by with_unfolding_all rfl)|exact Or.inl rfl|exact Or.inl trivial|exact okL_map _ (fun _=>rfl) _|(simp only[VVlen]<;>omega)|fail) only[VV0,VV1,VV2,VV3,VV4,VV5,VV6,VV7,VV8,VV9,mkFnV,vargs,slotsL,opdsA,Nat.reduceEqDiff,Nat.reduceLT,Nat.reduceAdd,Nat.reduceBEq,Int.reduceAdd,Int.reduceSub,Int.reduceLT,Int.reduceLE,Int.reduceEq,Int.reduceNeg,↓reduceIte,reduceCtorEq,scL,scD,expand,List.replicate,c120l0])|apply gC_drawW|((first|apply gI_dec|apply gG_dec|apply gPG_dec|apply gI_var|apply gG_var|apply gPG_var)<;>intro _))
    all_goals try (exfalso;omega)
    exact weak_flat rfl h0 rfl
   have hag:=insD_agg L k hlt
   have h1:=lok_p w n L[k]!
   by_cases hkj:k=j
   ·subst hkj
    rw[hbad hlt] at h1
    rw[if_pos hlt]
    repeat' (first|(simp (disch:=first|omega|assumption|exact bd (by with_unfolding_all rfl)|exact Or.inl rfl|exact Or.inl trivial|exact okL_map _ (fun _=>rfl) _|(simp only[VVlen]<;>omega)|fail) only[VV0,VV1,VV2,VV3,VV4,VV5,VV6,VV7,VV8,VV9,mkFnV,vargs,slotsL,opdsA,Nat.reduceEqDiff,Nat.reduceLT,Nat.reduceAdd,Nat.reduceBEq,Int.reduceAdd,Int.reduceSub,Int.reduceLT,Int.reduceLE,Int.reduceEq,Int.reduceNeg,↓reduceIte,reduceCtorEq,scL,scD,expand,List.replicate,c120l0,hag])|apply gC_drawW|((first|apply gI_dec|apply gG_dec|apply gPG_dec|apply gI_var|apply gG_var|apply gPG_var)<;>intro _))
    all_goals try (exfalso;omega)
    refine callV_flat (by rw[hC];exact h1.flat rfl rfl) ?_
    repeat' (first|(simp (disch:=first|omega|assumption|exact bd (by with_unfolding_all rfl)|exact Or.inl rfl|exact Or.inl trivial|exact okL_map _ (fun _=>rfl) _|(simp only[VVlen]<;>omega)|fail) only[VV0,VV1,VV2,VV3,VV4,VV5,VV6,VV7,VV8,VV9,mkFnV,vargs,slotsL,opdsA,Nat.reduceEqDiff,Nat.reduceLT,Nat.reduceAdd,Nat.reduceBEq,Int.reduceAdd,Int.reduceSub,Int.reduceLT,Int.reduceLE,Int.reduceEq,Int.reduceNeg,↓reduceIte,reduceCtorEq,scL,scD,expand,List.replicate])|apply gC_drawW|((first|apply gI_dec|apply gG_dec|apply gPG_dec|apply gI_var|apply gG_var|apply gPG_var)<;>intro _))
    exact weak_flat rfl h0 rfl
   ·have ho:insOK L[k]! =true:=List.all_eq_true.1 hall _ (by
     rw[getElem!_pos _ k hlt]
     exact List.mem_iff_getElem.2 ⟨k,by rw[List.length_take];omega,List.getElem_take⟩)
    rw[ho] at h1
    repeat' (first|(simp (disch:=first|omega|assumption|exact bd (by with_unfolding_all rfl)|exact Or.inl rfl|exact Or.inl trivial|exact okL_map _ (fun _=>rfl) _|(simp only[VVlen]<;>omega)|fail) only[VV0,VV1,VV2,VV3,VV4,VV5,VV6,VV7,VV8,VV9,mkFnV,vargs,slotsL,opdsA,Nat.reduceEqDiff,Nat.reduceLT,Nat.reduceAdd,Nat.reduceBEq,Int.reduceAdd,Int.reduceSub,Int.reduceLT,Int.reduceLE,Int.reduceEq,Int.reduceNeg,↓reduceIte,reduceCtorEq,scL,scD,expand,List.replicate,c120l0,hag])|apply gC_drawW|((first|apply gI_dec|apply gG_dec|apply gPG_dec|apply gI_var|apply gG_var|apply gPG_var)<;>intro _))
    all_goals try (exfalso;omega)
    refine callV_flat (by rw[hC];exact h1.flat rfl rfl) ?_
    repeat' (first|(simp (disch:=first|omega|assumption|exact bd (by with_unfolding_all rfl)|exact Or.inl rfl|exact Or.inl trivial|exact okL_map _ (fun _=>rfl) _|(simp only[VVlen]<;>omega)|fail) only[VV0,VV1,VV2,VV3,VV4,VV5,VV6,VV7,VV8,VV9,mkFnV,vargs,slotsL,opdsA,Nat.reduceEqDiff,Nat.reduceLT,Nat.reduceAdd,Nat.reduceBEq,Int.reduceAdd,Int.reduceSub,Int.reduceLT,Int.reduceLE,Int.reduceEq,Int.reduceNeg,↓reduceIte,reduceCtorEq,scL,scD,expand,List.replicate])|apply gC_drawW|((first|apply gI_dec|apply gG_dec|apply gPG_dec|apply gI_var|apply gG_var|apply gPG_var)<;>intro _))
    exact ⟨L.length - (k+1),_,_,by omega,.refl _ _,k+1,rfl,by omega,rfl,rfl⟩
  have hex:∀ m,m≤L.length→(L.take m).all insOK=true∨∃ j,j<m∧(L.take j).all insOK=true∧insOK L[j]! =false:=by
   intro m
   induction m with
   |zero=>intro _;exact .inl rfl
   |succ m ih=>
    intro hm
    rcases ih (by omega) with h|⟨j,h1,h2,h3⟩
    ·cases hc:insOK L[m]! with
     |true=>exact .inl (take_allJ (by omega) h hc)
     |false=>exact .inr ⟨m,by omega,h,hc⟩
    ·exact .inr ⟨j,by omega,h2,h3⟩
  rcases hex L.length (Nat.le_refl _) with h|⟨j,h1,h2,h3⟩
  ·refine ⟨_,fun _=>?_,fun hn=>absurd (by rwa [List.take_length] at h) hn,main L.length (Nat.le_refl _) h fun h=>absurd h (Nat.lt_irrefl _)⟩
   rw[if_neg (Nat.lt_irrefl _)]
  ·refine ⟨_,fun ha=>?_,fun _=>?_,main j (by omega) h2 fun _=>h3⟩
   ·rw[all_notJ h1 h3] at ha;cases ha
   ·rw[if_pos h1];omega
 obtain ⟨r,h1,h2,hr⟩:=hix
 by_cases ha:L.all insOK=true
 ·have e:=h1 ha
  subst e
  rw[ha]
  refine vspec_flat rfl rfl (fun _ _=>rfl) (Nat.le_of_ble_eq_true rfl) (oldVals w) rfl fun C hC h0=>?_
  repeat' (first|(simp (disch:=first|omega|assumption|exact bd (by with_unfolding_all rfl)|exact Or.inl rfl|exact Or.inl trivial|exact okL_map _ (fun _=>rfl) _|(simp only[VVlen]<;>omega)|fail) only[VV0,VV1,VV2,VV3,VV4,VV5,VV6,VV7,VV8,VV9,mkFnV,vargs,slotsL,opdsA,Nat.reduceEqDiff,Nat.reduceLT,Nat.reduceAdd,Nat.reduceBEq,Int.reduceAdd,Int.reduceSub,Int.reduceLT,Int.reduceLE,Int.reduceEq,Int.reduceNeg,↓reduceIte,reduceCtorEq,scL,scD,expand,List.replicate,c64])|apply gC_drawW|((first|apply gI_dec|apply gG_dec|apply gPG_dec|apply gI_var|apply gG_var|apply gPG_var)<;>intro _))
  refine callV_flat (by rw[hC];exact hr.flat rfl rfl) ?_
  repeat' (first|(simp (disch:=first|omega|assumption|exact bd (by with_unfolding_all rfl)|exact Or.inl rfl|exact Or.inl trivial|exact okL_map _ (fun _=>rfl) _|(simp only[VVlen]<;>omega)|fail) only[VV0,VV1,VV2,VV3,VV4,VV5,VV6,VV7,VV8,VV9,mkFnV,vargs,slotsL,opdsA,Nat.reduceEqDiff,Nat.reduceLT,Nat.reduceAdd,Nat.reduceBEq,Int.reduceAdd,Int.reduceSub,Int.reduceLT,Int.reduceLE,Int.reduceEq,Int.reduceNeg,↓reduceIte,reduceCtorEq,scL,scD,expand,List.replicate])|apply gC_drawW|((first|apply gI_dec|apply gG_dec|apply gPG_dec|apply gI_var|apply gG_var|apply gPG_var)<;>intro _))
  exact weak_flat rfl h0 rfl
 ·have e:=h2 ha
  rw[Bool.not_eq_true] at ha
  rw[ha]
  refine vspec_flat rfl rfl (fun _ _=>rfl) (Nat.le_of_ble_eq_true rfl) (oldVals w) rfl fun C hC h0=>?_
  repeat' (first|(simp (disch:=first|omega|assumption|exact bd (by with_unfolding_all rfl)|exact Or.inl rfl|exact Or.inl trivial|exact okL_map _ (fun _=>rfl) _|(simp only[VVlen]<;>omega)|fail) only[VV0,VV1,VV2,VV3,VV4,VV5,VV6,VV7,VV8,VV9,mkFnV,vargs,slotsL,opdsA,Nat.reduceEqDiff,Nat.reduceLT,Nat.reduceAdd,Nat.reduceBEq,Int.reduceAdd,Int.reduceSub,Int.reduceLT,Int.reduceLE,Int.reduceEq,Int.reduceNeg,↓reduceIte,reduceCtorEq,scL,scD,expand,List.replicate,c64])|apply gC_drawW|((first|apply gI_dec|apply gG_dec|apply gPG_dec|apply gI_var|apply gG_var|apply gPG_var)<;>intro _))
  refine callV_flat (by rw[hC];exact hr.flat rfl rfl) ?_
  repeat' (first|(simp (disch:=first|omega|assumption|exact bd (by with_unfolding_all rfl)|exact Or.inl rfl|exact Or.inl trivial|exact okL_map _ (fun _=>rfl) _|(simp only[VVlen]<;>omega)|fail) only[VV0,VV1,VV2,VV3,VV4,VV5,VV6,VV7,VV8,VV9,mkFnV,vargs,slotsL,opdsA,Nat.reduceEqDiff,Nat.reduceLT,Nat.reduceAdd,Nat.reduceBEq,Int.reduceAdd,Int.reduceSub,Int.reduceLT,Int.reduceLE,Int.reduceEq,Int.reduceNeg,↓reduceIte,reduceCtorEq,scL,scD,expand,List.replicate])|apply gC_drawW|((first|apply gI_dec|apply gG_dec|apply gPG_dec|apply gI_var|apply gG_var|apply gPG_var)<;>intro _))
  all_goals try (exfalso;omega)
  exact weak_flat rfl h0 rfl
variable {st:VSt} {a b c t e t' e' t2 e2:Nat} {P D:List Ins} {N:Nat}
theorem w2_o (ha:aget st.own a=some (.box t e [jS 3 P])) (hb:aget st.own b=some (.box t' e' [jS 3 D])) (hP:P.length≤2500) (hD:D.length≤2500):VSpecO (EN w (n+2)) 68 st [.ptr a 0,.ptr b 0] (.tup [iN 0,.sc (.bool (decide (P=D)))]):=by
 have heq:=jequal_p w n 3 3 P D (by omega) (by omega)
 refine vspecO_g rfl rfl (fun _ _=>rfl) (Nat.le_of_ble_eq_true rfl) rfl fun C hC h0=>⟨⟨st.own,st.next,st.next⟩,?_⟩
 repeat' (first|(simp (disch:=first|omega|assumption|exact bd (by with_unfolding_all rfl)|exact Or.inl rfl|exact Or.inl trivial|exact okL_map _ (fun _=>rfl) _|(simp only[VVlen]<;>omega)|fail) only[VV0,VV1,VV2,VV3,VV4,VV5,VV6,VV7,VV8,VV9,mkFnV,vargs,slotsL,opdsA,Nat.reduceEqDiff,Nat.reduceLT,Nat.reduceAdd,Nat.reduceBEq,Int.reduceAdd,Int.reduceSub,Int.reduceLT,Int.reduceLE,Int.reduceEq,Int.reduceNeg,↓reduceIte,reduceCtorEq,scL,scD,expand,List.replicate,c68,ha,hb])|apply gC_drawW|((first|apply gI_dec|apply gG_dec|apply gPG_dec|apply gI_var|apply gG_var|apply gPG_var)<;>intro _))
 refine callV_flat (by rw[hC];exact heq.flat rfl rfl) ?_
 repeat' (first|(simp (disch:=first|omega|assumption|exact bd (by with_unfolding_all rfl)|exact Or.inl rfl|exact Or.inl trivial|exact okL_map _ (fun _=>rfl) _|(simp only[VVlen]<;>omega)|fail) only[VV0,VV1,VV2,VV3,VV4,VV5,VV6,VV7,VV8,VV9,mkFnV,vargs,slotsL,opdsA,Nat.reduceEqDiff,Nat.reduceLT,Nat.reduceAdd,Nat.reduceBEq,Int.reduceAdd,Int.reduceSub,Int.reduceLT,Int.reduceLE,Int.reduceEq,Int.reduceNeg,↓reduceIte,reduceCtorEq,scL,scD,expand,List.replicate])|apply gC_drawW|((first|apply gI_dec|apply gG_dec|apply gPG_dec|apply gI_var|apply gG_var|apply gPG_var)<;>intro _))
 exact .refl _ _
theorem w3_o (ha:aget st.own a=some (.box t e [iN N])) (hb:aget st.own b=some (.box t' e' [jS 3 D])) (hD:D.length≤2500):VSpecO (EN w (n+1)) 70 st [.ptr a 0,.ptr b 0] (.tup [iN N,.sc (.bool (decide (N=D.length)))]):=by
 refine vspecO_g rfl rfl (fun _ _=>rfl) (Nat.le_of_ble_eq_true rfl) rfl fun C hC h0=>⟨⟨st.own,st.next,st.next⟩,?_⟩
 by_cases h:N=D.length
 ·rw[decide_eq_true h]
  repeat' (first|(simp (disch:=first|omega|assumption|exact bd (by with_unfolding_all rfl)|exact Or.inl rfl|exact Or.inl trivial|exact okL_map _ (fun _=>rfl) _|(simp only[VVlen]<;>omega)|fail) only[VV0,VV1,VV2,VV3,VV4,VV5,VV6,VV7,VV8,VV9,mkFnV,vargs,slotsL,opdsA,Nat.reduceEqDiff,Nat.reduceLT,Nat.reduceAdd,Nat.reduceBEq,Int.reduceAdd,Int.reduceSub,Int.reduceLT,Int.reduceLE,Int.reduceEq,Int.reduceNeg,↓reduceIte,reduceCtorEq,scL,scD,expand,List.replicate,c70,ha,hb])|apply gC_drawW|((first|apply gI_dec|apply gG_dec|apply gPG_dec|apply gI_var|apply gG_var|apply gPG_var)<;>intro _))
  exact .refl _ _
 ·rw[decide_eq_false h]
  repeat' (first|(simp (disch:=first|omega|assumption|exact bd (by with_unfolding_all rfl)|exact Or.inl rfl|exact Or.inl trivial|exact okL_map _ (fun _=>rfl) _|(simp only[VVlen]<;>omega)|fail) only[VV0,VV1,VV2,VV3,VV4,VV5,VV6,VV7,VV8,VV9,mkFnV,vargs,slotsL,opdsA,Nat.reduceEqDiff,Nat.reduceLT,Nat.reduceAdd,Nat.reduceBEq,Int.reduceAdd,Int.reduceSub,Int.reduceLT,Int.reduceLE,Int.reduceEq,Int.reduceNeg,↓reduceIte,reduceCtorEq,scL,scD,expand,List.replicate,c70,ha,hb])|apply gC_drawW|((first|apply gI_dec|apply gG_dec|apply gPG_dec|apply gI_var|apply gG_var|apply gPG_var)<;>intro _))
  exact .refl _ _
theorem w4_o (ha:aget st.own a=some (.box t e [jS 3 P])) (hb:aget st.own b=some (.box t' e' [jS 3 D])) (hP:P.length≤2500) (hD:D.length≤2500):VSpecO (EN w (n+3)) 71 st [.ptr a 0,.ptr b 0] (lackV (lackF P D)):=by
 have hk:=lack_p w n P D hP hD
 refine vspecO_g rfl rfl (fun _ _=>rfl) (Nat.le_of_ble_eq_true rfl) (by cases lackF P D<;>rfl) fun C hC h0=>⟨⟨st.own,st.next,st.next⟩,?_⟩
 generalize lackF P D=q at*
 cases q with
 |none=>
  unfold lackV at hk ⊢
  repeat' (first|(simp (disch:=first|omega|assumption|exact bd (by with_unfolding_all rfl)|exact Or.inl rfl|exact Or.inl trivial|exact okL_map _ (fun _=>rfl) _|(simp only[VVlen]<;>omega)|fail) only[VV0,VV1,VV2,VV3,VV4,VV5,VV6,VV7,VV8,VV9,mkFnV,vargs,slotsL,opdsA,Nat.reduceEqDiff,Nat.reduceLT,Nat.reduceAdd,Nat.reduceBEq,Int.reduceAdd,Int.reduceSub,Int.reduceLT,Int.reduceLE,Int.reduceEq,Int.reduceNeg,↓reduceIte,reduceCtorEq,scL,scD,expand,List.replicate,c71,ha,hb])|apply gC_drawW|((first|apply gI_dec|apply gG_dec|apply gPG_dec|apply gI_var|apply gG_var|apply gPG_var)<;>intro _))
  refine callV_flat (by rw[hC];exact hk.flat rfl rfl) ?_
  repeat' (first|(simp (disch:=first|omega|assumption|exact bd (by with_unfolding_all rfl)|exact Or.inl rfl|exact Or.inl trivial|exact okL_map _ (fun _=>rfl) _|(simp only[VVlen]<;>omega)|fail) only[VV0,VV1,VV2,VV3,VV4,VV5,VV6,VV7,VV8,VV9,mkFnV,vargs,slotsL,opdsA,Nat.reduceEqDiff,Nat.reduceLT,Nat.reduceAdd,Nat.reduceBEq,Int.reduceAdd,Int.reduceSub,Int.reduceLT,Int.reduceLE,Int.reduceEq,Int.reduceNeg,↓reduceIte,reduceCtorEq,scL,scD,expand,List.replicate])|apply gC_drawW|((first|apply gI_dec|apply gG_dec|apply gPG_dec|apply gI_var|apply gG_var|apply gPG_var)<;>intro _))
  exact .refl _ _
 |some k=>
  unfold lackV at hk ⊢
  repeat' (first|(simp (disch:=first|omega|assumption|exact bd (by with_unfolding_all rfl)|exact Or.inl rfl|exact Or.inl trivial|exact okL_map _ (fun _=>rfl) _|(simp only[VVlen]<;>omega)|fail) only[VV0,VV1,VV2,VV3,VV4,VV5,VV6,VV7,VV8,VV9,mkFnV,vargs,slotsL,opdsA,Nat.reduceEqDiff,Nat.reduceLT,Nat.reduceAdd,Nat.reduceBEq,Int.reduceAdd,Int.reduceSub,Int.reduceLT,Int.reduceLE,Int.reduceEq,Int.reduceNeg,↓reduceIte,reduceCtorEq,scL,scD,expand,List.replicate,c71,ha,hb])|apply gC_drawW|((first|apply gI_dec|apply gG_dec|apply gPG_dec|apply gI_var|apply gG_var|apply gPG_var)<;>intro _))
  refine callV_flat (by rw[hC];exact hk.flat rfl rfl) ?_
  repeat' (first|(simp (disch:=first|omega|assumption|exact bd (by with_unfolding_all rfl)|exact Or.inl rfl|exact Or.inl trivial|exact okL_map _ (fun _=>rfl) _|(simp only[VVlen]<;>omega)|fail) only[VV0,VV1,VV2,VV3,VV4,VV5,VV6,VV7,VV8,VV9,mkFnV,vargs,slotsL,opdsA,Nat.reduceEqDiff,Nat.reduceLT,Nat.reduceAdd,Nat.reduceBEq,Int.reduceAdd,Int.reduceSub,Int.reduceLT,Int.reduceLE,Int.reduceEq,Int.reduceNeg,↓reduceIte,reduceCtorEq,scL,scD,expand,List.replicate])|apply gC_drawW|((first|apply gI_dec|apply gG_dec|apply gPG_dec|apply gI_var|apply gG_var|apply gPG_var)<;>intro _))
  exact .refl _ _
theorem w5_o (ha:aget st.own a=some (.box t e [jS 3 P])) (hb:aget st.own b=some (.box t' e' [jS 3 D])) (hP:P.length≤2500) (hD:D.length≤2500):VSpecO (EN w (n+3)) 73 st [.ptr a 0,.ptr b 0] (lackV (lackF P D)):=by
 have hk:=lack_p w n P D hP hD
 refine vspecO_g rfl rfl (fun _ _=>rfl) (Nat.le_of_ble_eq_true rfl) (by cases lackF P D<;>rfl) fun C hC h0=>⟨⟨st.own,st.next,st.next⟩,?_⟩
 generalize lackF P D=q at*
 cases q with
 |none=>
  unfold lackV at hk ⊢
  repeat' (first|(simp (disch:=first|omega|assumption|exact bd (by with_unfolding_all rfl)|exact Or.inl rfl|exact Or.inl trivial|exact okL_map _ (fun _=>rfl) _|(simp only[VVlen]<;>omega)|fail) only[VV0,VV1,VV2,VV3,VV4,VV5,VV6,VV7,VV8,VV9,mkFnV,vargs,slotsL,opdsA,Nat.reduceEqDiff,Nat.reduceLT,Nat.reduceAdd,Nat.reduceBEq,Int.reduceAdd,Int.reduceSub,Int.reduceLT,Int.reduceLE,Int.reduceEq,Int.reduceNeg,↓reduceIte,reduceCtorEq,scL,scD,expand,List.replicate,c73,ha,hb])|apply gC_drawW|((first|apply gI_dec|apply gG_dec|apply gPG_dec|apply gI_var|apply gG_var|apply gPG_var)<;>intro _))
  refine callV_flat (by rw[hC];exact hk.flat rfl rfl) ?_
  repeat' (first|(simp (disch:=first|omega|assumption|exact bd (by with_unfolding_all rfl)|exact Or.inl rfl|exact Or.inl trivial|exact okL_map _ (fun _=>rfl) _|(simp only[VVlen]<;>omega)|fail) only[VV0,VV1,VV2,VV3,VV4,VV5,VV6,VV7,VV8,VV9,mkFnV,vargs,slotsL,opdsA,Nat.reduceEqDiff,Nat.reduceLT,Nat.reduceAdd,Nat.reduceBEq,Int.reduceAdd,Int.reduceSub,Int.reduceLT,Int.reduceLE,Int.reduceEq,Int.reduceNeg,↓reduceIte,reduceCtorEq,scL,scD,expand,List.replicate])|apply gC_drawW|((first|apply gI_dec|apply gG_dec|apply gPG_dec|apply gI_var|apply gG_var|apply gPG_var)<;>intro _))
  exact .refl _ _
 |some k=>
  unfold lackV at hk ⊢
  repeat' (first|(simp (disch:=first|omega|assumption|exact bd (by with_unfolding_all rfl)|exact Or.inl rfl|exact Or.inl trivial|exact okL_map _ (fun _=>rfl) _|(simp only[VVlen]<;>omega)|fail) only[VV0,VV1,VV2,VV3,VV4,VV5,VV6,VV7,VV8,VV9,mkFnV,vargs,slotsL,opdsA,Nat.reduceEqDiff,Nat.reduceLT,Nat.reduceAdd,Nat.reduceBEq,Int.reduceAdd,Int.reduceSub,Int.reduceLT,Int.reduceLE,Int.reduceEq,Int.reduceNeg,↓reduceIte,reduceCtorEq,scL,scD,expand,List.replicate,c73,ha,hb])|apply gC_drawW|((first|apply gI_dec|apply gG_dec|apply gPG_dec|apply gI_var|apply gG_var|apply gPG_var)<;>intro _))
  refine callV_flat (by rw[hC];exact hk.flat rfl rfl) ?_
  repeat' (first|(simp (disch:=first|omega|assumption|exact bd (by with_unfolding_all rfl)|exact Or.inl rfl|exact Or.inl trivial|exact okL_map _ (fun _=>rfl) _|(simp only[VVlen]<;>omega)|fail) only[VV0,VV1,VV2,VV3,VV4,VV5,VV6,VV7,VV8,VV9,mkFnV,vargs,slotsL,opdsA,Nat.reduceEqDiff,Nat.reduceLT,Nat.reduceAdd,Nat.reduceBEq,Int.reduceAdd,Int.reduceSub,Int.reduceLT,Int.reduceLE,Int.reduceEq,Int.reduceNeg,↓reduceIte,reduceCtorEq,scL,scD,expand,List.replicate])|apply gC_drawW|((first|apply gI_dec|apply gG_dec|apply gPG_dec|apply gI_var|apply gG_var|apply gPG_var)<;>intro _))
  exact .refl _ _
theorem w6_o (ha:aget st.own a=some (.box t e [iN N])) (hb:aget st.own b=some (.box t' e' [jS 3 P])) (hc:aget st.own c=some (.box t2 e2 [jS 3 D])) (hP:P.length≤2500) (hD:D.length≤2500) (hN:P.length=D.length→N+1≤P.length):
  VSpecO (EN w (n+2)) 74 st [.ptr a 0,.ptr b 0,.ptr c 0] (.tup [iN N,.sc (.bool (decide (P.length=D.length∧P.drop (N+1)=D.drop (N+1))))]):=by
 refine vspecO_g rfl rfl (fun _ _=>rfl) (Nat.le_of_ble_eq_true rfl) rfl fun C hC h0=>⟨⟨st.own,st.next,st.next⟩,?_⟩
 by_cases h:P.length=D.length
 case neg=>
  rw[decide_eq_false fun q=>h q.1]
  repeat' (first|(simp (disch:=first|omega|assumption|exact bd (by with_unfolding_all rfl)|exact Or.inl rfl|exact Or.inl trivial|exact okL_map _ (fun _=>rfl) _|(simp only[VVlen]<;>omega)|fail) only[VV0,VV1,VV2,VV3,VV4,VV5,VV6,VV7,VV8,VV9,mkFnV,vargs,slotsL,opdsA,Nat.reduceEqDiff,Nat.reduceLT,Nat.reduceAdd,Nat.reduceBEq,Int.reduceAdd,Int.reduceSub,Int.reduceLT,Int.reduceLE,Int.reduceEq,Int.reduceNeg,↓reduceIte,reduceCtorEq,scL,scD,expand,List.replicate,c74,ha,hb,hc])|apply gC_drawW|((first|apply gI_dec|apply gG_dec|apply gPG_dec|apply gI_var|apply gG_var|apply gPG_var)<;>intro _))
  exact .refl _ _
 have hn:=hN h
 have e1:=partD_back P (N+1) (by omega)
 have e2:=partD_back D (N+1) (by omega)
 have heq:=jequal_p w n 3 3 (P.drop (N+1)) (D.drop (N+1)) (by simp;omega) (by simp;omega)
 unfold jS at heq
 rw[← e1,← e2,List.length_drop,List.length_drop] at heq
 have hz:((N:Int)+1).toNat=N+1:=by omega
 have hil:=insD_len P
 have him:=insD_len D
 rw[show decide (P.length=D.length∧P.drop (N+1)=D.drop (N+1))=decide (P.drop (N+1)=D.drop (N+1)) from by simp only[h,true_and]]
 generalize decide (P.drop (N+1)=D.drop (N+1))=q at*
 repeat' (first|(simp (disch:=first|omega|assumption|exact bd (by with_unfolding_all rfl)|exact Or.inl rfl|exact Or.inl trivial|exact okL_map _ (fun _=>rfl) _|(simp only[VVlen]<;>omega)|fail) only[VV0,VV1,VV2,VV3,VV4,VV5,VV6,VV7,VV8,VV9,mkFnV,vargs,slotsL,opdsA,Nat.reduceEqDiff,Nat.reduceLT,Nat.reduceAdd,Nat.reduceBEq,Int.reduceAdd,Int.reduceSub,Int.reduceLT,Int.reduceLE,Int.reduceEq,Int.reduceNeg,↓reduceIte,reduceCtorEq,scL,scD,expand,List.replicate,c74,ha,hb,hc,hz])|apply gC_drawW|((first|apply gI_dec|apply gG_dec|apply gPG_dec|apply gI_var|apply gG_var|apply gPG_var)<;>intro _))
 refine call0_of (by rw[hC];exact heq.flat rfl rfl) ?_
 repeat' (first|(simp (disch:=first|omega|assumption|exact bd (by with_unfolding_all rfl)|exact Or.inl rfl|exact Or.inl trivial|exact okL_map _ (fun _=>rfl) _|(simp only[VVlen]<;>omega)|fail) only[VV0,VV1,VV2,VV3,VV4,VV5,VV6,VV7,VV8,VV9,mkFnV,vargs,slotsL,opdsA,Nat.reduceEqDiff,Nat.reduceLT,Nat.reduceAdd,Nat.reduceBEq,Int.reduceAdd,Int.reduceSub,Int.reduceLT,Int.reduceLE,Int.reduceEq,Int.reduceNeg,↓reduceIte,reduceCtorEq,scL,scD,expand,List.replicate])|apply gC_drawW|((first|apply gI_dec|apply gG_dec|apply gPG_dec|apply gI_var|apply gG_var|apply gPG_var)<;>intro _))
 exact .refl _ _
end
theorem jx0 (a b c d e:V):idxVV 5 1 none (.agg [a,b,c,d,e]) (iN ((0:Nat):Int))=some a:=(rfl)
theorem jx1 (a b c d e:V):idxVV 5 1 none (.agg [a,b,c,d,e]) (iN ((1:Nat):Int))=some b:=(rfl)
theorem jx2 (a b c d e:V):idxVV 5 1 none (.agg [a,b,c,d,e]) (iN ((2:Nat):Int))=some c:=(rfl)
theorem jx3 (a b c d e:V):idxVV 5 1 none (.agg [a,b,c,d,e]) (iN ((3:Nat):Int))=some d:=(rfl)
theorem jx4 (a b c d e:V):idxVV 5 1 none (.agg [a,b,c,d,e]) (iN ((4:Nat):Int))=some e:=(rfl)
section
variable (w:World) (n:Nat)
theorem locate_p (P D:List Ins) (hP:P.length≤2500) (hD:D.length≤2500):VSpec (EN w (n+6)) 27 [jS 3 P,jS 3 D] (locV (locF P D)) ⟨[],0,0⟩:=by
 refine vspec_flat rfl rfl (fun _ _=>rfl) (Nat.le_of_ble_eq_true rfl) (oldVals w) rfl fun C hC h0=>?_
 have hrn:C.E.rounds=many:=by rw[hC,callP_rounds]
 unfold locF
 by_cases c1:2000<P.length∨2000<D.length
 ·rw[if_pos c1]
  repeat' (first|(simp (disch:=first|omega|assumption|exact bd (by with_unfolding_all rfl)|exact Or.inl rfl|exact Or.inl trivial|exact okL_map _ (fun _=>rfl) _|(simp only[VVlen]<;>omega)|fail) only[VV0,VV1,VV2,VV3,VV4,VV5,VV6,VV7,VV8,VV9,mkFnV,vargs,slotsL,opdsA,Nat.reduceEqDiff,Nat.reduceLT,Nat.reduceAdd,Nat.reduceBEq,Int.reduceAdd,Int.reduceSub,Int.reduceLT,Int.reduceLE,Int.reduceEq,Int.reduceNeg,↓reduceIte,reduceCtorEq,scL,scD,expand,List.replicate,c27])|apply gC_drawW|((first|apply gI_dec|apply gG_dec|apply gPG_dec|apply gI_var|apply gG_var|apply gPG_var)<;>intro _))
  all_goals try (exfalso;omega)
  exact weak_flat rfl h0 rfl
 rw[if_neg c1]
 have hcat:catJ [(3,P),(3,D)]=P++D:=by simp[catJ]
 have hcc:=concatJ_p w (n+3) [(3,P),(3,D)] (by simp) (by simp) (by rw[hcat,List.length_append];omega)
 rw[hcat] at hcc
 have hct:=jcontains_p w n 2 (P++D) (by rw[List.length_append];omega)
 have hcm:=common_p w (n+4) 3 3 P D (by omega) (by omega)
 have hPD:=insD_len (P++D)
 have hsn:∀ H:VHp,aget H 3=some (.gro 54 7 false (insD (P++D)))→snapL H [.gr 2 3 (P++D).length,okFn]=some [.sl 2 (P++D).length (insD (P++D)),okFn]:=fun H h=>by
  have e:=snap_gr7 h hPD
  show (snapV H (.gr 2 3 (P++D).length)).bind _=_
  rw[e]
  rfl
 by_cases c2:(P++D).all insOK=true
 case neg=>
  rw[if_pos c2]
  rw[Bool.not_eq_true] at c2
  rw[c2] at hct
  repeat' (first|(simp (disch:=first|omega|assumption|exact bd (by with_unfolding_all rfl)|exact Or.inl rfl|exact Or.inl trivial|exact okL_map _ (fun _=>rfl) _|(simp only[VVlen]<;>omega)|fail) only[VV0,VV1,VV2,VV3,VV4,VV5,VV6,VV7,VV8,VV9,mkFnV,vargs,slotsL,opdsA,Nat.reduceEqDiff,Nat.reduceLT,Nat.reduceAdd,Nat.reduceBEq,Int.reduceAdd,Int.reduceSub,Int.reduceLT,Int.reduceLE,Int.reduceEq,Int.reduceNeg,↓reduceIte,reduceCtorEq,scL,scD,expand,List.replicate,c27,row2V_j])|apply gC_drawW|((first|apply gI_dec|apply gG_dec|apply gPG_dec|apply gI_var|apply gG_var|apply gPG_var)<;>intro _))
  all_goals try (exfalso;omega)
  refine callV_of (by rw[hC];exact hcc) (by rfl) rfl rfl ?_
  repeat' (first|(simp (disch:=first|omega|assumption|exact bd (by with_unfolding_all rfl)|exact Or.inl rfl|exact Or.inl trivial|exact okL_map _ (fun _=>rfl) _|(simp only[VVlen]<;>omega)|fail) only[VV0,VV1,VV2,VV3,VV4,VV5,VV6,VV7,VV8,VV9,mkFnV,vargs,slotsL,opdsA,Nat.reduceEqDiff,Nat.reduceLT,Nat.reduceAdd,Nat.reduceBEq,Int.reduceAdd,Int.reduceSub,Int.reduceLT,Int.reduceLE,Int.reduceEq,Int.reduceNeg,↓reduceIte,reduceCtorEq,scL,scD,expand,List.replicate,vsh,shH,shO,fzSL,fzS])|apply gC_drawW|((first|apply gI_dec|apply gG_dec|apply gPG_dec|apply gI_var|apply gG_var|apply gPG_var)<;>intro _))
  refine callV_flat (by rw[hC];exact hct.flat rfl (hsn _ rfl)) ?_
  repeat' (first|(simp (disch:=first|omega|assumption|exact bd (by with_unfolding_all rfl)|exact Or.inl rfl|exact Or.inl trivial|exact okL_map _ (fun _=>rfl) _|(simp only[VVlen]<;>omega)|fail) only[VV0,VV1,VV2,VV3,VV4,VV5,VV6,VV7,VV8,VV9,mkFnV,vargs,slotsL,opdsA,Nat.reduceEqDiff,Nat.reduceLT,Nat.reduceAdd,Nat.reduceBEq,Int.reduceAdd,Int.reduceSub,Int.reduceLT,Int.reduceLE,Int.reduceEq,Int.reduceNeg,↓reduceIte,reduceCtorEq,scL,scD,expand,List.replicate])|apply gC_drawW|((first|apply gI_dec|apply gG_dec|apply gPG_dec|apply gI_var|apply gG_var|apply gPG_var)<;>intro _))
  exact weak_flat rfl h0 rfl
 rw[if_neg (not_not_intro c2)]
 rw[c2] at hct
 repeat' (first|(simp (disch:=first|omega|assumption|exact bd (by with_unfolding_all rfl)|exact Or.inl rfl|exact Or.inl trivial|exact okL_map _ (fun _=>rfl) _|(simp only[VVlen]<;>omega)|fail) only[VV0,VV1,VV2,VV3,VV4,VV5,VV6,VV7,VV8,VV9,mkFnV,vargs,slotsL,opdsA,Nat.reduceEqDiff,Nat.reduceLT,Nat.reduceAdd,Nat.reduceBEq,Int.reduceAdd,Int.reduceSub,Int.reduceLT,Int.reduceLE,Int.reduceEq,Int.reduceNeg,↓reduceIte,reduceCtorEq,scL,scD,expand,List.replicate,c27,row2V_j])|apply gC_drawW|((first|apply gI_dec|apply gG_dec|apply gPG_dec|apply gI_var|apply gG_var|apply gPG_var)<;>intro _))
 all_goals try (exfalso;omega)
 refine callV_of (by rw[hC];exact hcc) (by rfl) rfl rfl ?_
 repeat' (first|(simp (disch:=first|omega|assumption|exact bd (by with_unfolding_all rfl)|exact Or.inl rfl|exact Or.inl trivial|exact okL_map _ (fun _=>rfl) _|(simp only[VVlen]<;>omega)|fail) only[VV0,VV1,VV2,VV3,VV4,VV5,VV6,VV7,VV8,VV9,mkFnV,vargs,slotsL,opdsA,Nat.reduceEqDiff,Nat.reduceLT,Nat.reduceAdd,Nat.reduceBEq,Int.reduceAdd,Int.reduceSub,Int.reduceLT,Int.reduceLE,Int.reduceEq,Int.reduceNeg,↓reduceIte,reduceCtorEq,scL,scD,expand,List.replicate,vsh,shH,shO,fzSL,fzS])|apply gC_drawW|((first|apply gI_dec|apply gG_dec|apply gPG_dec|apply gI_var|apply gG_var|apply gPG_var)<;>intro _))
 refine callV_flat (by rw[hC];exact hct.flat rfl (hsn _ rfl)) ?_
 repeat' (first|(simp (disch:=first|omega|assumption|exact bd (by with_unfolding_all rfl)|exact Or.inl rfl|exact Or.inl trivial|exact okL_map _ (fun _=>rfl) _|(simp only[VVlen]<;>omega)|fail) only[VV0,VV1,VV2,VV3,VV4,VV5,VV6,VV7,VV8,VV9,mkFnV,vargs,slotsL,opdsA,Nat.reduceEqDiff,Nat.reduceLT,Nat.reduceAdd,Nat.reduceBEq,Int.reduceAdd,Int.reduceSub,Int.reduceLT,Int.reduceLE,Int.reduceEq,Int.reduceNeg,↓reduceIte,reduceCtorEq,scL,scD,expand,List.replicate])|apply gC_drawW|((first|apply gI_dec|apply gG_dec|apply gPG_dec|apply gI_var|apply gG_var|apply gPG_var)<;>intro _))
 refine callV_flat (by rw[hC];exact hcm.flat rfl rfl) ?_
 repeat' (first|(simp (disch:=first|omega|assumption|exact bd (by with_unfolding_all rfl)|exact Or.inl rfl|exact Or.inl trivial|exact okL_map _ (fun _=>rfl) _|(simp only[VVlen]<;>omega)|fail) only[VV0,VV1,VV2,VV3,VV4,VV5,VV6,VV7,VV8,VV9,mkFnV,vargs,slotsL,opdsA,Nat.reduceEqDiff,Nat.reduceLT,Nat.reduceAdd,Nat.reduceBEq,Int.reduceAdd,Int.reduceSub,Int.reduceLT,Int.reduceLE,Int.reduceEq,Int.reduceNeg,↓reduceIte,reduceCtorEq,scL,scD,expand,List.replicate,mkFnV])|apply gC_drawW|((first|apply gI_dec|apply gG_dec|apply gPG_dec|apply gI_var|apply gG_var|apply gPG_var)<;>intro _))
 have hc:=cmn_le P D
 have f0:∀ (st:VSt),aget st.own 0=some (.box 52 1 [jS 3 P])→aget st.own 1=some (.box 52 1 [jS 3 D])→VSpecO (EN w (n+5)) 68 st [.ptr 0 0,.ptr 1 0] (.tup [iN 0,.sc (.bool (decide (P=D)))]):=fun st a b=>w2_o w (n+3) a b hP hD
 have f1:∀ (st:VSt),aget st.own 4=some (.box 3 1 [iN (cmn P D)])→aget st.own 1=some (.box 52 1 [jS 3 D])→VSpecO (EN w (n+5)) 70 st [.ptr 4 0,.ptr 1 0] (.tup [iN (cmn P D),.sc (.bool (decide (cmn P D=D.length)))]):=fun st a b=>w3_o w (n+4) a b hD
 have f2:∀ (st:VSt),aget st.own 0=some (.box 52 1 [jS 3 P])→aget st.own 1=some (.box 52 1 [jS 3 D])→VSpecO (EN w (n+5)) 71 st [.ptr 0 0,.ptr 1 0] (lackV (lackF P D)):=fun st a b=>w4_o w (n+2) a b hP hD
 have f3:∀ (st:VSt),aget st.own 0=some (.box 52 1 [jS 3 P])→aget st.own 1=some (.box 52 1 [jS 3 D])→VSpecO (EN w (n+5)) 73 st [.ptr 1 0,.ptr 0 0] (lackV (lackF D P)):=fun st a b=>w5_o w (n+2) b a hD hP
 have f4:(cmn P D ≠ D.length)→∀ (st:VSt),aget st.own 4=some (.box 3 1 [iN (cmn P D)])→aget st.own 0=some (.box 52 1 [jS 3 P])→aget st.own 1=some (.box 52 1 [jS 3 D])→VSpecO (EN w (n+5)) 74 st [.ptr 4 0,.ptr 0 0,.ptr 1 0] (.tup [iN (cmn P D),.sc (.bool (decide (P.length=D.length∧P.drop (cmn P D+1)=D.drop (cmn P D+1))))]):=fun hne st a b c=>w6_o w (n+3) a b c hP hD (fun h=>by omega)
 obtain ⟨R,hR⟩:∃ R,R=locT P D (cmn P D) (lackF P D) (lackF D P):=⟨_,rfl⟩
 rw[← hR]
 generalize lackF P D=K1 at*
 generalize lackF D P=K2 at*
 generalize cmn P D=N at*
 unfold locT at hR
 refine g_while (fun m fr st=>∃ k:Nat,m=5 - k∧k≤5∧(0<k→P ≠ D)∧(1<k→N ≠ D.length)∧(2<k→K1=none)∧(3<k→K2=none)∧(4<k→¬ (P.length=D.length∧P.drop (N+1)=D.drop (N+1)))∧
  fr= [(7,.ptr 4 0),(33,.agg [.fn 68 [] [.ptr 0 0,.ptr 1 0],.fn 70 [] [.ptr 4 0,.ptr 1 0],.fn 71 [] [.ptr 0 0,.ptr 1 0],.fn 73 [] [.ptr 1 0,.ptr 0 0],.fn 74 [] [.ptr 4 0,.ptr 0 0,.ptr 1 0]]),(34,iN k)]∧
  st=⟨[(4,.box 3 1 [iN N]),(1,.box 52 1 [jS 3 D]),(0,.box 52 1 [jS 3 P])],5,0⟩) 5 ?_ ⟨_,_,weak_to [(4,4),(1,1),(0,0)] 5 h0 rfl rfl rfl rfl,0,rfl,by omega,(fun h=>absurd h (by decide)),(fun h=>absurd h (by decide)),(fun h=>absurd h (by decide)),(fun h=>absurd h (by decide)),(fun h=>absurd h (by decide)),rfl,rfl⟩ ?_
 ·rw[hrn];decide
 rintro m fr st ⟨k,rfl,hk,g0,g1,g2,g3,g4,rfl,rfl⟩
 rcases (by omega:k=0∨k=1∨k=2∨k=3∨k=4∨k=5) with rfl|rfl|rfl|rfl|rfl|rfl
 ·by_cases q:P=D
  ·rw[if_pos q] at hR
   rw[decide_eq_true q] at f0
   rw[hR]
   repeat' (first|(simp (disch:=first|omega|assumption|exact bd (by with_unfolding_all rfl)|exact Or.inl rfl|exact Or.inl trivial|exact okL_map _ (fun _=>rfl) _|(simp only[VVlen]<;>omega)|fail) only[VV0,VV1,VV2,VV3,VV4,VV5,VV6,VV7,VV8,VV9,mkFnV,vargs,slotsL,opdsA,Nat.reduceEqDiff,Nat.reduceLT,Nat.reduceAdd,Nat.reduceBEq,Int.reduceAdd,Int.reduceSub,Int.reduceLT,Int.reduceLE,Int.reduceEq,Int.reduceNeg,↓reduceIte,reduceCtorEq,scL,scD,expand,List.replicate,c27l0,jx0])|apply gC_drawW|((first|apply gI_dec|apply gG_dec|apply gPG_dec|apply gI_var|apply gG_var|apply gPG_var)<;>intro _))
   refine callV_flat (by rw[hC];exact f0 _ rfl rfl) ?_
   repeat' (first|(simp (disch:=first|omega|assumption|exact bd (by with_unfolding_all rfl)|exact Or.inl rfl|exact Or.inl trivial|exact okL_map _ (fun _=>rfl) _|(simp only[VVlen]<;>omega)|fail) only[VV0,VV1,VV2,VV3,VV4,VV5,VV6,VV7,VV8,VV9,mkFnV,vargs,slotsL,opdsA,Nat.reduceEqDiff,Nat.reduceLT,Nat.reduceAdd,Nat.reduceBEq,Int.reduceAdd,Int.reduceSub,Int.reduceLT,Int.reduceLE,Int.reduceEq,Int.reduceNeg,↓reduceIte,reduceCtorEq,scL,scD,expand,List.replicate])|apply gC_drawW|((first|apply gI_dec|apply gG_dec|apply gPG_dec|apply gI_var|apply gG_var|apply gPG_var)<;>intro _))
   exact weak_flat rfl h0 rfl
  ·rw[decide_eq_false q] at f0
   repeat' (first|(simp (disch:=first|omega|assumption|exact bd (by with_unfolding_all rfl)|exact Or.inl rfl|exact Or.inl trivial|exact okL_map _ (fun _=>rfl) _|(simp only[VVlen]<;>omega)|fail) only[VV0,VV1,VV2,VV3,VV4,VV5,VV6,VV7,VV8,VV9,mkFnV,vargs,slotsL,opdsA,Nat.reduceEqDiff,Nat.reduceLT,Nat.reduceAdd,Nat.reduceBEq,Int.reduceAdd,Int.reduceSub,Int.reduceLT,Int.reduceLE,Int.reduceEq,Int.reduceNeg,↓reduceIte,reduceCtorEq,scL,scD,expand,List.replicate,c27l0,jx0])|apply gC_drawW|((first|apply gI_dec|apply gG_dec|apply gPG_dec|apply gI_var|apply gG_var|apply gPG_var)<;>intro _))
   refine callV_flat (by rw[hC];exact f0 _ rfl rfl) ?_
   repeat' (first|(simp (disch:=first|omega|assumption|exact bd (by with_unfolding_all rfl)|exact Or.inl rfl|exact Or.inl trivial|exact okL_map _ (fun _=>rfl) _|(simp only[VVlen]<;>omega)|fail) only[VV0,VV1,VV2,VV3,VV4,VV5,VV6,VV7,VV8,VV9,mkFnV,vargs,slotsL,opdsA,Nat.reduceEqDiff,Nat.reduceLT,Nat.reduceAdd,Nat.reduceBEq,Int.reduceAdd,Int.reduceSub,Int.reduceLT,Int.reduceLE,Int.reduceEq,Int.reduceNeg,↓reduceIte,reduceCtorEq,scL,scD,expand,List.replicate])|apply gC_drawW|((first|apply gI_dec|apply gG_dec|apply gPG_dec|apply gI_var|apply gG_var|apply gPG_var)<;>intro _))
   exact ⟨4,_,_,by decide,.refl _ _,1,rfl,by decide,fun _=>q,(fun h=>absurd h (by decide)),(fun h=>absurd h (by decide)),(fun h=>absurd h (by decide)),(fun h=>absurd h (by decide)),rfl,rfl⟩
 ·have p0:=g0 (by decide)
  rw[if_neg p0] at hR
  by_cases q:N=D.length
  ·rw[if_pos q] at hR
   rw[decide_eq_true q] at f1
   rw[hR]
   repeat' (first|(simp (disch:=first|omega|assumption|exact bd (by with_unfolding_all rfl)|exact Or.inl rfl|exact Or.inl trivial|exact okL_map _ (fun _=>rfl) _|(simp only[VVlen]<;>omega)|fail) only[VV0,VV1,VV2,VV3,VV4,VV5,VV6,VV7,VV8,VV9,mkFnV,vargs,slotsL,opdsA,Nat.reduceEqDiff,Nat.reduceLT,Nat.reduceAdd,Nat.reduceBEq,Int.reduceAdd,Int.reduceSub,Int.reduceLT,Int.reduceLE,Int.reduceEq,Int.reduceNeg,↓reduceIte,reduceCtorEq,scL,scD,expand,List.replicate,c27l0,jx1])|apply gC_drawW|((first|apply gI_dec|apply gG_dec|apply gPG_dec|apply gI_var|apply gG_var|apply gPG_var)<;>intro _))
   refine callV_flat (by rw[hC];exact f1 _ rfl rfl) ?_
   repeat' (first|(simp (disch:=first|omega|assumption|exact bd (by with_unfolding_all rfl)|exact Or.inl rfl|exact Or.inl trivial|exact okL_map _ (fun _=>rfl) _|(simp only[VVlen]<;>omega)|fail) only[VV0,VV1,VV2,VV3,VV4,VV5,VV6,VV7,VV8,VV9,mkFnV,vargs,slotsL,opdsA,Nat.reduceEqDiff,Nat.reduceLT,Nat.reduceAdd,Nat.reduceBEq,Int.reduceAdd,Int.reduceSub,Int.reduceLT,Int.reduceLE,Int.reduceEq,Int.reduceNeg,↓reduceIte,reduceCtorEq,scL,scD,expand,List.replicate])|apply gC_drawW|((first|apply gI_dec|apply gG_dec|apply gPG_dec|apply gI_var|apply gG_var|apply gPG_var)<;>intro _))
   exact weak_flat rfl h0 rfl
  ·rw[decide_eq_false q] at f1
   repeat' (first|(simp (disch:=first|omega|assumption|exact bd (by with_unfolding_all rfl)|exact Or.inl rfl|exact Or.inl trivial|exact okL_map _ (fun _=>rfl) _|(simp only[VVlen]<;>omega)|fail) only[VV0,VV1,VV2,VV3,VV4,VV5,VV6,VV7,VV8,VV9,mkFnV,vargs,slotsL,opdsA,Nat.reduceEqDiff,Nat.reduceLT,Nat.reduceAdd,Nat.reduceBEq,Int.reduceAdd,Int.reduceSub,Int.reduceLT,Int.reduceLE,Int.reduceEq,Int.reduceNeg,↓reduceIte,reduceCtorEq,scL,scD,expand,List.replicate,c27l0,jx1])|apply gC_drawW|((first|apply gI_dec|apply gG_dec|apply gPG_dec|apply gI_var|apply gG_var|apply gPG_var)<;>intro _))
   refine callV_flat (by rw[hC];exact f1 _ rfl rfl) ?_
   repeat' (first|(simp (disch:=first|omega|assumption|exact bd (by with_unfolding_all rfl)|exact Or.inl rfl|exact Or.inl trivial|exact okL_map _ (fun _=>rfl) _|(simp only[VVlen]<;>omega)|fail) only[VV0,VV1,VV2,VV3,VV4,VV5,VV6,VV7,VV8,VV9,mkFnV,vargs,slotsL,opdsA,Nat.reduceEqDiff,Nat.reduceLT,Nat.reduceAdd,Nat.reduceBEq,Int.reduceAdd,Int.reduceSub,Int.reduceLT,Int.reduceLE,Int.reduceEq,Int.reduceNeg,↓reduceIte,reduceCtorEq,scL,scD,expand,List.replicate])|apply gC_drawW|((first|apply gI_dec|apply gG_dec|apply gPG_dec|apply gI_var|apply gG_var|apply gPG_var)<;>intro _))
   exact ⟨3,_,_,by decide,.refl _ _,2,rfl,by decide,fun _=>p0,fun _=>q,(fun h=>absurd h (by decide)),(fun h=>absurd h (by decide)),(fun h=>absurd h (by decide)),rfl,rfl⟩
 ·have p0:=g0 (by decide)
  have p1:=g1 (by decide)
  rw[if_neg p0,if_neg p1] at hR
  cases K1 with
  |some k=>
   rw[show R=(2,↑k,0) from hR]
   unfold lackV at f2
   repeat' (first|(simp (disch:=first|omega|assumption|exact bd (by with_unfolding_all rfl)|exact Or.inl rfl|exact Or.inl trivial|exact okL_map _ (fun _=>rfl) _|(simp only[VVlen]<;>omega)|fail) only[VV0,VV1,VV2,VV3,VV4,VV5,VV6,VV7,VV8,VV9,mkFnV,vargs,slotsL,opdsA,Nat.reduceEqDiff,Nat.reduceLT,Nat.reduceAdd,Nat.reduceBEq,Int.reduceAdd,Int.reduceSub,Int.reduceLT,Int.reduceLE,Int.reduceEq,Int.reduceNeg,↓reduceIte,reduceCtorEq,scL,scD,expand,List.replicate,c27l0,jx2])|apply gC_drawW|((first|apply gI_dec|apply gG_dec|apply gPG_dec|apply gI_var|apply gG_var|apply gPG_var)<;>intro _))
   refine callV_flat (by rw[hC];exact f2 _ rfl rfl) ?_
   repeat' (first|(simp (disch:=first|omega|assumption|exact bd (by with_unfolding_all rfl)|exact Or.inl rfl|exact Or.inl trivial|exact okL_map _ (fun _=>rfl) _|(simp only[VVlen]<;>omega)|fail) only[VV0,VV1,VV2,VV3,VV4,VV5,VV6,VV7,VV8,VV9,mkFnV,vargs,slotsL,opdsA,Nat.reduceEqDiff,Nat.reduceLT,Nat.reduceAdd,Nat.reduceBEq,Int.reduceAdd,Int.reduceSub,Int.reduceLT,Int.reduceLE,Int.reduceEq,Int.reduceNeg,↓reduceIte,reduceCtorEq,scL,scD,expand,List.replicate])|apply gC_drawW|((first|apply gI_dec|apply gG_dec|apply gPG_dec|apply gI_var|apply gG_var|apply gPG_var)<;>intro _))
   exact weak_flat rfl h0 rfl
  |none=>
   unfold lackV at f2
   repeat' (first|(simp (disch:=first|omega|assumption|exact bd (by with_unfolding_all rfl)|exact Or.inl rfl|exact Or.inl trivial|exact okL_map _ (fun _=>rfl) _|(simp only[VVlen]<;>omega)|fail) only[VV0,VV1,VV2,VV3,VV4,VV5,VV6,VV7,VV8,VV9,mkFnV,vargs,slotsL,opdsA,Nat.reduceEqDiff,Nat.reduceLT,Nat.reduceAdd,Nat.reduceBEq,Int.reduceAdd,Int.reduceSub,Int.reduceLT,Int.reduceLE,Int.reduceEq,Int.reduceNeg,↓reduceIte,reduceCtorEq,scL,scD,expand,List.replicate,c27l0,jx2])|apply gC_drawW|((first|apply gI_dec|apply gG_dec|apply gPG_dec|apply gI_var|apply gG_var|apply gPG_var)<;>intro _))
   refine callV_flat (by rw[hC];exact f2 _ rfl rfl) ?_
   repeat' (first|(simp (disch:=first|omega|assumption|exact bd (by with_unfolding_all rfl)|exact Or.inl rfl|exact Or.inl trivial|exact okL_map _ (fun _=>rfl) _|(simp only[VVlen]<;>omega)|fail) only[VV0,VV1,VV2,VV3,VV4,VV5,VV6,VV7,VV8,VV9,mkFnV,vargs,slotsL,opdsA,Nat.reduceEqDiff,Nat.reduceLT,Nat.reduceAdd,Nat.reduceBEq,Int.reduceAdd,Int.reduceSub,Int.reduceLT,Int.reduceLE,Int.reduceEq,Int.reduceNeg,↓reduceIte,reduceCtorEq,scL,scD,expand,List.replicate])|apply gC_drawW|((first|apply gI_dec|apply gG_dec|apply gPG_dec|apply gI_var|apply gG_var|apply gPG_var)<;>intro _))
   exact ⟨2,_,_,by decide,.refl _ _,3,rfl,by decide,fun _=>p0,fun _=>p1,fun _=>by trivial,(fun h=>absurd h (by decide)),(fun h=>absurd h (by decide)),rfl,rfl⟩
 ·have p0:=g0 (by decide)
  have p1:=g1 (by decide)
  have p2:=g2 (by decide)
  rw[if_neg p0,if_neg p1,p2] at hR
  cases K2 with
  |some k=>
   rw[show R=(3,↑k,0) from hR]
   unfold lackV at f3
   repeat' (first|(simp (disch:=first|omega|assumption|exact bd (by with_unfolding_all rfl)|exact Or.inl rfl|exact Or.inl trivial|exact okL_map _ (fun _=>rfl) _|(simp only[VVlen]<;>omega)|fail) only[VV0,VV1,VV2,VV3,VV4,VV5,VV6,VV7,VV8,VV9,mkFnV,vargs,slotsL,opdsA,Nat.reduceEqDiff,Nat.reduceLT,Nat.reduceAdd,Nat.reduceBEq,Int.reduceAdd,Int.reduceSub,Int.reduceLT,Int.reduceLE,Int.reduceEq,Int.reduceNeg,↓reduceIte,reduceCtorEq,scL,scD,expand,List.replicate,c27l0,jx3])|apply gC_drawW|((first|apply gI_dec|apply gG_dec|apply gPG_dec|apply gI_var|apply gG_var|apply gPG_var)<;>intro _))
   refine callV_flat (by rw[hC];exact f3 _ rfl rfl) ?_
   repeat' (first|(simp (disch:=first|omega|assumption|exact bd (by with_unfolding_all rfl)|exact Or.inl rfl|exact Or.inl trivial|exact okL_map _ (fun _=>rfl) _|(simp only[VVlen]<;>omega)|fail) only[VV0,VV1,VV2,VV3,VV4,VV5,VV6,VV7,VV8,VV9,mkFnV,vargs,slotsL,opdsA,Nat.reduceEqDiff,Nat.reduceLT,Nat.reduceAdd,Nat.reduceBEq,Int.reduceAdd,Int.reduceSub,Int.reduceLT,Int.reduceLE,Int.reduceEq,Int.reduceNeg,↓reduceIte,reduceCtorEq,scL,scD,expand,List.replicate])|apply gC_drawW|((first|apply gI_dec|apply gG_dec|apply gPG_dec|apply gI_var|apply gG_var|apply gPG_var)<;>intro _))
   exact weak_flat rfl h0 rfl
  |none=>
   unfold lackV at f3
   repeat' (first|(simp (disch:=first|omega|assumption|exact bd (by with_unfolding_all rfl)|exact Or.inl rfl|exact Or.inl trivial|exact okL_map _ (fun _=>rfl) _|(simp only[VVlen]<;>omega)|fail) only[VV0,VV1,VV2,VV3,VV4,VV5,VV6,VV7,VV8,VV9,mkFnV,vargs,slotsL,opdsA,Nat.reduceEqDiff,Nat.reduceLT,Nat.reduceAdd,Nat.reduceBEq,Int.reduceAdd,Int.reduceSub,Int.reduceLT,Int.reduceLE,Int.reduceEq,Int.reduceNeg,↓reduceIte,reduceCtorEq,scL,scD,expand,List.replicate,c27l0,jx3])|apply gC_drawW|((first|apply gI_dec|apply gG_dec|apply gPG_dec|apply gI_var|apply gG_var|apply gPG_var)<;>intro _))
   refine callV_flat (by rw[hC];exact f3 _ rfl rfl) ?_
   repeat' (first|(simp (disch:=first|omega|assumption|exact bd (by with_unfolding_all rfl)|exact Or.inl rfl|exact Or.inl trivial|exact okL_map _ (fun _=>rfl) _|(simp only[VVlen]<;>omega)|fail) only[VV0,VV1,VV2,VV3,VV4,VV5,VV6,VV7,VV8,VV9,mkFnV,vargs,slotsL,opdsA,Nat.reduceEqDiff,Nat.reduceLT,Nat.reduceAdd,Nat.reduceBEq,Int.reduceAdd,Int.reduceSub,Int.reduceLT,Int.reduceLE,Int.reduceEq,Int.reduceNeg,↓reduceIte,reduceCtorEq,scL,scD,expand,List.replicate])|apply gC_drawW|((first|apply gI_dec|apply gG_dec|apply gPG_dec|apply gI_var|apply gG_var|apply gPG_var)<;>intro _))
   exact ⟨1,_,_,by decide,.refl _ _,4,rfl,by decide,fun _=>p0,fun _=>p1,fun _=>p2,fun _=>by trivial,(fun h=>absurd h (by decide)),rfl,rfl⟩
 ·have p0:=g0 (by decide)
  have p1:=g1 (by decide)
  have p2:=g2 (by decide)
  have p3:=g3 (by decide)
  have f4':=f4 p1
  rw[if_neg p0,if_neg p1,p2,p3] at hR
  by_cases q:P.length=D.length∧P.drop (N+1)=D.drop (N+1)
  ·rw[decide_eq_true q] at f4'
   rw[show R=(4,↑N,0) from hR.trans (if_pos q)]
   repeat' (first|(simp (disch:=first|omega|assumption|exact bd (by with_unfolding_all rfl)|exact Or.inl rfl|exact Or.inl trivial|exact okL_map _ (fun _=>rfl) _|(simp only[VVlen]<;>omega)|fail) only[VV0,VV1,VV2,VV3,VV4,VV5,VV6,VV7,VV8,VV9,mkFnV,vargs,slotsL,opdsA,Nat.reduceEqDiff,Nat.reduceLT,Nat.reduceAdd,Nat.reduceBEq,Int.reduceAdd,Int.reduceSub,Int.reduceLT,Int.reduceLE,Int.reduceEq,Int.reduceNeg,↓reduceIte,reduceCtorEq,scL,scD,expand,List.replicate,c27l0,jx4])|apply gC_drawW|((first|apply gI_dec|apply gG_dec|apply gPG_dec|apply gI_var|apply gG_var|apply gPG_var)<;>intro _))
   refine callV_flat (by rw[hC];exact f4' _ rfl rfl rfl) ?_
   repeat' (first|(simp (disch:=first|omega|assumption|exact bd (by with_unfolding_all rfl)|exact Or.inl rfl|exact Or.inl trivial|exact okL_map _ (fun _=>rfl) _|(simp only[VVlen]<;>omega)|fail) only[VV0,VV1,VV2,VV3,VV4,VV5,VV6,VV7,VV8,VV9,mkFnV,vargs,slotsL,opdsA,Nat.reduceEqDiff,Nat.reduceLT,Nat.reduceAdd,Nat.reduceBEq,Int.reduceAdd,Int.reduceSub,Int.reduceLT,Int.reduceLE,Int.reduceEq,Int.reduceNeg,↓reduceIte,reduceCtorEq,scL,scD,expand,List.replicate])|apply gC_drawW|((first|apply gI_dec|apply gG_dec|apply gPG_dec|apply gI_var|apply gG_var|apply gPG_var)<;>intro _))
   exact weak_flat rfl h0 rfl
  ·rw[decide_eq_false q] at f4'
   repeat' (first|(simp (disch:=first|omega|assumption|exact bd (by with_unfolding_all rfl)|exact Or.inl rfl|exact Or.inl trivial|exact okL_map _ (fun _=>rfl) _|(simp only[VVlen]<;>omega)|fail) only[VV0,VV1,VV2,VV3,VV4,VV5,VV6,VV7,VV8,VV9,mkFnV,vargs,slotsL,opdsA,Nat.reduceEqDiff,Nat.reduceLT,Nat.reduceAdd,Nat.reduceBEq,Int.reduceAdd,Int.reduceSub,Int.reduceLT,Int.reduceLE,Int.reduceEq,Int.reduceNeg,↓reduceIte,reduceCtorEq,scL,scD,expand,List.replicate,c27l0,jx4])|apply gC_drawW|((first|apply gI_dec|apply gG_dec|apply gPG_dec|apply gI_var|apply gG_var|apply gPG_var)<;>intro _))
   refine callV_flat (by rw[hC];exact f4' _ rfl rfl rfl) ?_
   repeat' (first|(simp (disch:=first|omega|assumption|exact bd (by with_unfolding_all rfl)|exact Or.inl rfl|exact Or.inl trivial|exact okL_map _ (fun _=>rfl) _|(simp only[VVlen]<;>omega)|fail) only[VV0,VV1,VV2,VV3,VV4,VV5,VV6,VV7,VV8,VV9,mkFnV,vargs,slotsL,opdsA,Nat.reduceEqDiff,Nat.reduceLT,Nat.reduceAdd,Nat.reduceBEq,Int.reduceAdd,Int.reduceSub,Int.reduceLT,Int.reduceLE,Int.reduceEq,Int.reduceNeg,↓reduceIte,reduceCtorEq,scL,scD,expand,List.replicate])|apply gC_drawW|((first|apply gI_dec|apply gG_dec|apply gPG_dec|apply gI_var|apply gG_var|apply gPG_var)<;>intro _))
   exact ⟨0,_,_,by decide,.refl _ _,5,rfl,by decide,fun _=>p0,fun _=>p1,fun _=>p2,fun _=>p3,fun _=>q,rfl,rfl⟩
 ·have p0:=g0 (by decide)
  have p1:=g1 (by decide)
  have p2:=g2 (by decide)
  have p3:=g3 (by decide)
  have p4:=g4 (by decide)
  rw[if_neg p0,if_neg p1,p2,p3] at hR
  rw[show R=(5,↑N,0) from hR.trans (if_neg p4)]
  repeat' (first|(simp (disch:=first|omega|assumption|exact bd (by with_unfolding_all rfl)|exact Or.inl rfl|exact Or.inl trivial|exact okL_map _ (fun _=>rfl) _|(simp only[VVlen]<;>omega)|fail) only[VV0,VV1,VV2,VV3,VV4,VV5,VV6,VV7,VV8,VV9,mkFnV,vargs,slotsL,opdsA,Nat.reduceEqDiff,Nat.reduceLT,Nat.reduceAdd,Nat.reduceBEq,Int.reduceAdd,Int.reduceSub,Int.reduceLT,Int.reduceLE,Int.reduceEq,Int.reduceNeg,↓reduceIte,reduceCtorEq,scL,scD,expand,List.replicate,c27l0])|apply gC_drawW|((first|apply gI_dec|apply gG_dec|apply gPG_dec|apply gI_var|apply gG_var|apply gPG_var)<;>intro _))
  all_goals try (exfalso;omega)
  exact weak_flat rfl h0 rfl
end
set_option maxHeartbeats 200000
theorem cmn_ge {A B:List Ins} {k:Nat} (h1:k≤A.length) (h2:k≤B.length) (h:∀ j,j<k→A[j]! =B[j]!):k≤cmn A B:=by
 rcases Nat.lt_or_ge (cmn A B) k with hl|hl
 ·exact absurd (h _ hl) (cmn_ne A B (by omega) (by omega))
 ·exact hl
def moJ (P:List Ins) (k:Nat) (X:Ins):List Ins:=P.take k++ [X]++P.drop k
def otJ (P:List Ins) (k:Nat) (X:Ins):List Ins:=P.take k++ [X]++P.drop (k+1)
theorem front_at {P Q:List Ins} {k j:Nat} (hk:k≤P.length) (hj:j<k):(P.take k++Q)[j]! =P[j]! :=by
 have e:(P.take k).length=k:=by rw[List.length_take];omega
 rw[getElem!_pos _ j (by rw[List.length_append];omega),List.getElem_append_left (by omega),List.getElem_take,getElem!_pos P j (by omega)]
theorem moJ_len {P:List Ins} {k:Nat} (X:Ins) (hk:k≤P.length):(moJ P k X).length=P.length+1:=by
 unfold moJ;simp;omega
theorem otJ_len {P:List Ins} {k:Nat} (X:Ins) (hk:k<P.length):(otJ P k X).length=P.length:=by
 unfold otJ;simp;omega
theorem wo_len {P:List Ins} {k:Nat} (hk:k<P.length):(wo P k).length=P.length - 1:=by unfold wo;simp;omega
theorem wo_moJ {P:List Ins} {k:Nat} (X:Ins) (hk:k≤P.length):wo (moJ P k X) k=P:=by
 have e:(P.take k).length=k:=by rw[List.length_take];omega
 unfold wo moJ
 rw[List.append_assoc,List.take_append_of_le_length (by omega),List.drop_append]
 rw[List.take_of_length_le (by omega),e,List.drop_eq_nil_of_le (by omega)]
 rw[show k+1 - k=1 by omega]
 simp
theorem moJ_front {P:List Ins} {k:Nat} (X:Ins) (hk:k≤P.length) {j:Nat} (hj:j<k):(moJ P k X)[j]! =P[j]! :=by
 unfold moJ;rw[List.append_assoc];exact front_at hk hj
theorem otJ_front {P:List Ins} {k:Nat} (X:Ins) (hk:k≤P.length) {j:Nat} (hj:j<k):(otJ P k X)[j]! =P[j]! :=by
 unfold otJ;rw[List.append_assoc];exact front_at hk hj
theorem otJ_at {P:List Ins} {k:Nat} (X:Ins) (hk:k<P.length):(otJ P k X)[k]! =X:=by
 have e:(P.take k).length=k:=by rw[List.length_take];omega
 unfold otJ
 rw[List.append_assoc,getElem!_pos _ k (by simp;omega),List.getElem_append_right (by omega)]
 simp[e]
theorem otJ_drop {P:List Ins} {k:Nat} (X:Ins) (hk:k<P.length):(otJ P k X).drop (k+1)=P.drop (k+1):=by
 have e:(P.take k).length=k:=by rw[List.length_take];omega
 unfold otJ
 rw[List.drop_append,List.drop_eq_nil_of_le (by simp;omega)]
 simp[show k+1 - (min k P.length+1)=0 by omega]
theorem otJ_same {P:List Ins} {k:Nat} (hk:k<P.length):otJ P k P[k]! =P:=by
 unfold otJ
 rw[List.append_assoc,List.singleton_append,getElem!_pos P k hk,← List.drop_eq_getElem_cons hk,List.take_append_drop]
theorem wo_all {P:List Ins} {k:Nat} (h:P.all insOK=true):(wo P k).all insOK=true:=by
 rw[List.all_eq_true] at h ⊢
 intro x hx
 unfold wo at hx
 rcases List.mem_append.1 hx with hx|hx
 ·exact h x (List.mem_of_mem_take hx)
 ·exact h x (List.mem_of_mem_drop hx)
theorem moJ_all {P:List Ins} {k:Nat} {X:Ins} (h:P.all insOK=true) (hX:insOK X=true):(moJ P k X).all insOK=true:=by
 rw[List.all_eq_true] at h ⊢
 intro x hx
 unfold moJ at hx
 simp only[List.mem_append,List.mem_singleton] at hx
 rcases hx with (hx|rfl)|hx
 ·exact h x (List.mem_of_mem_take hx)
 ·exact hX
 ·exact h x (List.mem_of_mem_drop hx)
theorem otJ_all {P:List Ins} {k:Nat} {X:Ins} (h:P.all insOK=true) (hX:insOK X=true):(otJ P k X).all insOK=true:=by
 rw[List.all_eq_true] at h ⊢
 intro x hx
 unfold otJ at hx
 simp only[List.mem_append,List.mem_singleton] at hx
 rcases hx with (hx|rfl)|hx
 ·exact h x (List.mem_of_mem_take hx)
 ·exact hX
 ·exact h x (List.mem_of_mem_drop hx)
theorem locF_ok {P D:List Ins} (h1:P.length≤2000) (h2:D.length≤2000) (h3:P.all insOK=true) (h4:D.all insOK=true):locF P D=locT P D (cmn P D) (lackF P D) (lackF D P):=by
 unfold locF
 rw[if_neg (by omega),if_neg (not_not_intro (by rw[List.all_append,h3,h4];rfl))]
theorem lackF_short {A B:List Ins} (h:A.length ≠ B.length+1):lackF A B=none:=by
 unfold lackF
 rw[if_neg fun h'=>h h'.1]
theorem find_less {P:List Ins} {k:Nat} (hk:k<P.length) (hl:P.length≤300) (h:P.all insOK=true):
  (locF P (wo P k)=(1,((P.length - 1:Nat):Int),0)∧P.take (P.length - 1)=wo P k)∨∃ i:Nat,i≤k∧locF P (wo P k)=(2,(i:Int),0)∧wo P i=wo P k:=by
 have hwl:=wo_len hk
 rw[locF_ok (by omega) (by omega) h (wo_all h)]
 have hck:k≤cmn P (wo P k):=cmn_ge (by omega) (by omega) fun j hj=>by unfold wo;exact (front_at (by omega) hj).symm
 have hc:=cmn_le P (wo P k)
 unfold locT
 rw[if_neg fun e=>by have:=congrArg List.length e;omega]
 by_cases hN:cmn P (wo P k)=(wo P k).length
 ·left
  rw[if_pos hN,hN,hwl]
  refine ⟨rfl,eqJ_of_all (by rw[List.length_take];omega) fun j hj=>?_⟩
  rw[hwl] at hj
  rw[getElem!_pos (P.take (P.length - 1)) j (by rw[List.length_take];omega),List.getElem_take,← getElem!_pos P j (by omega)]
  exact cmn_eq P (wo P k) j (by omega)
 ·right
  rw[if_neg hN]
  cases hq:lackF P (wo P k) with
  |none=>exact absurd rfl (lackF_none (by omega) hq hck)
  |some i=>
   obtain ⟨_,_,_,_,h5,h6⟩:=lackF_some hq
   refine ⟨i,?_,rfl,h5⟩
   rcases Nat.lt_or_ge k i with hki|hki
   ·exact absurd rfl (h6 k hki)
   ·exact hki
theorem find_more {P:List Ins} {k:Nat} {X:Ins} (hk:k<P.length) (hl:P.length≤300) (h:P.all insOK=true) (hX:insOK X=true):
  ∃ i:Nat,i≤k∧locF P (moJ P k X)=(3,(i:Int),0)∧wo (moJ P k X) i=P:=by
 have hml:=moJ_len (k:=k) X (by omega:k≤P.length)
 rw[locF_ok (by omega) (by omega) h (moJ_all h hX)]
 have hck:k≤cmn (moJ P k X) P:=cmn_ge (by omega) (by omega) fun j hj=>moJ_front X (by omega) hj
 have hc:=cmn_le P (moJ P k X)
 unfold locT
 rw[if_neg fun e=>by have:=congrArg List.length e;omega,if_neg (by omega),lackF_short (A:=P) (by omega)]
 simp only
 cases hq:lackF (moJ P k X) P with
 |none=>exact absurd (wo_moJ X (by omega)) (lackF_none (by omega) hq hck)
 |some i=>
  obtain ⟨_,_,_,_,h5,h6⟩:=lackF_some hq
  refine ⟨i,?_,rfl,h5⟩
  rcases Nat.lt_or_ge k i with hki|hki
  ·exact absurd (wo_moJ X (by omega)) (h6 k hki)
  ·exact hki
theorem find_same {P:List Ins} {k:Nat} (hk:k<P.length) (hl:P.length≤300) (h:P.all insOK=true):locF P (otJ P k P[k]!)=(0,0,0):=by
 rw[otJ_same hk,locF_ok (by omega) (by omega) h h]
 unfold locT
 rw[if_pos rfl]
theorem find_other {P:List Ins} {k:Nat} {X:Ins} (hk:k<P.length) (hl:P.length≤300) (h:P.all insOK=true) (hX:insOK X=true) (hne:X ≠ P[k]!):locF P (otJ P k X)=(4,(k:Int),0):=by
 have hol:=otJ_len X hk
 rw[locF_ok (by omega) (by omega) h (otJ_all h hX)]
 have hck:cmn P (otJ P k X)=k:=by
  have h1:k≤cmn P (otJ P k X):=cmn_ge (by omega) (by omega) fun j hj=>(otJ_front X (by omega) hj).symm
  rcases Nat.lt_or_ge k (cmn P (otJ P k X)) with h2|h2
  ·have:=cmn_eq P (otJ P k X) k h2
   rw[otJ_at X hk] at this
   exact absurd this.symm hne
  ·omega
 unfold locT
 rw[if_neg fun e=>hne (by have this:P[k]! =(otJ P k X)[k]! :=congrArg (fun l:List Ins=>l[k]!) e;rw[otJ_at X hk] at this;exact this.symm),hck,if_neg (by omega),lackF_short (A:=P) (by omega),lackF_short (A:=otJ P k X) (by omega)]
 simp only
 rw[if_pos ⟨hol.symm,(otJ_drop X hk).symm⟩]
end Go.Proofs.YtgohenjcanfolaaGreatDoor
namespace Go.Itp
theorem gC_sd_weak {C:Ctx} {T:AC} {K:List KF} {P:VPost} {fr fr':VFr} {st st':VSt} {pre:List WOp} {tail:List AOper} {ks:List Nat} (hw:Weak C fr st fr' st') (h:gC C (.seq (.drawW pre tail ks) T) K fr' st' P):gC C (.seq (.drawW pre tail ks) T) K fr st P:=by
 simp only[gC_seq] at h ⊢
 exact gC_drawW_weak hw h
theorem rep_sl3 {w:VW} {s n:Nat} {l:List D} {x:Value} (h:s ≠ 1∨n ≠ 0) (hv:VRep w (.sl s n l) x):VRep w (.sl 3 n l) x:=by
 simp only[VRep,DRep] at hv ⊢
 rcases hv with ⟨a,c,rfl,i,k,r,q⟩|⟨h2,rfl,rfl,rfl|⟨h3,_⟩⟩
 ·exact .inl ⟨a,c,rfl,i,k,r,fun h=>by cases h⟩
 ·exact .inr ⟨by omega,rfl,rfl,.inl rfl⟩
 ·rcases h with h|h
  ·exact absurd h3 h
  ·exact absurd rfl h
theorem VSpec.arg2 {E:Env} {f:FuncId} {a:V} {s n:Nat} {l:List D} {v:V} {st1:VSt} (h:VSpec E f [a,.sl 3 n l] v st1) (hs:s ≠ 1∨n ≠ 0):VSpec E f [a,.sl s n l] v st1:=fun s' F xsI h1 h2 h3=>h s' F xsI h1 h2 (by
 simp only[VRepL] at h3 ⊢
 obtain ⟨x,xs,rfl,e1,y,ys,rfl,e2,e3⟩:=h3
 exact ⟨x,_,rfl,e1,y,_,rfl,rep_sl3 hs e2,e3⟩)
end Go.Itp
namespace Go.Proofs.YtgohenjcanfolaaGreatDoor
open Go Go.Itp
set_option maxRecDepth 100000
set_option maxHeartbeats 2000000
set_option linter.unusedSimpArgs false
set_option linter.unusedVariables false
theorem weak_m4 {C:Ctx} (h0:C.w0.nx=0) {A B E F:V} (hA:∀ ρ,vren ρ A=A) (hB:∀ ρ,vren ρ B=B) (hE:∀ ρ,vren ρ E=E) (hF:∀ ρ,vren ρ F=F) {t N nx:Nat} {L:List D} (hl:L.length=N*7) {r1 r2 bx:Itp.Obj} (hb:∀ ρ,renO ρ bx=bx):
  Weak C [(0,A),(1,B),(5,.ptr 0 0),(7,E),(9,F),(10,.gr 2 4 N)] ⟨[(4,.gro t 7 false L),(2,r2),(1,r1),(0,bx)],nx,0⟩ [(0,A),(1,B),(5,.ptr 0 0),(7,E),(9,F),(10,.sl 3 N L)] ⟨[(0,bx)],1,0⟩:=by
 refine Weak.trans (weak_snap (t:=10) (v:= .gr 2 4 N) (v':= .sl 2 N L) rfl (snap_gr7 rfl hl) rfl) (Weak.trans (weak_slot (t:=10) (v:= .sl 2 N L) (v':= .sl 3 N L) rfl (same_sl3 (.inl (by decide)))) (weak_to [(0,0)] 1 h0 rfl rfl ?_ ?_))
 ·show renF [(0,0)] [(0,A),(1,B),(5,.ptr 0 0),(7,E),(9,F),(10,.sl 3 N L)]=_
  simp only[renF,hA,hB,hE,hF]
  rfl
 ·show (⟨[(0,renO [(0,0)] bx)],1,0⟩:VSt)=_
  rw[hb]
theorem weak_m5 {C:Ctx} (h0:C.w0.nx=0) {A B E F:V} (hA:∀ ρ,vren ρ A=A) (hB:∀ ρ,vren ρ B=B) (hE:∀ ρ,vren ρ E=E) (hF:∀ ρ,vren ρ F=F) {t N nx:Nat} {L:List D} (hl:L.length=N*7) {r1 r2 bx:Itp.Obj} (hb:∀ ρ,renO ρ bx=bx):
  Weak C [(0,A),(1,B),(5,.ptr 0 0),(7,E),(9,F),(10,.gr 2 5 N)] ⟨[(5,.gro t 7 false L),(3,r2),(1,r1),(0,bx)],nx,0⟩ [(0,A),(1,B),(5,.ptr 0 0),(7,E),(9,F),(10,.sl 3 N L)] ⟨[(0,bx)],1,0⟩:=by
 refine Weak.trans (weak_snap (t:=10) (v:= .gr 2 5 N) (v':= .sl 2 N L) rfl (snap_gr7 rfl hl) rfl) (Weak.trans (weak_slot (t:=10) (v:= .sl 2 N L) (v':= .sl 3 N L) rfl (same_sl3 (.inl (by decide)))) (weak_to [(0,0)] 1 h0 rfl rfl ?_ ?_))
 ·show renF [(0,0)] [(0,A),(1,B),(5,.ptr 0 0),(7,E),(9,F),(10,.sl 3 N L)]=_
  simp only[renF,hA,hB,hE,hF]
  rfl
 ·show (⟨[(0,renO [(0,0)] bx)],1,0⟩:VSt)=_
  rw[hb]
def c5F:AC:=c5.code
section
variable (w:World) (n:Nat)
theorem more_g {C:Ctx} (hC:C.E=EN w n) (h0:C.w0.nx=0) (P:List Ins) (k:Nat) (hk:k<P.length) (hP:P.length≤300) (o:Nat) (r:Bool) (b:Nat) (p t c q:Int) (NW:Nat) (LW:List D) {T:AC} {pre:List WOp} {tail:List AOper} {ks:List Nat} {K:List KF} {Q:VPost}
  (hq:gC C (.seq (.drawW pre tail ks) T) K [(0,jS 3 P),(1,iN k),(5,.ptr 0 0),(7,.sc (.bool true)),(9,.sl 3 NW LW),(10,jS 3 (moJ P k ⟨o,r,b,p,t,c,q⟩))] ⟨[(0,insB o r b p t c q)],1,0⟩ Q):
  gC C (.seq (AC.l (AC.r (AC.r (AC.r (AC.r (AC.r c5F)))))) (.seq (.drawW pre tail ks) T)) K [(0,jS 3 P),(1,iN k),(5,.ptr 0 0),(7,.sc (.bool true)),(9,.sl 3 NW LW)] ⟨[(0,insB o r b p t c q)],1,0⟩ Q:=by
 obtain ⟨T2,hT2⟩:∃ T2,T2=AC.seq (.drawW pre tail ks) T:=⟨_,rfl⟩
 rw[← hT2]
 have hil:=insD_len P
 have hml:=moJ_len (k:=k) ⟨o,r,b,p,t,c,q⟩ (Nat.le_of_lt hk)
 have e1:=partD_front P k (by omega)
 have e2:=partD_back P k (by omega)
 have l1:(P.take k).length=k:=by rw[List.length_take];omega
 have l2:(P.drop k).length=P.length - k:=List.length_drop
 have q1:=insD_len (P.take k)
 have q2:=insD_len (P.drop k)
 have o1:=insD_ok (P.take k)
 have o2:=insD_ok (P.drop k)
 have hm:insD (moJ P k ⟨o,r,b,p,t,c,q⟩)=insD (P.take k)++ [.sc (.int .u8 o),.sc (.bool r),.sc (.int .u8 b),.sc (.int .i64 p),.sc (.int .i64 t),.sc (.int .i64 c),.sc (.int .i64 q)]++insD (P.drop k):=by
  unfold moJ;rw[insD_app,insD_app];rfl
 have hfl:(insD (moJ P k ⟨o,r,b,p,t,c,q⟩)).length=(P.length+1)*7:=by rw[insD_len,hml]
 unfold jS at hq ⊢
 rw[hml] at hq
 rw[l1] at q1
 rw[l2] at q2
 by_cases c1:k=0
 ·subst c1
  have t1:insD (P.take 0)= []:=rfl
  rw[t1,List.nil_append] at hm
  rw[t1] at e1 o1
  rw[hm] at hq hfl
  generalize insD (P.drop 0)=Z at*
  repeat' (first|(simp (disch:=first|omega|assumption|exact bd (by with_unfolding_all rfl)|exact Or.inl rfl|exact Or.inl trivial|exact okL_map _ (fun _=>rfl) _|(simp only[VVlen]<;>omega)|fail) only[VV0,VV1,VV2,VV3,VV4,VV5,VV6,VV7,VV8,VV9,mkFnV,vargs,slotsL,opdsA,Nat.reduceEqDiff,Nat.reduceLT,Nat.reduceAdd,Nat.reduceBEq,Int.reduceAdd,Int.reduceSub,Int.reduceLT,Int.reduceLE,Int.reduceEq,Int.reduceNeg,↓reduceIte,reduceCtorEq,scL,scD,expand,List.replicate,c5F,c5,AC.l,AC.r,e1,e2,vd_app,dAppY_rsl,dAppR_row,dAppR_row0,dAppX_gr,dApp_gr,dAppO_row,dAppX_ref0,dAppRN_ref,dAppRNO_row,row1V_ins,Nat.zero_mul,Nat.sub_zero])|apply gC_drawW|((first|apply gI_dec|apply gG_dec|apply gPG_dec|apply gI_var|apply gG_var|apply gPG_var)<;>intro _))
  rw[hT2,Nat.add_comm 1 P.length]
  exact gC_sd_weak (weak_m4 h0 (fun _=>rfl) (fun _=>rfl) (fun _=>rfl) (fun _=>rfl) hfl (fun _=>rfl)) hq
 ·have hkl:(insD (P.take k)++ [D.sc (.int .u8 o),.sc (.bool r),.sc (.int .u8 b),.sc (.int .i64 p),.sc (.int .i64 t),.sc (.int .i64 c),.sc (.int .i64 q)]).length=(k+1)*7:=by rw[List.length_append,q1,Nat.add_mul];rfl
  rw[hm] at hq hfl
  generalize insD (P.take k)=Y at*
  generalize insD (P.drop k)=Z at*
  obtain ⟨M,hM⟩:∃ M,M=P.length - k:=⟨_,rfl⟩
  rw[← hM] at q2
  repeat' (first|(simp (disch:=first|omega|assumption|exact bd (by with_unfolding_all rfl)|exact Or.inl rfl|exact Or.inl trivial|exact okL_map _ (fun _=>rfl) _|(simp only[VVlen]<;>omega)|fail) only[VV0,VV1,VV2,VV3,VV4,VV5,VV6,VV7,VV8,VV9,mkFnV,vargs,slotsL,opdsA,Nat.reduceEqDiff,Nat.reduceLT,Nat.reduceAdd,Nat.reduceBEq,Int.reduceAdd,Int.reduceSub,Int.reduceLT,Int.reduceLE,Int.reduceEq,Int.reduceNeg,↓reduceIte,reduceCtorEq,scL,scD,expand,List.replicate,c5F,c5,AC.l,AC.r,e1,e2,vd_app,dAppY_rsl,dAppR_row,dAppR_row0,dAppX_gr,dApp_gr,dAppO_row,dAppX_ref0,dAppRN_ref,dAppRNO_row,row1V_ins,← hM])|apply gC_drawW|((first|apply gI_dec|apply gG_dec|apply gPG_dec|apply gI_var|apply gG_var|apply gPG_var)<;>intro _))
  rw[hT2,show k+1+M=P.length+1 by omega]
  exact gC_sd_weak (weak_m5 h0 (fun _=>rfl) (fun _=>rfl) (fun _=>rfl) (fun _=>rfl) hfl (fun _=>rfl)) hq
end
end Go.Proofs.YtgohenjcanfolaaGreatDoor
namespace Go.Proofs.YtgohenjcanfolaaGreatDoor
open Go Go.Itp
set_option maxRecDepth 100000
set_option maxHeartbeats 2000000
set_option linter.unusedSimpArgs false
set_option linter.unusedVariables false
section
variable (w:World) (n:Nat)
theorem other_g {C:Ctx} (hC:C.E=EN w n) (h0:C.w0.nx=0) (P:List Ins) (k:Nat) (hk:k<P.length) (hP:P.length≤300) (o:Nat) (r:Bool) (b:Nat) (p t c q:Int) (W M:V) {T:AC} {K:List KF} {Q:VPost}
  (hq:∀ (u nx:Nat) (H:VHp),aget H 0=some (insB o r b p t c q)→aget H u=some (.gro 54 7 false (insD (otJ P k ⟨o,r,b,p,t,c,q⟩)))→
   gC C T K [(0,jS 3 P),(1,iN k),(5,.ptr 0 0),(7,.sc (.bool true)),(9,W),(10,M),(11,.gr 2 u P.length)] ⟨H,nx,0⟩ Q):
  gC C (.seq (AC.l (AC.r (AC.r (AC.r (AC.r (AC.r (AC.r c5F))))))) T) K [(0,jS 3 P),(1,iN k),(5,.ptr 0 0),(7,.sc (.bool true)),(9,W),(10,M)] ⟨[(0,insB o r b p t c q)],1,0⟩ Q:=by
 have hil:=insD_len P
 have hml:=otJ_len (k:=k) ⟨o,r,b,p,t,c,q⟩ hk
 have e1:=partD_front P k (by omega)
 have e2:=partD_back P (k+1) (by omega)
 have l1:(P.take k).length=k:=by rw[List.length_take];omega
 have l2:(P.drop (k+1)).length=P.length - (k+1):=List.length_drop
 have q1:=insD_len (P.take k)
 have q2:=insD_len (P.drop (k+1))
 have o1:=insD_ok (P.take k)
 have o2:=insD_ok (P.drop (k+1))
 have hz:((k:Int)+1).toNat=k+1:=by omega
 have hm:insD (otJ P k ⟨o,r,b,p,t,c,q⟩)=insD (P.take k)++ [.sc (.int .u8 o),.sc (.bool r),.sc (.int .u8 b),.sc (.int .i64 p),.sc (.int .i64 t),.sc (.int .i64 c),.sc (.int .i64 q)]++insD (P.drop (k+1)):=by
  unfold otJ;rw[insD_app,insD_app];rfl
 unfold jS at hq ⊢
 rw[l1] at q1
 rw[l2] at q2
 by_cases c1:k=0
 ·subst c1
  have t1:insD (P.take 0)= []:=rfl
  rw[t1,List.nil_append] at hm
  rw[t1] at e1 o1
  rw[hm] at hq
  by_cases c2:P.length=1
  ·have t2:P.drop (0+1)= []:=List.drop_eq_nil_of_le (by omega)
   rw[t2,insD_nil] at e2 hq
   rw[c2] at e2 hq ⊢
   repeat' (first|(simp (disch:=first|omega|assumption|exact bd (by with_unfolding_all rfl)|exact Or.inl rfl|exact Or.inl trivial|exact okL_map _ (fun _=>rfl) _|(simp only[VVlen]<;>omega)|fail) only[VV0,VV1,VV2,VV3,VV4,VV5,VV6,VV7,VV8,VV9,mkFnV,vargs,slotsL,opdsA,Nat.reduceEqDiff,Nat.reduceLT,Nat.reduceAdd,Nat.reduceBEq,Int.reduceAdd,Int.reduceSub,Int.reduceLT,Int.reduceLE,Int.reduceEq,Int.reduceNeg,↓reduceIte,reduceCtorEq,scL,scD,expand,List.replicate,c5F,c5,AC.l,AC.r,e1,e2,hz,vd_app,dAppY_rsl,dAppR_row,dAppR_row0,dAppX_gr,dApp_gr,dAppO_row,dAppX_ref0,dAppRN_ref,dAppRNO_row,row1V_ins,Nat.zero_mul,Nat.sub_zero,Nat.sub_self,Nat.one_mul])|apply gC_drawW|((first|apply gI_dec|apply gG_dec|apply gPG_dec|apply gI_var|apply gG_var|apply gPG_var)<;>intro _))
   exact hq _ _ _ rfl rfl
  ·obtain ⟨N,hN⟩:∃ N,N=P.length - (0+1):=⟨_,rfl⟩
   rw[← hN] at q2
   have hN0:N ≠ 0:=by omega
   have hNP:1+N=P.length:=by omega
   generalize insD (P.drop (0+1))=Z at*
   repeat' (first|(simp (disch:=first|omega|assumption|exact bd (by with_unfolding_all rfl)|exact Or.inl rfl|exact Or.inl trivial|exact okL_map _ (fun _=>rfl) _|(simp only[VVlen]<;>omega)|fail) only[VV0,VV1,VV2,VV3,VV4,VV5,VV6,VV7,VV8,VV9,mkFnV,vargs,slotsL,opdsA,Nat.reduceEqDiff,Nat.reduceLT,Nat.reduceAdd,Nat.reduceBEq,Int.reduceAdd,Int.reduceSub,Int.reduceLT,Int.reduceLE,Int.reduceEq,Int.reduceNeg,↓reduceIte,reduceCtorEq,scL,scD,expand,List.replicate,c5F,c5,AC.l,AC.r,e1,e2,hz,vd_app,dAppY_rsl,dAppR_row,dAppR_row0,dAppX_gr,dApp_gr,dAppO_row,dAppX_ref0,dAppRN_ref,dAppRNO_row,row1V_ins,Nat.zero_mul,Nat.sub_zero,← hN,hNP])|apply gC_drawW|((first|apply gI_dec|apply gG_dec|apply gPG_dec|apply gI_var|apply gG_var|apply gPG_var)<;>intro _))
   exact hq _ _ _ rfl rfl
 ·have hkl:(insD (P.take k)++ [D.sc (.int .u8 o),.sc (.bool r),.sc (.int .u8 b),.sc (.int .i64 p),.sc (.int .i64 t),.sc (.int .i64 c),.sc (.int .i64 q)]).length=(k+1)*7:=by rw[List.length_append,q1,Nat.add_mul];rfl
  rw[hm] at hq
  by_cases c2:k+1=P.length
  ·have t2:P.drop (k+1)= []:=List.drop_eq_nil_of_le (by omega)
   rw[t2,insD_nil,List.append_nil] at hq
   rw[t2,insD_nil] at e2
   generalize insD (P.take k)=Y at*
   have hs:P.length - (k+1)=0:=by omega
   repeat' (first|(simp (disch:=first|omega|assumption|exact bd (by with_unfolding_all rfl)|exact Or.inl rfl|exact Or.inl trivial|exact okL_map _ (fun _=>rfl) _|(simp only[VVlen]<;>omega)|fail) only[VV0,VV1,VV2,VV3,VV4,VV5,VV6,VV7,VV8,VV9,mkFnV,vargs,slotsL,opdsA,Nat.reduceEqDiff,Nat.reduceLT,Nat.reduceAdd,Nat.reduceBEq,Int.reduceAdd,Int.reduceSub,Int.reduceLT,Int.reduceLE,Int.reduceEq,Int.reduceNeg,↓reduceIte,reduceCtorEq,scL,scD,expand,List.replicate,c5F,c5,AC.l,AC.r,e1,e2,hz,hs,vd_app,dAppY_rsl,dAppR_row,dAppR_row0,dAppX_gr,dApp_gr,dAppO_row,dAppX_ref0,dAppRN_ref,dAppRNO_row,row1V_ins])|apply gC_drawW|((first|apply gI_dec|apply gG_dec|apply gPG_dec|apply gI_var|apply gG_var|apply gPG_var)<;>intro _))
   rw[c2]
   exact hq _ _ _ rfl rfl
  ·generalize insD (P.take k)=Y at*
   generalize insD (P.drop (k+1))=Z at*
   obtain ⟨N,hN⟩:∃ N,N=P.length - (k+1):=⟨_,rfl⟩
   rw[← hN] at q2
   have hN0:N ≠ 0:=by omega
   have hNP:k+1+N=P.length:=by omega
   repeat' (first|(simp (disch:=first|omega|assumption|exact bd (by with_unfolding_all rfl)|exact Or.inl rfl|exact Or.inl trivial|exact okL_map _ (fun _=>rfl) _|(simp only[VVlen]<;>omega)|fail) only[VV0,VV1,VV2,VV3,VV4,VV5,VV6,VV7,VV8,VV9,mkFnV,vargs,slotsL,opdsA,Nat.reduceEqDiff,Nat.reduceLT,Nat.reduceAdd,Nat.reduceBEq,Int.reduceAdd,Int.reduceSub,Int.reduceLT,Int.reduceLE,Int.reduceEq,Int.reduceNeg,↓reduceIte,reduceCtorEq,scL,scD,expand,List.replicate,c5F,c5,AC.l,AC.r,e1,e2,hz,vd_app,dAppY_rsl,dAppR_row,dAppR_row0,dAppX_gr,dApp_gr,dAppO_row,dAppX_ref0,dAppRN_ref,dAppRNO_row,row1V_ins,← hN,hNP])|apply gC_drawW|((first|apply gI_dec|apply gG_dec|apply gPG_dec|apply gI_var|apply gG_var|apply gPG_var)<;>intro _))
   exact hq _ _ _ rfl rfl
end
set_option maxHeartbeats 4000000
section
variable (w:World)
theorem find_end {C:Ctx} (hC:C.E=EN w 12) (h0:C.w0.nx=0) (P:List Ins) (k:Nat) (hk:k<P.length) (hP:P.length≤300) (o:Nat) (r:Bool) (b:Nat) (p t c q:Int) (hA:P.all insOK=true) (hX:insOK ⟨o,r,b,p,t,c,q⟩=true) (u nx:Nat) (H:VHp)
  (h1:aget H 0=some (insB o r b p t c q)) (h2:aget H u=some (.gro 54 7 false (insD (otJ P k ⟨o,r,b,p,t,c,q⟩)))) (A:VFr) (hAf:A= [(0,jS 3 P),(1,iN k),(5,.ptr 0 0),(7,.sc (.bool true)),(9,jS 3 (wo P k)),(10,jS 3 (moJ P k ⟨o,r,b,p,t,c,q⟩)),(11,.gr 2 u P.length)]):
  gC C (AC.r (AC.r (AC.r (AC.r (AC.r (AC.r (AC.r c5F))))))) [] A ⟨H,nx,0⟩ (RetV C c5.res (.sc (.bool true)) ⟨[],0,0⟩):=by
 subst hAf
 obtain ⟨X,hXe⟩:∃ X:Ins,X=⟨o,r,b,p,t,c,q⟩:=⟨_,rfl⟩
 have hml:=moJ_len (k:=k) X (Nat.le_of_lt hk)
 have hol:=otJ_len X hk
 have hwl:=wo_len hk
 have s3:=locate_p w 6 P (otJ P k X) (by omega) (by omega)
 have s2:=locate_p w 6 P (moJ P k X) (by omega) (by omega)
 have s1:=locate_p w 6 P (wo P k) (by omega) (by omega)
 have s3':VSpecO (EN w 12) 27 ⟨H,nx,0⟩ [jS 3 P,.gr 2 u P.length] (locV (locF P (otJ P k X))):=by
  have e:VSpec (EN w 12) 27 [jS 3 P,.sl 2 (otJ P k X).length (insD (otJ P k X))] (locV (locF P (otJ P k X))) ⟨[],0,0⟩:=VSpec.arg2 s3 (.inl (by decide))
  rw[hol] at e
  refine e.flat rfl ?_
  have e2:=snap_gr7 (n:=P.length) h2 (by rw[insD_len,otJ_len _ hk])
  rw[← hXe] at e2
  show (snapV H (jS 3 P)).bind _=_
  rw[show snapV H (jS 3 P)=some (jS 3 P) from rfl]
  show (some (jS 3 P)).bind _=_
  simp only[Option.bind_some,snapL,e2,Option.map_some]
 obtain ⟨m,hm,b1,b2⟩:=find_more (X:=X) hk hP hA (by rw[hXe];exact hX)
 rw[b1] at s2
 have t2:=without_p w 11 (moJ P k X) m (by omega) (by omega)
 have j2:=jsame_p w 11 3 3 (wo (moJ P k X) m) P (by rw[b2];omega) (by omega)
 rw[b2,decide_eq_true rfl] at j2
 rw[b2] at t2
 have heq:eqAggV false [(0,0),(1,2),(2,0),(3,0),(4,0),(5,0),(6,0)] (.agg (insL o r b p t c q)) (insV P[k]!)=some (.sc (.bool (decide (X=P[k]!)))):=by rw[hXe];exact eqAgg_ins false ⟨o,r,b,p,t,c,q⟩ P[k]!
 have hag:=insD_agg P k hk
 obtain ⟨R3,hR3⟩:∃ R3:Nat × Int × Int,locF P (otJ P k X)=R3∧(if X=P[k]! then R3=(0,0,0) else R3=(4,(k:Int),0)):=by
  refine ⟨_,rfl,?_⟩
  split
  ·rename_i hx;rw[hx];exact find_same hk hP hA
  ·rename_i hx;exact find_other hk hP hA (by rw[hXe];exact hX) hx
 obtain ⟨hR3,hR4⟩:=hR3
 rw[hR3] at s3'
 rw[← hXe] at h2 ⊢
 have hzz:((P.length:Int) - 1).toNat=P.length - 1:=by omega
 have hxs:∀ D1:VFr,D1=D1:=fun _=>rfl
 rcases find_less hk hP hA with ⟨a1,a2⟩|⟨i,hi,a1,a2⟩
 ·rw[a1] at s1
  have hpd:=partD_front P (P.length - 1) (by omega)
  have j1:=jsame_p w 11 3 3 (P.take (P.length - 1)) (wo P k) (by rw[List.length_take];omega) (by omega)
  rw[a2,decide_eq_true rfl] at j1
  rw[a2] at hpd
  simp only[jS,hwl,hml] at s1 s2 t2 j2 j1 ⊢
  simp only[locV] at s1 s2 s3'
  by_cases hx:X=P[k]!
  ·rw[if_pos hx] at hR4
   rw[hR4] at s3'
   rw[decide_eq_true hx] at heq
   repeat' (first|(simp (disch:=first|omega|assumption|exact bd (by with_unfolding_all rfl)|exact Or.inl rfl|exact Or.inl trivial|exact okL_map _ (fun _=>rfl) _|(simp only[VVlen]<;>omega)|fail) only[VV0,VV1,VV2,VV3,VV4,VV5,VV6,VV7,VV8,VV9,mkFnV,vargs,slotsL,opdsA,Nat.reduceEqDiff,Nat.reduceLT,Nat.reduceAdd,Nat.reduceBEq,Int.reduceAdd,Int.reduceSub,Int.reduceLT,Int.reduceLE,Int.reduceEq,Int.reduceNeg,↓reduceIte,reduceCtorEq,scL,scD,expand,List.replicate,c5F,c5,AC.r])|apply gC_drawW|((first|apply gI_dec|apply gG_dec|apply gPG_dec|apply gI_var|apply gG_var|apply gPG_var)<;>intro _))
   refine callV_flat (by rw[hC];exact s1.flat rfl rfl) ?_
   repeat' (first|(simp (disch:=first|omega|assumption|exact bd (by with_unfolding_all rfl)|exact Or.inl rfl|exact Or.inl trivial|exact okL_map _ (fun _=>rfl) _|(simp only[VVlen]<;>omega)|fail) only[VV0,VV1,VV2,VV3,VV4,VV5,VV6,VV7,VV8,VV9,mkFnV,vargs,slotsL,opdsA,Nat.reduceEqDiff,Nat.reduceLT,Nat.reduceAdd,Nat.reduceBEq,Int.reduceAdd,Int.reduceSub,Int.reduceLT,Int.reduceLE,Int.reduceEq,Int.reduceNeg,↓reduceIte,reduceCtorEq,scL,scD,expand,List.replicate])|apply gC_drawW|((first|apply gI_dec|apply gG_dec|apply gPG_dec|apply gI_var|apply gG_var|apply gPG_var)<;>intro _))
   refine callV_flat (by rw[hC];exact s2.flat rfl rfl) ?_
   repeat' (first|(simp (disch:=first|omega|assumption|exact bd (by with_unfolding_all rfl)|exact Or.inl rfl|exact Or.inl trivial|exact okL_map _ (fun _=>rfl) _|(simp only[VVlen]<;>omega)|fail) only[VV0,VV1,VV2,VV3,VV4,VV5,VV6,VV7,VV8,VV9,mkFnV,vargs,slotsL,opdsA,Nat.reduceEqDiff,Nat.reduceLT,Nat.reduceAdd,Nat.reduceBEq,Int.reduceAdd,Int.reduceSub,Int.reduceLT,Int.reduceLE,Int.reduceEq,Int.reduceNeg,↓reduceIte,reduceCtorEq,scL,scD,expand,List.replicate])|apply gC_drawW|((first|apply gI_dec|apply gG_dec|apply gPG_dec|apply gI_var|apply gG_var|apply gPG_var)<;>intro _))
   refine callV_flat (by rw[hC];exact s3') ?_
   repeat' (first|(simp (disch:=first|omega|assumption|exact bd (by with_unfolding_all rfl)|exact Or.inl rfl|exact Or.inl trivial|exact okL_map _ (fun _=>rfl) _|(simp only[VVlen]<;>omega)|fail) only[VV0,VV1,VV2,VV3,VV4,VV5,VV6,VV7,VV8,VV9,mkFnV,vargs,slotsL,opdsA,Nat.reduceEqDiff,Nat.reduceLT,Nat.reduceAdd,Nat.reduceBEq,Int.reduceAdd,Int.reduceSub,Int.reduceLT,Int.reduceLE,Int.reduceEq,Int.reduceNeg,↓reduceIte,reduceCtorEq,scL,scD,expand,List.replicate,hzz,hpd])|apply gC_drawW|((first|apply gI_dec|apply gG_dec|apply gPG_dec|apply gI_var|apply gG_var|apply gPG_var)<;>intro _))
   refine callV_flat (by rw[hC];exact j1.flat rfl rfl) ?_
   repeat' (first|(simp (disch:=first|omega|assumption|exact bd (by with_unfolding_all rfl)|exact Or.inl rfl|exact Or.inl trivial|exact okL_map _ (fun _=>rfl) _|(simp only[VVlen]<;>omega)|fail) only[VV0,VV1,VV2,VV3,VV4,VV5,VV6,VV7,VV8,VV9,mkFnV,vargs,slotsL,opdsA,Nat.reduceEqDiff,Nat.reduceLT,Nat.reduceAdd,Nat.reduceBEq,Int.reduceAdd,Int.reduceSub,Int.reduceLT,Int.reduceLE,Int.reduceEq,Int.reduceNeg,↓reduceIte,reduceCtorEq,scL,scD,expand,List.replicate])|apply gC_drawW|((first|apply gI_dec|apply gG_dec|apply gPG_dec|apply gI_var|apply gG_var|apply gPG_var)<;>intro _))
   refine callV_fin (by rw[hC];exact t2) rfl rfl (fun _=>rfl) ?_
   repeat' (first|(simp (disch:=first|omega|assumption|exact bd (by with_unfolding_all rfl)|exact Or.inl rfl|exact Or.inl trivial|exact okL_map _ (fun _=>rfl) _|(simp only[VVlen]<;>omega)|fail) only[VV0,VV1,VV2,VV3,VV4,VV5,VV6,VV7,VV8,VV9,mkFnV,vargs,slotsL,opdsA,Nat.reduceEqDiff,Nat.reduceLT,Nat.reduceAdd,Nat.reduceBEq,Int.reduceAdd,Int.reduceSub,Int.reduceLT,Int.reduceLE,Int.reduceEq,Int.reduceNeg,↓reduceIte,reduceCtorEq,scL,scD,expand,List.replicate])|apply gC_drawW|((first|apply gI_dec|apply gG_dec|apply gPG_dec|apply gI_var|apply gG_var|apply gPG_var)<;>intro _))
   refine callV_flat (by rw[hC];exact j2.flat rfl rfl) ?_
   repeat' (first|(simp (disch:=first|omega|assumption|exact bd (by with_unfolding_all rfl)|exact Or.inl rfl|exact Or.inl trivial|exact okL_map _ (fun _=>rfl) _|(simp only[VVlen]<;>omega)|fail) only[VV0,VV1,VV2,VV3,VV4,VV5,VV6,VV7,VV8,VV9,mkFnV,vargs,slotsL,opdsA,Nat.reduceEqDiff,Nat.reduceLT,Nat.reduceAdd,Nat.reduceBEq,Int.reduceAdd,Int.reduceSub,Int.reduceLT,Int.reduceLE,Int.reduceEq,Int.reduceNeg,↓reduceIte,reduceCtorEq,scL,scD,expand,List.replicate,h1,hag,heq])|apply gC_drawW|((first|apply gI_dec|apply gG_dec|apply gPG_dec|apply gI_var|apply gG_var|apply gPG_var)<;>intro _))
   exact weak_flat rfl h0 rfl
  ·rw[if_neg hx] at hR4
   rw[hR4] at s3'
   rw[decide_eq_false hx] at heq
   repeat' (first|(simp (disch:=first|omega|assumption|exact bd (by with_unfolding_all rfl)|exact Or.inl rfl|exact Or.inl trivial|exact okL_map _ (fun _=>rfl) _|(simp only[VVlen]<;>omega)|fail) only[VV0,VV1,VV2,VV3,VV4,VV5,VV6,VV7,VV8,VV9,mkFnV,vargs,slotsL,opdsA,Nat.reduceEqDiff,Nat.reduceLT,Nat.reduceAdd,Nat.reduceBEq,Int.reduceAdd,Int.reduceSub,Int.reduceLT,Int.reduceLE,Int.reduceEq,Int.reduceNeg,↓reduceIte,reduceCtorEq,scL,scD,expand,List.replicate,c5F,c5,AC.r])|apply gC_drawW|((first|apply gI_dec|apply gG_dec|apply gPG_dec|apply gI_var|apply gG_var|apply gPG_var)<;>intro _))
   refine callV_flat (by rw[hC];exact s1.flat rfl rfl) ?_
   repeat' (first|(simp (disch:=first|omega|assumption|exact bd (by with_unfolding_all rfl)|exact Or.inl rfl|exact Or.inl trivial|exact okL_map _ (fun _=>rfl) _|(simp only[VVlen]<;>omega)|fail) only[VV0,VV1,VV2,VV3,VV4,VV5,VV6,VV7,VV8,VV9,mkFnV,vargs,slotsL,opdsA,Nat.reduceEqDiff,Nat.reduceLT,Nat.reduceAdd,Nat.reduceBEq,Int.reduceAdd,Int.reduceSub,Int.reduceLT,Int.reduceLE,Int.reduceEq,Int.reduceNeg,↓reduceIte,reduceCtorEq,scL,scD,expand,List.replicate])|apply gC_drawW|((first|apply gI_dec|apply gG_dec|apply gPG_dec|apply gI_var|apply gG_var|apply gPG_var)<;>intro _))
   refine callV_flat (by rw[hC];exact s2.flat rfl rfl) ?_
   repeat' (first|(simp (disch:=first|omega|assumption|exact bd (by with_unfolding_all rfl)|exact Or.inl rfl|exact Or.inl trivial|exact okL_map _ (fun _=>rfl) _|(simp only[VVlen]<;>omega)|fail) only[VV0,VV1,VV2,VV3,VV4,VV5,VV6,VV7,VV8,VV9,mkFnV,vargs,slotsL,opdsA,Nat.reduceEqDiff,Nat.reduceLT,Nat.reduceAdd,Nat.reduceBEq,Int.reduceAdd,Int.reduceSub,Int.reduceLT,Int.reduceLE,Int.reduceEq,Int.reduceNeg,↓reduceIte,reduceCtorEq,scL,scD,expand,List.replicate])|apply gC_drawW|((first|apply gI_dec|apply gG_dec|apply gPG_dec|apply gI_var|apply gG_var|apply gPG_var)<;>intro _))
   refine callV_flat (by rw[hC];exact s3') ?_
   repeat' (first|(simp (disch:=first|omega|assumption|exact bd (by with_unfolding_all rfl)|exact Or.inl rfl|exact Or.inl trivial|exact okL_map _ (fun _=>rfl) _|(simp only[VVlen]<;>omega)|fail) only[VV0,VV1,VV2,VV3,VV4,VV5,VV6,VV7,VV8,VV9,mkFnV,vargs,slotsL,opdsA,Nat.reduceEqDiff,Nat.reduceLT,Nat.reduceAdd,Nat.reduceBEq,Int.reduceAdd,Int.reduceSub,Int.reduceLT,Int.reduceLE,Int.reduceEq,Int.reduceNeg,↓reduceIte,reduceCtorEq,scL,scD,expand,List.replicate,hzz,hpd])|apply gC_drawW|((first|apply gI_dec|apply gG_dec|apply gPG_dec|apply gI_var|apply gG_var|apply gPG_var)<;>intro _))
   refine callV_flat (by rw[hC];exact j1.flat rfl rfl) ?_
   repeat' (first|(simp (disch:=first|omega|assumption|exact bd (by with_unfolding_all rfl)|exact Or.inl rfl|exact Or.inl trivial|exact okL_map _ (fun _=>rfl) _|(simp only[VVlen]<;>omega)|fail) only[VV0,VV1,VV2,VV3,VV4,VV5,VV6,VV7,VV8,VV9,mkFnV,vargs,slotsL,opdsA,Nat.reduceEqDiff,Nat.reduceLT,Nat.reduceAdd,Nat.reduceBEq,Int.reduceAdd,Int.reduceSub,Int.reduceLT,Int.reduceLE,Int.reduceEq,Int.reduceNeg,↓reduceIte,reduceCtorEq,scL,scD,expand,List.replicate])|apply gC_drawW|((first|apply gI_dec|apply gG_dec|apply gPG_dec|apply gI_var|apply gG_var|apply gPG_var)<;>intro _))
   refine callV_fin (by rw[hC];exact t2) rfl rfl (fun _=>rfl) ?_
   repeat' (first|(simp (disch:=first|omega|assumption|exact bd (by with_unfolding_all rfl)|exact Or.inl rfl|exact Or.inl trivial|exact okL_map _ (fun _=>rfl) _|(simp only[VVlen]<;>omega)|fail) only[VV0,VV1,VV2,VV3,VV4,VV5,VV6,VV7,VV8,VV9,mkFnV,vargs,slotsL,opdsA,Nat.reduceEqDiff,Nat.reduceLT,Nat.reduceAdd,Nat.reduceBEq,Int.reduceAdd,Int.reduceSub,Int.reduceLT,Int.reduceLE,Int.reduceEq,Int.reduceNeg,↓reduceIte,reduceCtorEq,scL,scD,expand,List.replicate])|apply gC_drawW|((first|apply gI_dec|apply gG_dec|apply gPG_dec|apply gI_var|apply gG_var|apply gPG_var)<;>intro _))
   refine callV_flat (by rw[hC];exact j2.flat rfl rfl) ?_
   repeat' (first|(simp (disch:=first|omega|assumption|exact bd (by with_unfolding_all rfl)|exact Or.inl rfl|exact Or.inl trivial|exact okL_map _ (fun _=>rfl) _|(simp only[VVlen]<;>omega)|fail) only[VV0,VV1,VV2,VV3,VV4,VV5,VV6,VV7,VV8,VV9,mkFnV,vargs,slotsL,opdsA,Nat.reduceEqDiff,Nat.reduceLT,Nat.reduceAdd,Nat.reduceBEq,Int.reduceAdd,Int.reduceSub,Int.reduceLT,Int.reduceLE,Int.reduceEq,Int.reduceNeg,↓reduceIte,reduceCtorEq,scL,scD,expand,List.replicate,h1,hag,heq])|apply gC_drawW|((first|apply gI_dec|apply gG_dec|apply gPG_dec|apply gI_var|apply gG_var|apply gPG_var)<;>intro _))
   exact weak_flat rfl h0 rfl
 ·rw[a1] at s1
  have t1:=without_p w 11 P i (by omega) (by omega)
  have j1:=jsame_p w 11 3 3 (wo P k) (wo P k) (by omega) (by omega)
  rw[decide_eq_true rfl] at j1
  rw[a2] at t1
  simp only[jS,hwl,hml] at s1 s2 t1 t2 j2 j1 ⊢
  simp only[locV] at s1 s2 s3'
  by_cases hx:X=P[k]!
  ·rw[if_pos hx] at hR4
   rw[hR4] at s3'
   rw[decide_eq_true hx] at heq
   repeat' (first|(simp (disch:=first|omega|assumption|exact bd (by with_unfolding_all rfl)|exact Or.inl rfl|exact Or.inl trivial|exact okL_map _ (fun _=>rfl) _|(simp only[VVlen]<;>omega)|fail) only[VV0,VV1,VV2,VV3,VV4,VV5,VV6,VV7,VV8,VV9,mkFnV,vargs,slotsL,opdsA,Nat.reduceEqDiff,Nat.reduceLT,Nat.reduceAdd,Nat.reduceBEq,Int.reduceAdd,Int.reduceSub,Int.reduceLT,Int.reduceLE,Int.reduceEq,Int.reduceNeg,↓reduceIte,reduceCtorEq,scL,scD,expand,List.replicate,c5F,c5,AC.r])|apply gC_drawW|((first|apply gI_dec|apply gG_dec|apply gPG_dec|apply gI_var|apply gG_var|apply gPG_var)<;>intro _))
   refine callV_flat (by rw[hC];exact s1.flat rfl rfl) ?_
   repeat' (first|(simp (disch:=first|omega|assumption|exact bd (by with_unfolding_all rfl)|exact Or.inl rfl|exact Or.inl trivial|exact okL_map _ (fun _=>rfl) _|(simp only[VVlen]<;>omega)|fail) only[VV0,VV1,VV2,VV3,VV4,VV5,VV6,VV7,VV8,VV9,mkFnV,vargs,slotsL,opdsA,Nat.reduceEqDiff,Nat.reduceLT,Nat.reduceAdd,Nat.reduceBEq,Int.reduceAdd,Int.reduceSub,Int.reduceLT,Int.reduceLE,Int.reduceEq,Int.reduceNeg,↓reduceIte,reduceCtorEq,scL,scD,expand,List.replicate])|apply gC_drawW|((first|apply gI_dec|apply gG_dec|apply gPG_dec|apply gI_var|apply gG_var|apply gPG_var)<;>intro _))
   refine callV_flat (by rw[hC];exact s2.flat rfl rfl) ?_
   repeat' (first|(simp (disch:=first|omega|assumption|exact bd (by with_unfolding_all rfl)|exact Or.inl rfl|exact Or.inl trivial|exact okL_map _ (fun _=>rfl) _|(simp only[VVlen]<;>omega)|fail) only[VV0,VV1,VV2,VV3,VV4,VV5,VV6,VV7,VV8,VV9,mkFnV,vargs,slotsL,opdsA,Nat.reduceEqDiff,Nat.reduceLT,Nat.reduceAdd,Nat.reduceBEq,Int.reduceAdd,Int.reduceSub,Int.reduceLT,Int.reduceLE,Int.reduceEq,Int.reduceNeg,↓reduceIte,reduceCtorEq,scL,scD,expand,List.replicate])|apply gC_drawW|((first|apply gI_dec|apply gG_dec|apply gPG_dec|apply gI_var|apply gG_var|apply gPG_var)<;>intro _))
   refine callV_flat (by rw[hC];exact s3') ?_
   repeat' (first|(simp (disch:=first|omega|assumption|exact bd (by with_unfolding_all rfl)|exact Or.inl rfl|exact Or.inl trivial|exact okL_map _ (fun _=>rfl) _|(simp only[VVlen]<;>omega)|fail) only[VV0,VV1,VV2,VV3,VV4,VV5,VV6,VV7,VV8,VV9,mkFnV,vargs,slotsL,opdsA,Nat.reduceEqDiff,Nat.reduceLT,Nat.reduceAdd,Nat.reduceBEq,Int.reduceAdd,Int.reduceSub,Int.reduceLT,Int.reduceLE,Int.reduceEq,Int.reduceNeg,↓reduceIte,reduceCtorEq,scL,scD,expand,List.replicate])|apply gC_drawW|((first|apply gI_dec|apply gG_dec|apply gPG_dec|apply gI_var|apply gG_var|apply gPG_var)<;>intro _))
   refine callV_fin (by rw[hC];exact t1) rfl rfl (fun _=>rfl) ?_
   repeat' (first|(simp (disch:=first|omega|assumption|exact bd (by with_unfolding_all rfl)|exact Or.inl rfl|exact Or.inl trivial|exact okL_map _ (fun _=>rfl) _|(simp only[VVlen]<;>omega)|fail) only[VV0,VV1,VV2,VV3,VV4,VV5,VV6,VV7,VV8,VV9,mkFnV,vargs,slotsL,opdsA,Nat.reduceEqDiff,Nat.reduceLT,Nat.reduceAdd,Nat.reduceBEq,Int.reduceAdd,Int.reduceSub,Int.reduceLT,Int.reduceLE,Int.reduceEq,Int.reduceNeg,↓reduceIte,reduceCtorEq,scL,scD,expand,List.replicate])|apply gC_drawW|((first|apply gI_dec|apply gG_dec|apply gPG_dec|apply gI_var|apply gG_var|apply gPG_var)<;>intro _))
   refine callV_flat (by rw[hC];exact j1.flat rfl rfl) ?_
   repeat' (first|(simp (disch:=first|omega|assumption|exact bd (by with_unfolding_all rfl)|exact Or.inl rfl|exact Or.inl trivial|exact okL_map _ (fun _=>rfl) _|(simp only[VVlen]<;>omega)|fail) only[VV0,VV1,VV2,VV3,VV4,VV5,VV6,VV7,VV8,VV9,mkFnV,vargs,slotsL,opdsA,Nat.reduceEqDiff,Nat.reduceLT,Nat.reduceAdd,Nat.reduceBEq,Int.reduceAdd,Int.reduceSub,Int.reduceLT,Int.reduceLE,Int.reduceEq,Int.reduceNeg,↓reduceIte,reduceCtorEq,scL,scD,expand,List.replicate])|apply gC_drawW|((first|apply gI_dec|apply gG_dec|apply gPG_dec|apply gI_var|apply gG_var|apply gPG_var)<;>intro _))
   refine callV_fin (by rw[hC];exact t2) rfl rfl (fun _=>rfl) ?_
   repeat' (first|(simp (disch:=first|omega|assumption|exact bd (by with_unfolding_all rfl)|exact Or.inl rfl|exact Or.inl trivial|exact okL_map _ (fun _=>rfl) _|(simp only[VVlen]<;>omega)|fail) only[VV0,VV1,VV2,VV3,VV4,VV5,VV6,VV7,VV8,VV9,mkFnV,vargs,slotsL,opdsA,Nat.reduceEqDiff,Nat.reduceLT,Nat.reduceAdd,Nat.reduceBEq,Int.reduceAdd,Int.reduceSub,Int.reduceLT,Int.reduceLE,Int.reduceEq,Int.reduceNeg,↓reduceIte,reduceCtorEq,scL,scD,expand,List.replicate])|apply gC_drawW|((first|apply gI_dec|apply gG_dec|apply gPG_dec|apply gI_var|apply gG_var|apply gPG_var)<;>intro _))
   refine callV_flat (by rw[hC];exact j2.flat rfl rfl) ?_
   repeat' (first|(simp (disch:=first|omega|assumption|exact bd (by with_unfolding_all rfl)|exact Or.inl rfl|exact Or.inl trivial|exact okL_map _ (fun _=>rfl) _|(simp only[VVlen]<;>omega)|fail) only[VV0,VV1,VV2,VV3,VV4,VV5,VV6,VV7,VV8,VV9,mkFnV,vargs,slotsL,opdsA,Nat.reduceEqDiff,Nat.reduceLT,Nat.reduceAdd,Nat.reduceBEq,Int.reduceAdd,Int.reduceSub,Int.reduceLT,Int.reduceLE,Int.reduceEq,Int.reduceNeg,↓reduceIte,reduceCtorEq,scL,scD,expand,List.replicate,h1,hag,heq])|apply gC_drawW|((first|apply gI_dec|apply gG_dec|apply gPG_dec|apply gI_var|apply gG_var|apply gPG_var)<;>intro _))
   exact weak_flat rfl h0 rfl
  ·rw[if_neg hx] at hR4
   rw[hR4] at s3'
   rw[decide_eq_false hx] at heq
   repeat' (first|(simp (disch:=first|omega|assumption|exact bd (by with_unfolding_all rfl)|exact Or.inl rfl|exact Or.inl trivial|exact okL_map _ (fun _=>rfl) _|(simp only[VVlen]<;>omega)|fail) only[VV0,VV1,VV2,VV3,VV4,VV5,VV6,VV7,VV8,VV9,mkFnV,vargs,slotsL,opdsA,Nat.reduceEqDiff,Nat.reduceLT,Nat.reduceAdd,Nat.reduceBEq,Int.reduceAdd,Int.reduceSub,Int.reduceLT,Int.reduceLE,Int.reduceEq,Int.reduceNeg,↓reduceIte,reduceCtorEq,scL,scD,expand,List.replicate,c5F,c5,AC.r])|apply gC_drawW|((first|apply gI_dec|apply gG_dec|apply gPG_dec|apply gI_var|apply gG_var|apply gPG_var)<;>intro _))
   refine callV_flat (by rw[hC];exact s1.flat rfl rfl) ?_
   repeat' (first|(simp (disch:=first|omega|assumption|exact bd (by with_unfolding_all rfl)|exact Or.inl rfl|exact Or.inl trivial|exact okL_map _ (fun _=>rfl) _|(simp only[VVlen]<;>omega)|fail) only[VV0,VV1,VV2,VV3,VV4,VV5,VV6,VV7,VV8,VV9,mkFnV,vargs,slotsL,opdsA,Nat.reduceEqDiff,Nat.reduceLT,Nat.reduceAdd,Nat.reduceBEq,Int.reduceAdd,Int.reduceSub,Int.reduceLT,Int.reduceLE,Int.reduceEq,Int.reduceNeg,↓reduceIte,reduceCtorEq,scL,scD,expand,List.replicate])|apply gC_drawW|((first|apply gI_dec|apply gG_dec|apply gPG_dec|apply gI_var|apply gG_var|apply gPG_var)<;>intro _))
   refine callV_flat (by rw[hC];exact s2.flat rfl rfl) ?_
   repeat' (first|(simp (disch:=first|omega|assumption|exact bd (by with_unfolding_all rfl)|exact Or.inl rfl|exact Or.inl trivial|exact okL_map _ (fun _=>rfl) _|(simp only[VVlen]<;>omega)|fail) only[VV0,VV1,VV2,VV3,VV4,VV5,VV6,VV7,VV8,VV9,mkFnV,vargs,slotsL,opdsA,Nat.reduceEqDiff,Nat.reduceLT,Nat.reduceAdd,Nat.reduceBEq,Int.reduceAdd,Int.reduceSub,Int.reduceLT,Int.reduceLE,Int.reduceEq,Int.reduceNeg,↓reduceIte,reduceCtorEq,scL,scD,expand,List.replicate])|apply gC_drawW|((first|apply gI_dec|apply gG_dec|apply gPG_dec|apply gI_var|apply gG_var|apply gPG_var)<;>intro _))
   refine callV_flat (by rw[hC];exact s3') ?_
   repeat' (first|(simp (disch:=first|omega|assumption|exact bd (by with_unfolding_all rfl)|exact Or.inl rfl|exact Or.inl trivial|exact okL_map _ (fun _=>rfl) _|(simp only[VVlen]<;>omega)|fail) only[VV0,VV1,VV2,VV3,VV4,VV5,VV6,VV7,VV8,VV9,mkFnV,vargs,slotsL,opdsA,Nat.reduceEqDiff,Nat.reduceLT,Nat.reduceAdd,Nat.reduceBEq,Int.reduceAdd,Int.reduceSub,Int.reduceLT,Int.reduceLE,Int.reduceEq,Int.reduceNeg,↓reduceIte,reduceCtorEq,scL,scD,expand,List.replicate])|apply gC_drawW|((first|apply gI_dec|apply gG_dec|apply gPG_dec|apply gI_var|apply gG_var|apply gPG_var)<;>intro _))
   refine callV_fin (by rw[hC];exact t1) rfl rfl (fun _=>rfl) ?_
   repeat' (first|(simp (disch:=first|omega|assumption|exact bd (by with_unfolding_all rfl)|exact Or.inl rfl|exact Or.inl trivial|exact okL_map _ (fun _=>rfl) _|(simp only[VVlen]<;>omega)|fail) only[VV0,VV1,VV2,VV3,VV4,VV5,VV6,VV7,VV8,VV9,mkFnV,vargs,slotsL,opdsA,Nat.reduceEqDiff,Nat.reduceLT,Nat.reduceAdd,Nat.reduceBEq,Int.reduceAdd,Int.reduceSub,Int.reduceLT,Int.reduceLE,Int.reduceEq,Int.reduceNeg,↓reduceIte,reduceCtorEq,scL,scD,expand,List.replicate])|apply gC_drawW|((first|apply gI_dec|apply gG_dec|apply gPG_dec|apply gI_var|apply gG_var|apply gPG_var)<;>intro _))
   refine callV_flat (by rw[hC];exact j1.flat rfl rfl) ?_
   repeat' (first|(simp (disch:=first|omega|assumption|exact bd (by with_unfolding_all rfl)|exact Or.inl rfl|exact Or.inl trivial|exact okL_map _ (fun _=>rfl) _|(simp only[VVlen]<;>omega)|fail) only[VV0,VV1,VV2,VV3,VV4,VV5,VV6,VV7,VV8,VV9,mkFnV,vargs,slotsL,opdsA,Nat.reduceEqDiff,Nat.reduceLT,Nat.reduceAdd,Nat.reduceBEq,Int.reduceAdd,Int.reduceSub,Int.reduceLT,Int.reduceLE,Int.reduceEq,Int.reduceNeg,↓reduceIte,reduceCtorEq,scL,scD,expand,List.replicate])|apply gC_drawW|((first|apply gI_dec|apply gG_dec|apply gPG_dec|apply gI_var|apply gG_var|apply gPG_var)<;>intro _))
   refine callV_fin (by rw[hC];exact t2) rfl rfl (fun _=>rfl) ?_
   repeat' (first|(simp (disch:=first|omega|assumption|exact bd (by with_unfolding_all rfl)|exact Or.inl rfl|exact Or.inl trivial|exact okL_map _ (fun _=>rfl) _|(simp only[VVlen]<;>omega)|fail) only[VV0,VV1,VV2,VV3,VV4,VV5,VV6,VV7,VV8,VV9,mkFnV,vargs,slotsL,opdsA,Nat.reduceEqDiff,Nat.reduceLT,Nat.reduceAdd,Nat.reduceBEq,Int.reduceAdd,Int.reduceSub,Int.reduceLT,Int.reduceLE,Int.reduceEq,Int.reduceNeg,↓reduceIte,reduceCtorEq,scL,scD,expand,List.replicate])|apply gC_drawW|((first|apply gI_dec|apply gG_dec|apply gPG_dec|apply gI_var|apply gG_var|apply gPG_var)<;>intro _))
   refine callV_flat (by rw[hC];exact j2.flat rfl rfl) ?_
   repeat' (first|(simp (disch:=first|omega|assumption|exact bd (by with_unfolding_all rfl)|exact Or.inl rfl|exact Or.inl trivial|exact okL_map _ (fun _=>rfl) _|(simp only[VVlen]<;>omega)|fail) only[VV0,VV1,VV2,VV3,VV4,VV5,VV6,VV7,VV8,VV9,mkFnV,vargs,slotsL,opdsA,Nat.reduceEqDiff,Nat.reduceLT,Nat.reduceAdd,Nat.reduceBEq,Int.reduceAdd,Int.reduceSub,Int.reduceLT,Int.reduceLE,Int.reduceEq,Int.reduceNeg,↓reduceIte,reduceCtorEq,scL,scD,expand,List.replicate,h1,hag,heq])|apply gC_drawW|((first|apply gI_dec|apply gG_dec|apply gPG_dec|apply gI_var|apply gG_var|apply gPG_var)<;>intro _))
   exact weak_flat rfl h0 rfl
end
section
variable (w:World)
theorem finds_g (P:List Ins) (ki:Int) (X:Ins) (hP:P.length≤140737488351232) {C:Ctx} (hC:C.E=EN w 12) (h0:C.w0.nx=0):
  gC C c5.code [] (vargs 0 [jS 3 P,iN ki,insV X]) ⟨[],0,0⟩ (RetV C c5.res (.sc (.bool true)) ⟨[],0,0⟩):=by
 obtain ⟨o,r,b,p,t,c,q⟩:=X
 have hal:=fun st=>alive_o w 11 st
 have hi:=rinstr_p w 10 ⟨o,r,b,p,t,c,q⟩
 have hil:=insD_len P
 have hrn:C.E.rounds=many:=by rw[hC,callP_rounds]
 obtain ⟨T,hT⟩:∃ T,T=AC.r (AC.r (AC.r (AC.r (AC.r c5F)))):=⟨_,rfl⟩
 have hc:c5.code= .seq (AC.l c5F) (.seq (AC.l (AC.r c5F)) (.seq (AC.l (AC.r (AC.r c5F))) (.seq (AC.l (AC.r (AC.r (AC.r c5F)))) (.seq (AC.l (AC.r (AC.r (AC.r (AC.r c5F))))) T)))):=by rw[hT];rfl
 obtain ⟨pre,tail,ks,hd⟩:∃ pre tail ks,AC.l (AC.r (AC.r (AC.r (AC.r (AC.r (AC.r c5F))))))= .drawW pre tail ks:=⟨_,_,_,rfl⟩
 have hT2:T= .seq (AC.l (AC.r (AC.r (AC.r (AC.r (AC.r c5F)))))) (.seq (.drawW pre tail ks) (AC.r (AC.r (AC.r (AC.r (AC.r (AC.r (AC.r c5F)))))))):=by rw[hT,← hd];rfl
 clear hT
 rw[hc]
 by_cases a1:300<P.length
 ·repeat' (first|(simp (disch:=first|omega|assumption|exact bd (by with_unfolding_all rfl)|exact Or.inl rfl|exact Or.inl trivial|exact okL_map _ (fun _=>rfl) _|(simp only[VVlen]<;>omega)|fail) only[VV0,VV1,VV2,VV3,VV4,VV5,VV6,VV7,VV8,VV9,mkFnV,vargs,slotsL,opdsA,Nat.reduceEqDiff,Nat.reduceLT,Nat.reduceAdd,Nat.reduceBEq,Int.reduceAdd,Int.reduceSub,Int.reduceLT,Int.reduceLE,Int.reduceEq,Int.reduceNeg,↓reduceIte,reduceCtorEq,scL,scD,expand,List.replicate,c5F,c5,AC.l,AC.r,insV])|apply gC_drawW|((first|apply gI_dec|apply gG_dec|apply gPG_dec|apply gI_var|apply gG_var|apply gPG_var)<;>intro _))
  all_goals try (exfalso;omega)
  refine callV_flat (by rw[hC];exact hal _) ?_
  repeat' (first|(simp (disch:=first|omega|assumption|exact bd (by with_unfolding_all rfl)|exact Or.inl rfl|exact Or.inl trivial|exact okL_map _ (fun _=>rfl) _|(simp only[VVlen]<;>omega)|fail) only[VV0,VV1,VV2,VV3,VV4,VV5,VV6,VV7,VV8,VV9,mkFnV,vargs,slotsL,opdsA,Nat.reduceEqDiff,Nat.reduceLT,Nat.reduceAdd,Nat.reduceBEq,Int.reduceAdd,Int.reduceSub,Int.reduceLT,Int.reduceLE,Int.reduceEq,Int.reduceNeg,↓reduceIte,reduceCtorEq,scL,scD,expand,List.replicate])|apply gC_drawW|((first|apply gI_dec|apply gG_dec|apply gPG_dec|apply gI_var|apply gG_var|apply gPG_var)<;>intro _))
  all_goals try (exfalso;omega)
  exact weak_flat rfl h0 rfl
 by_cases a2:ki<0
 ·repeat' (first|(simp (disch:=first|omega|assumption|exact bd (by with_unfolding_all rfl)|exact Or.inl rfl|exact Or.inl trivial|exact okL_map _ (fun _=>rfl) _|(simp only[VVlen]<;>omega)|fail) only[VV0,VV1,VV2,VV3,VV4,VV5,VV6,VV7,VV8,VV9,mkFnV,vargs,slotsL,opdsA,Nat.reduceEqDiff,Nat.reduceLT,Nat.reduceAdd,Nat.reduceBEq,Int.reduceAdd,Int.reduceSub,Int.reduceLT,Int.reduceLE,Int.reduceEq,Int.reduceNeg,↓reduceIte,reduceCtorEq,scL,scD,expand,List.replicate,c5F,c5,AC.l,AC.r,insV])|apply gC_drawW|((first|apply gI_dec|apply gG_dec|apply gPG_dec|apply gI_var|apply gG_var|apply gPG_var)<;>intro _))
  all_goals try (exfalso;omega)
  refine callV_flat (by rw[hC];exact hal _) ?_
  repeat' (first|(simp (disch:=first|omega|assumption|exact bd (by with_unfolding_all rfl)|exact Or.inl rfl|exact Or.inl trivial|exact okL_map _ (fun _=>rfl) _|(simp only[VVlen]<;>omega)|fail) only[VV0,VV1,VV2,VV3,VV4,VV5,VV6,VV7,VV8,VV9,mkFnV,vargs,slotsL,opdsA,Nat.reduceEqDiff,Nat.reduceLT,Nat.reduceAdd,Nat.reduceBEq,Int.reduceAdd,Int.reduceSub,Int.reduceLT,Int.reduceLE,Int.reduceEq,Int.reduceNeg,↓reduceIte,reduceCtorEq,scL,scD,expand,List.replicate])|apply gC_drawW|((first|apply gI_dec|apply gG_dec|apply gPG_dec|apply gI_var|apply gG_var|apply gPG_var)<;>intro _))
  all_goals try (exfalso;omega)
  exact weak_flat rfl h0 rfl
 obtain ⟨k,rfl⟩:∃ k:Nat,ki=k:=⟨ki.toNat,by omega⟩
 by_cases a3:P.length≤k
 ·repeat' (first|(simp (disch:=first|omega|assumption|exact bd (by with_unfolding_all rfl)|exact Or.inl rfl|exact Or.inl trivial|exact okL_map _ (fun _=>rfl) _|(simp only[VVlen]<;>omega)|fail) only[VV0,VV1,VV2,VV3,VV4,VV5,VV6,VV7,VV8,VV9,mkFnV,vargs,slotsL,opdsA,Nat.reduceEqDiff,Nat.reduceLT,Nat.reduceAdd,Nat.reduceBEq,Int.reduceAdd,Int.reduceSub,Int.reduceLT,Int.reduceLE,Int.reduceEq,Int.reduceNeg,↓reduceIte,reduceCtorEq,scL,scD,expand,List.replicate,c5F,c5,AC.l,AC.r,insV])|apply gC_drawW|((first|apply gI_dec|apply gG_dec|apply gPG_dec|apply gI_var|apply gG_var|apply gPG_var)<;>intro _))
  all_goals try (exfalso;omega)
  refine callV_flat (by rw[hC];exact hal _) ?_
  repeat' (first|(simp (disch:=first|omega|assumption|exact bd (by with_unfolding_all rfl)|exact Or.inl rfl|exact Or.inl trivial|exact okL_map _ (fun _=>rfl) _|(simp only[VVlen]<;>omega)|fail) only[VV0,VV1,VV2,VV3,VV4,VV5,VV6,VV7,VV8,VV9,mkFnV,vargs,slotsL,opdsA,Nat.reduceEqDiff,Nat.reduceLT,Nat.reduceAdd,Nat.reduceBEq,Int.reduceAdd,Int.reduceSub,Int.reduceLT,Int.reduceLE,Int.reduceEq,Int.reduceNeg,↓reduceIte,reduceCtorEq,scL,scD,expand,List.replicate])|apply gC_drawW|((first|apply gI_dec|apply gG_dec|apply gPG_dec|apply gI_var|apply gG_var|apply gPG_var)<;>intro _))
  all_goals try (exfalso;omega)
  exact weak_flat rfl h0 rfl
 cases hX:insOK ⟨o,r,b,p,t,c,q⟩ with
 |false=>
  rw[hX,if_neg (by decide)] at hi
  repeat' (first|(simp (disch:=first|omega|assumption|exact bd (by with_unfolding_all rfl)|exact Or.inl rfl|exact Or.inl trivial|exact okL_map _ (fun _=>rfl) _|(simp only[VVlen]<;>omega)|fail) only[VV0,VV1,VV2,VV3,VV4,VV5,VV6,VV7,VV8,VV9,mkFnV,vargs,slotsL,opdsA,Nat.reduceEqDiff,Nat.reduceLT,Nat.reduceAdd,Nat.reduceBEq,Int.reduceAdd,Int.reduceSub,Int.reduceLT,Int.reduceLE,Int.reduceEq,Int.reduceNeg,↓reduceIte,reduceCtorEq,scL,scD,expand,List.replicate,c5F,c5,AC.l,AC.r,insV])|apply gC_drawW|((first|apply gI_dec|apply gG_dec|apply gPG_dec|apply gI_var|apply gG_var|apply gPG_var)<;>intro _))
  all_goals try (exfalso;omega)
  refine callV_flat (by rw[hC];exact hal _) ?_
  repeat' (first|(simp (disch:=first|omega|assumption|exact bd (by with_unfolding_all rfl)|exact Or.inl rfl|exact Or.inl trivial|exact okL_map _ (fun _=>rfl) _|(simp only[VVlen]<;>omega)|fail) only[VV0,VV1,VV2,VV3,VV4,VV5,VV6,VV7,VV8,VV9,mkFnV,vargs,slotsL,opdsA,Nat.reduceEqDiff,Nat.reduceLT,Nat.reduceAdd,Nat.reduceBEq,Int.reduceAdd,Int.reduceSub,Int.reduceLT,Int.reduceLE,Int.reduceEq,Int.reduceNeg,↓reduceIte,reduceCtorEq,scL,scD,expand,List.replicate])|apply gC_drawW|((first|apply gI_dec|apply gG_dec|apply gPG_dec|apply gI_var|apply gG_var|apply gPG_var)<;>intro _))
  all_goals try (exfalso;omega)
  refine callV_flat (by rw[hC];exact hi.flat rfl rfl) ?_
  repeat' (first|(simp (disch:=first|omega|assumption|exact bd (by with_unfolding_all rfl)|exact Or.inl rfl|exact Or.inl trivial|exact okL_map _ (fun _=>rfl) _|(simp only[VVlen]<;>omega)|fail) only[VV0,VV1,VV2,VV3,VV4,VV5,VV6,VV7,VV8,VV9,mkFnV,vargs,slotsL,opdsA,Nat.reduceEqDiff,Nat.reduceLT,Nat.reduceAdd,Nat.reduceBEq,Int.reduceAdd,Int.reduceSub,Int.reduceLT,Int.reduceLE,Int.reduceEq,Int.reduceNeg,↓reduceIte,reduceCtorEq,scL,scD,expand,List.replicate])|apply gC_drawW|((first|apply gI_dec|apply gG_dec|apply gPG_dec|apply gI_var|apply gG_var|apply gPG_var)<;>intro _))
  all_goals try (exfalso;omega)
  exact weak_flat rfl h0 rfl
 |true=>
 rw[hX,if_pos rfl] at hi
 repeat' (first|(simp (disch:=first|omega|assumption|exact bd (by with_unfolding_all rfl)|exact Or.inl rfl|exact Or.inl trivial|exact okL_map _ (fun _=>rfl) _|(simp only[VVlen]<;>omega)|fail) only[VV0,VV1,VV2,VV3,VV4,VV5,VV6,VV7,VV8,VV9,mkFnV,vargs,slotsL,opdsA,Nat.reduceEqDiff,Nat.reduceLT,Nat.reduceAdd,Nat.reduceBEq,Int.reduceAdd,Int.reduceSub,Int.reduceLT,Int.reduceLE,Int.reduceEq,Int.reduceNeg,↓reduceIte,reduceCtorEq,scL,scD,expand,List.replicate,c5F,c5,AC.l,AC.r,insV])|apply gC_drawW|((first|apply gI_dec|apply gG_dec|apply gPG_dec|apply gI_var|apply gG_var|apply gPG_var)<;>intro _))
 all_goals try (exfalso;omega)
 refine callV_flat (by rw[hC];exact hal _) ?_
 repeat' (first|(simp (disch:=first|omega|assumption|exact bd (by with_unfolding_all rfl)|exact Or.inl rfl|exact Or.inl trivial|exact okL_map _ (fun _=>rfl) _|(simp only[VVlen]<;>omega)|fail) only[VV0,VV1,VV2,VV3,VV4,VV5,VV6,VV7,VV8,VV9,mkFnV,vargs,slotsL,opdsA,Nat.reduceEqDiff,Nat.reduceLT,Nat.reduceAdd,Nat.reduceBEq,Int.reduceAdd,Int.reduceSub,Int.reduceLT,Int.reduceLE,Int.reduceEq,Int.reduceNeg,↓reduceIte,reduceCtorEq,scL,scD,expand,List.replicate])|apply gC_drawW|((first|apply gI_dec|apply gG_dec|apply gPG_dec|apply gI_var|apply gG_var|apply gPG_var)<;>intro _))
 all_goals try (exfalso;omega)
 refine callV_flat (by rw[hC];exact hi.flat rfl rfl) ?_
 repeat' (first|(simp (disch:=first|omega|assumption|exact bd (by with_unfolding_all rfl)|exact Or.inl rfl|exact Or.inl trivial|exact okL_map _ (fun _=>rfl) _|(simp only[VVlen]<;>omega)|fail) only[VV0,VV1,VV2,VV3,VV4,VV5,VV6,VV7,VV8,VV9,mkFnV,vargs,slotsL,opdsA,Nat.reduceEqDiff,Nat.reduceLT,Nat.reduceAdd,Nat.reduceBEq,Int.reduceAdd,Int.reduceSub,Int.reduceLT,Int.reduceLE,Int.reduceEq,Int.reduceNeg,↓reduceIte,reduceCtorEq,scL,scD,expand,List.replicate])|apply gC_drawW|((first|apply gI_dec|apply gG_dec|apply gPG_dec|apply gI_var|apply gG_var|apply gPG_var)<;>intro _))
 all_goals try (exfalso;omega)
 refine g_while (fun m fr st=>∃ (j:Nat),m=P.length - j∧j≤P.length∧(P.take j).all insOK=true∧fr= [(0,jS 3 P),(1,iN k),(5,.ptr 0 0),(7,.sc (.bool true)),(8,iN j)]∧st=⟨[(0,insB o r b p t c q)],1,0⟩) P.length ?_ ⟨_,_,.refl _ _,0,by omega,Nat.zero_le _,rfl,rfl,rfl⟩ ?_
 ·rw[hrn];unfold many;omega
 rintro m fr st ⟨j,rfl,hj,hall,rfl,rfl⟩
 by_cases hlt:j<P.length
 case neg=>
  have:j=P.length:=by omega
  subst this
  rw[List.take_length] at hall
  have hW:=without_p w 11 P k (by omega) (by omega)
  repeat' (first|(simp (disch:=first|omega|assumption|exact bd (by with_unfolding_all rfl)|exact Or.inl rfl|exact Or.inl trivial|exact okL_map _ (fun _=>rfl) _|(simp only[VVlen]<;>omega)|fail) only[VV0,VV1,VV2,VV3,VV4,VV5,VV6,VV7,VV8,VV9,mkFnV,vargs,slotsL,opdsA,Nat.reduceEqDiff,Nat.reduceLT,Nat.reduceAdd,Nat.reduceBEq,Int.reduceAdd,Int.reduceSub,Int.reduceLT,Int.reduceLE,Int.reduceEq,Int.reduceNeg,↓reduceIte,reduceCtorEq,scL,scD,expand,List.replicate,c5l0])|apply gC_drawW|((first|apply gI_dec|apply gG_dec|apply gPG_dec|apply gI_var|apply gG_var|apply gPG_var)<;>intro _))
  all_goals try (exfalso;omega)
  refine callV_fin (by rw[hC];exact hW) rfl rfl (fun _=>rfl) ?_
  repeat' (first|(simp (disch:=first|omega|assumption|exact bd (by with_unfolding_all rfl)|exact Or.inl rfl|exact Or.inl trivial|exact okL_map _ (fun _=>rfl) _|(simp only[VVlen]<;>omega)|fail) only[VV0,VV1,VV2,VV3,VV4,VV5,VV6,VV7,VV8,VV9,mkFnV,vargs,slotsL,opdsA,Nat.reduceEqDiff,Nat.reduceLT,Nat.reduceAdd,Nat.reduceBEq,Int.reduceAdd,Int.reduceSub,Int.reduceLT,Int.reduceLE,Int.reduceEq,Int.reduceNeg,↓reduceIte,reduceCtorEq,scL,scD,expand,List.replicate])|apply gC_drawW|((first|apply gI_dec|apply gG_dec|apply gPG_dec|apply gI_var|apply gG_var|apply gPG_var)<;>intro _))
  rw[hT2]
  refine more_g w 12 hC h0 P k (by omega) (by omega) o r b p t c q _ _ ?_
  rw[← hd]
  exact other_g w 12 hC h0 P k (by omega) (by omega) o r b p t c q _ _ fun u nx H h1 h2=>find_end w hC h0 P k (by omega) (by omega) o r b p t c q hall hX u nx H h1 h2 _ rfl
 have hag:=insD_agg P j hlt
 have hij:=rinstr_p w 10 P[j]!
 cases hy:insOK P[j]! with
 |false=>
  rw[hy,if_neg (by decide)] at hij
  repeat' (first|(simp (disch:=first|omega|assumption|exact bd (by with_unfolding_all rfl)|exact Or.inl rfl|exact Or.inl trivial|exact okL_map _ (fun _=>rfl) _|(simp only[VVlen]<;>omega)|fail) only[VV0,VV1,VV2,VV3,VV4,VV5,VV6,VV7,VV8,VV9,mkFnV,vargs,slotsL,opdsA,Nat.reduceEqDiff,Nat.reduceLT,Nat.reduceAdd,Nat.reduceBEq,Int.reduceAdd,Int.reduceSub,Int.reduceLT,Int.reduceLE,Int.reduceEq,Int.reduceNeg,↓reduceIte,reduceCtorEq,scL,scD,expand,List.replicate,c5l0,hag])|apply gC_drawW|((first|apply gI_dec|apply gG_dec|apply gPG_dec|apply gI_var|apply gG_var|apply gPG_var)<;>intro _))
  all_goals try (exfalso;omega)
  refine callV_flat (by rw[hC];exact hij.flat rfl rfl) ?_
  repeat' (first|(simp (disch:=first|omega|assumption|exact bd (by with_unfolding_all rfl)|exact Or.inl rfl|exact Or.inl trivial|exact okL_map _ (fun _=>rfl) _|(simp only[VVlen]<;>omega)|fail) only[VV0,VV1,VV2,VV3,VV4,VV5,VV6,VV7,VV8,VV9,mkFnV,vargs,slotsL,opdsA,Nat.reduceEqDiff,Nat.reduceLT,Nat.reduceAdd,Nat.reduceBEq,Int.reduceAdd,Int.reduceSub,Int.reduceLT,Int.reduceLE,Int.reduceEq,Int.reduceNeg,↓reduceIte,reduceCtorEq,scL,scD,expand,List.replicate])|apply gC_drawW|((first|apply gI_dec|apply gG_dec|apply gPG_dec|apply gI_var|apply gG_var|apply gPG_var)<;>intro _))
  exact weak_flat rfl h0 rfl
 |true=>
  rw[hy,if_pos rfl] at hij
  repeat' (first|(simp (disch:=first|omega|assumption|exact bd (by with_unfolding_all rfl)|exact Or.inl rfl|exact Or.inl trivial|exact okL_map _ (fun _=>rfl) _|(simp only[VVlen]<;>omega)|fail) only[VV0,VV1,VV2,VV3,VV4,VV5,VV6,VV7,VV8,VV9,mkFnV,vargs,slotsL,opdsA,Nat.reduceEqDiff,Nat.reduceLT,Nat.reduceAdd,Nat.reduceBEq,Int.reduceAdd,Int.reduceSub,Int.reduceLT,Int.reduceLE,Int.reduceEq,Int.reduceNeg,↓reduceIte,reduceCtorEq,scL,scD,expand,List.replicate,c5l0,hag])|apply gC_drawW|((first|apply gI_dec|apply gG_dec|apply gPG_dec|apply gI_var|apply gG_var|apply gPG_var)<;>intro _))
  all_goals try (exfalso;omega)
  refine callV_flat (by rw[hC];exact hij.flat rfl rfl) ?_
  repeat' (first|(simp (disch:=first|omega|assumption|exact bd (by with_unfolding_all rfl)|exact Or.inl rfl|exact Or.inl trivial|exact okL_map _ (fun _=>rfl) _|(simp only[VVlen]<;>omega)|fail) only[VV0,VV1,VV2,VV3,VV4,VV5,VV6,VV7,VV8,VV9,mkFnV,vargs,slotsL,opdsA,Nat.reduceEqDiff,Nat.reduceLT,Nat.reduceAdd,Nat.reduceBEq,Int.reduceAdd,Int.reduceSub,Int.reduceLT,Int.reduceLE,Int.reduceEq,Int.reduceNeg,↓reduceIte,reduceCtorEq,scL,scD,expand,List.replicate])|apply gC_drawW|((first|apply gI_dec|apply gG_dec|apply gPG_dec|apply gI_var|apply gG_var|apply gPG_var)<;>intro _))
  exact ⟨P.length - (j+1),_,_,by omega,.refl _ _,j+1,rfl,by omega,take_allJ hlt hall hy,rfl,rfl⟩
end
end Go.Proofs.YtgohenjcanfolaaGreatDoor
