/- What is proved: the law KnitlogCharts returns true for every input.
   Texts: D44V, C44VA, R44V, H44V, P41a, P41b, P41c, P41d, P41e, N44a, N44b, N44c, N44d, K33a, K33b, N44e, N44f, N44g, N44h, N44i, N44j, N44k, N44l, N44m, N44n, N44o, N44p, N44q, N44r, N44s, N44t, N44u, N44v, N44w, N44x, N44y, N44za, N44zb, N44zc, N44zd, N44ze, N44zf, N44zg, N44zh, N44zi, N44zj, E44t, E44u, E44v, E44w, E44x.
-/
import Derived.Test.YtgohenjcanfolaaGreatDoorPart4
import Derived.KernelRfl
import Derived.Test.YtgohenjcanfolaaGreatDoorProg
import Derived.Lib.Join
namespace Go.Proofs.YtgohenjcanfolaaGreatDoor
open Go Go.Itp
set_option maxRecDepth 100000
theorem bG3:aD4 Tryz.prog 114:=aP6 (ms:=#[]) Tryz.func114 (by kernel_rfl) rfl rfl (by decide) (by decide)
end Go.Proofs.YtgohenjcanfolaaGreatDoor
/-
  The seat's functions as the interpreter aA4 them: reckoned out of the loaded form, and shown equal to it.
-/
namespace Go.Proofs.YtgohenjcanfolaaGreatDoor
open Go Go.Itp
set_option maxRecDepth 100000
set_option maxHeartbeats 40000000
noncomputable section
abbrev v7 : List Nat := [44, 46, 92, 175, 176, 177, 210, 78, 128, 169, 62, 114, 115, 116, 117, 118, 119, 131, 153, 154, 155, 156, 158, 159, 171, 191, 194, 198, 217, 190, 192, 109, 152, 218, 221, 222, 228, 229, 230, 231, 232, 233, 234, 235, 236, 237, 238, 239, 240, 241, 242, 243, 244, 245, 246, 247]
theorem gk {n : Nat} {f : Func} {a : i6} (h1 : Tryz.prog.funcs[n]? = some f) (h2 : (f.name == "runtime.NumGoroutine") = false := by kernel_rfl) (h : gzT Tryz.prog f a.code = some (a.code, a.n, a.res) := by kernel_rfl) : kR Tryz.prog n a := gok h1 h2 h
def c6r : i6 := v6 Tryz.prog v7 true Tryz.f6
def uG : AC := J9 c6r 1 []
attribute [local irreducible] uG
def YB : AC := J9 c6r 0 [uG]
attribute [local irreducible] YB
def c6 : i6 := S0 c6r [YB, uG]
def c9r : i6 := v6 Tryz.prog v7 true Tryz.f9
def YC : AC := J9 c9r 0 []
attribute [local irreducible] YC
def c9 : i6 := S0 c9r [YC]
def cJ1 : i6 := v6 Tryz.prog v7 true Tryz.f15
def bQ4 : AC := J9 cJ1 0 []
attribute [local irreducible] bQ4
def c15 : i6 := S0 cJ1 [bQ4]
def c18 : i6 := v6 Tryz.prog v7 true Tryz.f18
def bE2 : i6 := v6 Tryz.prog v7 true Tryz.f22
def bR9 : AC := J9 bE2 2 []
attribute [local irreducible] bR9
def bR8 : AC := J9 bE2 1 []
attribute [local irreducible] bR8
def bS0 : AC := J9 bE2 0 []
attribute [local irreducible] bS0
def c22 : i6 := S0 bE2 [bS0, bR8, bR9]
def cJ9 : i6 := v6 Tryz.prog v7 true Tryz.f23
def bS2 : AC := J9 cJ9 0 []
attribute [local irreducible] bS2
def c23 : i6 := S0 cJ9 [bS2]
def cK0 : i6 := v6 Tryz.prog v7 true Tryz.f27
def bS4 : AC := J9 cK0 0 []
attribute [local irreducible] bS4
def c27 : i6 := S0 cK0 [bS4]
def cK1 : i6 := v6 Tryz.prog v7 true Tryz.f28
def JD : AC := J9 cK1 0 []
attribute [local irreducible] JD
def c28 : i6 := S0 cK1 [JD]
def aI9 : i6 := v6 Tryz.prog v7 true Tryz.f29
def kT : AC := J9 aI9 3 []
attribute [local irreducible] kT
def uB : AC := J9 aI9 2 []
attribute [local irreducible] uB
def uC : AC := J9 aI9 1 [uB, kT]
attribute [local irreducible] uC
def uD : AC := J9 aI9 0 []
attribute [local irreducible] uD
def c29 : i6 := S0 aI9 [uD, uC, uB, kT]
def bE3 : i6 := v6 Tryz.prog v7 true Tryz.f30
def R8 : AC := J9 bE3 2 []
attribute [local irreducible] R8
def uE : AC := J9 bE3 1 [R8]
attribute [local irreducible] uE
def uF : AC := J9 bE3 0 []
attribute [local irreducible] uF
def c30 : i6 := S0 bE3 [uF, uE, R8]
def c31 : i6 := v6 Tryz.prog v7 true Tryz.f31
def c32 : i6 := v6 Tryz.prog v7 true Tryz.f32
def cK4 : i6 := v6 Tryz.prog v7 true Tryz.f33
def JE : AC := J9 cK4 0 []
attribute [local irreducible] JE
def c33 : i6 := S0 cK4 [JE]
def c34 : i6 := v6 Tryz.prog v7 true Tryz.f34
def c35 : i6 := v6 Tryz.prog v7 true Tryz.f35
def c36 : i6 := v6 Tryz.prog v7 true Tryz.f36
def c38 : i6 := v6 Tryz.prog v7 true Tryz.f38
def c41 : i6 := v6 Tryz.prog v7 true Tryz.f41
def c42 : i6 := v6 Tryz.prog v7 true Tryz.f42
def c44 : i6 := v6 Tryz.prog v7 false Tryz.f44
def c46 : i6 := v6 Tryz.prog v7 false Tryz.f46
def cK6 : i6 := v6 Tryz.prog v7 true Tryz.f48
def bS5 : AC := J9 cK6 0 []
attribute [local irreducible] bS5
def c48 : i6 := S0 cK6 [bS5]
def c49 : i6 := v6 Tryz.prog v7 true Tryz.f49
def cK7 : i6 := v6 Tryz.prog v7 true Tryz.f50
def bS6 : AC := J9 cK7 0 []
attribute [local irreducible] bS6
def c50 : i6 := S0 cK7 [bS6]
def cK8 : i6 := v6 Tryz.prog v7 true Tryz.f53
def bS7 : AC := J9 cK8 0 []
attribute [local irreducible] bS7
def c53 : i6 := S0 cK8 [bS7]
def bE4 : i6 := v6 Tryz.prog v7 true Tryz.f58
def bS8 : AC := J9 bE4 2 []
attribute [local irreducible] bS8
def bS9 : AC := J9 bE4 1 []
attribute [local irreducible] bS9
def bT0 : AC := J9 bE4 0 []
attribute [local irreducible] bT0
def c58 : i6 := S0 bE4 [bT0, bS9, bS8]
def c59 : i6 := v6 Tryz.prog v7 true Tryz.f59
def c60 : i6 := v6 Tryz.prog v7 true Tryz.f60
def bZ6 : i6 := v6 Tryz.prog v7 true Tryz.f61
def bT1 : AC := J9 bZ6 1 []
attribute [local irreducible] bT1
def bT2 : AC := J9 bZ6 0 []
attribute [local irreducible] bT2
def c61 : i6 := S0 bZ6 [bT2, bT1]
def c62 : i6 := v6 Tryz.prog v7 false (dD2 Tryz.f62)
def c63 : i6 := v6 Tryz.prog v7 true Tryz.f63
def c64 : i6 := v6 Tryz.prog v7 true Tryz.f64
def bZ7 : i6 := v6 Tryz.prog v7 true Tryz.f65
def bT3 : AC := J9 bZ7 1 []
attribute [local irreducible] bT3
def bT4 : AC := J9 bZ7 0 []
attribute [local irreducible] bT4
def c65 : i6 := S0 bZ7 [bT4, bT3]
def c66 : i6 := v6 Tryz.prog v7 true Tryz.f66
def cK9 : i6 := v6 Tryz.prog v7 true Tryz.f67
def bT5 : AC := J9 cK9 0 []
attribute [local irreducible] bT5
def c67 : i6 := S0 cK9 [bT5]
def c68 : i6 := v6 Tryz.prog v7 true Tryz.f68
def cL0 : i6 := v6 Tryz.prog v7 true Tryz.f69
def JF : AC := J9 cL0 0 []
attribute [local irreducible] JF
def c69 : i6 := S0 cL0 [JF]
def c70 : i6 := v6 Tryz.prog v7 true Tryz.f70
def c71 : i6 := v6 Tryz.prog v7 true Tryz.f71
def cL1 : i6 := v6 Tryz.prog v7 true Tryz.f72
def bT6 : AC := J9 cL1 0 []
attribute [local irreducible] bT6
def c72 : i6 := S0 cL1 [bT6]
def c73 : i6 := v6 Tryz.prog v7 true Tryz.f73
def c74 : i6 := v6 Tryz.prog v7 true Tryz.f74
def c75 : i6 := v6 Tryz.prog v7 true Tryz.f75
def bZ8 : i6 := v6 Tryz.prog v7 true Tryz.f76
def JG : AC := J9 bZ8 1 []
attribute [local irreducible] JG
def TK : AC := J9 bZ8 0 []
attribute [local irreducible] TK
def c76 : i6 := S0 bZ8 [TK, JG]
def cL3 : i6 := v6 Tryz.prog v7 true Tryz.f77
def JH : AC := J9 cL3 0 []
attribute [local irreducible] JH
def c77 : i6 := S0 cL3 [JH]
def cL4 : i6 := v6 Tryz.prog v7 false Tryz.f78
def JI : AC := J9 cL4 0 []
attribute [local irreducible] JI
def c78 : i6 := S0 cL4 [JI]
def cL6 : i6 := v6 Tryz.prog v7 true Tryz.f79
def AA : AC := J9 cL6 0 []
attribute [local irreducible] AA
def c79 : i6 := S0 cL6 [AA]
def bZ9 : i6 := v6 Tryz.prog v7 true Tryz.f80
def uH : AC := J9 bZ9 1 []
attribute [local irreducible] uH
def TL : AC := J9 bZ9 0 [uH]
attribute [local irreducible] TL
def c80 : i6 := S0 bZ9 [TL, uH]
def cA0 : i6 := v6 Tryz.prog v7 true Tryz.f81
def TN : AC := J9 cA0 1 []
attribute [local irreducible] TN
def TM : AC := J9 cA0 0 []
attribute [local irreducible] TM
def c81 : i6 := S0 cA0 [TM, TN]
def c82 : i6 := v6 Tryz.prog v7 true Tryz.f82
def c83 : i6 := v6 Tryz.prog v7 true Tryz.f83
def c84 : i6 := v6 Tryz.prog v7 true Tryz.f84
def c85 : i6 := v6 Tryz.prog v7 true Tryz.f85
def c90 : i6 := v6 Tryz.prog v7 true Tryz.f90
def cL8 : i6 := v6 Tryz.prog v7 true Tryz.f91
def bT7 : AC := J9 cL8 0 []
attribute [local irreducible] bT7
def c91 : i6 := S0 cL8 [bT7]
def c92 : i6 := v6 Tryz.prog v7 false Tryz.f92
def cL9 : i6 := v6 Tryz.prog v7 true Tryz.f95
def bT8 : AC := J9 cL9 0 []
attribute [local irreducible] bT8
def c95 : i6 := S0 cL9 [bT8]
def c97 : i6 := v6 Tryz.prog v7 true Tryz.f97
def c98 : i6 := v6 Tryz.prog v7 true Tryz.f98
def c99 : i6 := v6 Tryz.prog v7 true Tryz.f99
def cS6 : i6 := v6 Tryz.prog v7 true Tryz.f100
def bP5 : i6 := v6 Tryz.prog v7 true Tryz.f101
def aF0 : AC := J9 bP5 0 []
attribute [local irreducible] aF0
def cS7 : i6 := S0 bP5 [aF0]
def cS8 : i6 := v6 Tryz.prog v7 true Tryz.f103
def cS9 : i6 := v6 Tryz.prog v7 true Tryz.f104
def bP6 : i6 := v6 Tryz.prog v7 true Tryz.f105
def aF1 : AC := J9 bP6 0 []
attribute [local irreducible] aF1
def cT0 : i6 := S0 bP6 [aF1]
def cT1 : i6 := v6 Tryz.prog v7 true Tryz.f106
def bP7 : i6 := v6 Tryz.prog v7 true Tryz.f107
def aF2 : AC := J9 bP7 0 []
attribute [local irreducible] aF2
def cT2 : i6 := S0 bP7 [aF2]
def cT3 : i6 := v6 Tryz.prog v7 true Tryz.f108
def bP8 : i6 := v6 Tryz.prog v7 false Tryz.f109
def aF3 : AC := J9 bP8 0 []
attribute [local irreducible] aF3
def cT4 : i6 := S0 bP8 [aF3]
def cT5 : i6 := v6 Tryz.prog v7 true Tryz.f110
def cT6 : i6 := v6 Tryz.prog v7 true Tryz.f111
def cT7 : i6 := v6 Tryz.prog v7 true Tryz.f112
def cT8 : i6 := v6 Tryz.prog v7 true Tryz.f113
def cT9 : i6 := v6 Tryz.prog v7 false Tryz.f115
def cU0 : i6 := v6 Tryz.prog v7 false Tryz.f116
def cU1 : i6 := v6 Tryz.prog v7 false Tryz.f117
def cU2 : i6 := v6 Tryz.prog v7 false Tryz.f118
def cU3 : i6 := v6 Tryz.prog v7 false Tryz.f119
def bP9 : i6 := v6 Tryz.prog v7 true Tryz.f120
def aF4 : AC := J9 bP9 0 []
attribute [local irreducible] aF4
def cU4 : i6 := S0 bP9 [aF4]
def cU5 : i6 := v6 Tryz.prog v7 true Tryz.f121
def cI9 : i6 := v6 Tryz.prog v7 true Tryz.f122
def aF5 : i6 := v6 Tryz.prog v7 true Tryz.f123
def bE0 : i6 := v6 Tryz.prog v7 true Tryz.f124
def bY6 : i6 := v6 Tryz.prog v7 true Tryz.f125
def bY7 : i6 := v6 Tryz.prog v7 true Tryz.f126
def aF6 : i6 := v6 Tryz.prog v7 true Tryz.f127
def cJ0 : i6 := v6 Tryz.prog v7 false Tryz.f128
def bY8 : i6 := v6 Tryz.prog v7 true Tryz.f129
def bQ0 : i6 := v6 Tryz.prog v7 true Tryz.f130
def aF7 : AC := J9 bQ0 0 []
attribute [local irreducible] aF7
def cU6 : i6 := S0 bQ0 [aF7]
def cU7 : i6 := v6 Tryz.prog v7 false Tryz.f131
def cU8 : i6 := v6 Tryz.prog v7 true Tryz.f133
def cU9 : i6 := v6 Tryz.prog v7 true Tryz.f134
def cV0 : i6 := v6 Tryz.prog v7 true Tryz.f135
def aG0 : i6 := v6 Tryz.prog v7 true Tryz.f136
def aF8 : AC := J9 aG0 1 []
attribute [local irreducible] aF8
def aF9 : AC := J9 aG0 0 []
attribute [local irreducible] aF9
def cV1 : i6 := S0 aG0 [aF9, aF8]
def bQ1 : i6 := v6 Tryz.prog v7 true Tryz.f141
def aG1 : AC := J9 bQ1 0 []
attribute [local irreducible] aG1
def cV2 : i6 := S0 bQ1 [aG1]
def cV3 : i6 := v6 Tryz.prog v7 true Tryz.f142
def bQ2 : i6 := v6 Tryz.prog v7 true Tryz.f143
def aG2 : AC := J9 bQ2 0 []
attribute [local irreducible] aG2
def cV4 : i6 := S0 bQ2 [aG2]
def cV5 : i6 := v6 Tryz.prog v7 true Tryz.f144
def bQ3 : i6 := v6 Tryz.prog v7 true Tryz.f145
def aG3 : AC := J9 bQ3 0 []
attribute [local irreducible] aG3
def cV6 : i6 := S0 bQ3 [aG3]
def cV7 : i6 := v6 Tryz.prog v7 true Tryz.f146
def cV8 : i6 := v6 Tryz.prog v7 true Tryz.f147
def cV9 : i6 := v6 Tryz.prog v7 true Tryz.f150
def cW0 : i6 := v6 Tryz.prog v7 true Tryz.f151
def aG5 : i6 := v6 Tryz.prog v7 false Tryz.f152
def QM : AC := J9 aG5 1 []
attribute [local irreducible] QM
def aG4 : AC := J9 aG5 0 [QM]
attribute [local irreducible] aG4
def cW1 : i6 := S0 aG5 [aG4, QM]
def cW2 : i6 := v6 Tryz.prog v7 false Tryz.f153
def cW3 : i6 := v6 Tryz.prog v7 false Tryz.f154
def cW4 : i6 := v6 Tryz.prog v7 false Tryz.f155
def cW5 : i6 := v6 Tryz.prog v7 false Tryz.f156
def cW6 : i6 := v6 Tryz.prog v7 true Tryz.f157
def cW7 : i6 := v6 Tryz.prog v7 false Tryz.f158
def cW8 : i6 := v6 Tryz.prog v7 false Tryz.f159
def bQ5 : i6 := v6 Tryz.prog v7 true Tryz.f160
def pB : AC := J9 bQ5 0 []
attribute [local irreducible] pB
def cJ2 : i6 := S0 bQ5 [pB]
def bY9 : i6 := v6 Tryz.prog v7 true Tryz.f161
def bZ0 : i6 := v6 Tryz.prog v7 true Tryz.f162
def bQ6 : i6 := v6 Tryz.prog v7 true Tryz.f163
def fP : AC := J9 bQ6 0 []
attribute [local irreducible] fP
def bZ1 : i6 := S0 bQ6 [fP]
def bQ7 : i6 := v6 Tryz.prog v7 true Tryz.f164
def pC : AC := J9 bQ7 0 []
attribute [local irreducible] pC
def bZ2 : i6 := S0 bQ7 [pC]
def bQ8 : i6 := v6 Tryz.prog v7 true Tryz.f165
def EY : AC := J9 bQ8 0 []
attribute [local irreducible] EY
def cJ3 : i6 := S0 bQ8 [EY]
def bZ3 : i6 := v6 Tryz.prog v7 true Tryz.f166
def bZ4 : i6 := v6 Tryz.prog v7 true Tryz.f167
def bQ9 : i6 := v6 Tryz.prog v7 true Tryz.f168
def EZ : AC := J9 bQ9 0 []
attribute [local irreducible] EZ
def cJ4 : i6 := S0 bQ9 [EZ]
def bR0 : i6 := v6 Tryz.prog v7 false Tryz.f169
def pD : AC := J9 bR0 0 []
attribute [local irreducible] pD
def bZ5 : i6 := S0 bR0 [pD]
def cW9 : i6 := v6 Tryz.prog v7 true Tryz.f170
def cX0 : i6 := v6 Tryz.prog v7 false Tryz.f171
def cX1 : i6 := v6 Tryz.prog v7 true Tryz.f173
def cX2 : i6 := v6 Tryz.prog v7 true Tryz.f174
def bR1 : i6 := v6 Tryz.prog v7 false Tryz.f175
def aG6 : AC := J9 bR1 0 []
attribute [local irreducible] aG6
def cX3 : i6 := S0 bR1 [aG6]
def aG9 : i6 := v6 Tryz.prog v7 false Tryz.f176
def aG7 : AC := J9 aG9 1 []
attribute [local irreducible] aG7
def aG8 : AC := J9 aG9 0 []
attribute [local irreducible] aG8
def cX4 : i6 := S0 aG9 [aG8, aG7]
def cX5 : i6 := v6 Tryz.prog v7 false Tryz.f177
def cX6 : i6 := v6 Tryz.prog v7 true Tryz.f178
def cX8 : i6 := v6 Tryz.prog v7 true Tryz.f180
def aH2 : i6 := v6 Tryz.prog v7 true Tryz.f181
def aH0 : AC := J9 aH2 1 []
attribute [local irreducible] aH0
def aH1 : AC := J9 aH2 0 []
attribute [local irreducible] aH1
def cX9 : i6 := S0 aH2 [aH1, aH0]
def cY0 : i6 := v6 Tryz.prog v7 true Tryz.f182
def cY1 : i6 := v6 Tryz.prog v7 true Tryz.f183
def cY2 : i6 := v6 Tryz.prog v7 true Tryz.f184
def cY3 : i6 := v6 Tryz.prog v7 true Tryz.f185
def cY4 : i6 := v6 Tryz.prog v7 true Tryz.f186
def cY5 : i6 := v6 Tryz.prog v7 true Tryz.f187
def cY6 : i6 := v6 Tryz.prog v7 true Tryz.f188
def cY7 : i6 := v6 Tryz.prog v7 false Tryz.f190
def cY8 : i6 := v6 Tryz.prog v7 false Tryz.f191
def bR2 : i6 := v6 Tryz.prog v7 false Tryz.f192
def aH3 : AC := J9 bR2 0 []
attribute [local irreducible] aH3
def cY9 : i6 := S0 bR2 [aH3]
def cZ0 : i6 := v6 Tryz.prog v7 true Tryz.f193
def cZ1 : i6 := v6 Tryz.prog v7 false Tryz.f194
def bR3 : i6 := v6 Tryz.prog v7 true Tryz.f195
def aH4 : AC := J9 bR3 0 []
attribute [local irreducible] aH4
def cZ2 : i6 := S0 bR3 [aH4]
def cZ3 : i6 := v6 Tryz.prog v7 true Tryz.f196
def cZ4 : i6 := v6 Tryz.prog v7 false Tryz.f198
def cJ5 : i6 := v6 Tryz.prog v7 true Tryz.f199
def cJ6 : i6 := v6 Tryz.prog v7 true Tryz.f200
def cJ7 : i6 := v6 Tryz.prog v7 true Tryz.f201
def bE1 : i6 := v6 Tryz.prog v7 true Tryz.f202
def cJ8 : i6 := v6 Tryz.prog v7 true Tryz.f203
def bR4 : i6 := v6 Tryz.prog v7 true Tryz.f204
def aH5 : AC := J9 bR4 0 []
attribute [local irreducible] aH5
def cZ5 : i6 := S0 bR4 [aH5]
def cZ6 : i6 := v6 Tryz.prog v7 true Tryz.f205
def cZ7 : i6 := v6 Tryz.prog v7 true Tryz.f206
def cZ8 : i6 := v6 Tryz.prog v7 true Tryz.f207
def cZ9 : i6 := v6 Tryz.prog v7 true Tryz.f208
def dA0 : i6 := v6 Tryz.prog v7 true Tryz.f209
def dA1 : i6 := v6 Tryz.prog v7 false Tryz.f210
def aH8 : i6 := v6 Tryz.prog v7 true Tryz.f212
def aH6 : AC := J9 aH8 1 []
attribute [local irreducible] aH6
def aH7 : AC := J9 aH8 0 []
attribute [local irreducible] aH7
def dA2 : i6 := S0 aH8 [aH7, aH6]
def bR5 : i6 := v6 Tryz.prog v7 true Tryz.f213
def aH9 : AC := J9 bR5 0 []
attribute [local irreducible] aH9
def dA3 : i6 := S0 bR5 [aH9]
def dA4 : i6 := v6 Tryz.prog v7 true Tryz.f214
def dA5 : i6 := v6 Tryz.prog v7 true Tryz.f215
def dA6 : i6 := v6 Tryz.prog v7 true Tryz.f216
def aI2 : i6 := v6 Tryz.prog v7 false Tryz.f217
def aI1 : AC := J9 aI2 1 []
attribute [local irreducible] aI1
def aI0 : AC := J9 aI2 0 []
attribute [local irreducible] aI0
def dA7 : i6 := S0 aI2 [aI0, aI1]
def bR6 : i6 := v6 Tryz.prog v7 false Tryz.f218
def aI3 : AC := J9 bR6 0 []
attribute [local irreducible] aI3
def dA8 : i6 := S0 bR6 [aI3]
def dA9 : i6 := v6 Tryz.prog v7 true Tryz.f219
def dB0 : i6 := v6 Tryz.prog v7 false Tryz.f221
def dB1 : i6 := v6 Tryz.prog v7 false Tryz.f222
def dB2 : i6 := v6 Tryz.prog v7 true Tryz.f223
def dB3 : i6 := v6 Tryz.prog v7 true Tryz.f224
def dB4 : i6 := v6 Tryz.prog v7 true Tryz.f226
def bR7 : i6 := v6 Tryz.prog v7 true Tryz.f227
def aI4 : AC := J9 bR7 0 []
attribute [local irreducible] aI4
def dB5 : i6 := S0 bR7 [aI4]
def aI6 : i6 := v6 Tryz.prog v7 false Tryz.f228
def QN : AC := J9 aI6 1 []
attribute [local irreducible] QN
def aI5 : AC := J9 aI6 0 [QN]
attribute [local irreducible] aI5
def dB6 : i6 := S0 aI6 [aI5, QN]
def dB7 : i6 := v6 Tryz.prog v7 false Tryz.f238
def bS1 : i6 := v6 Tryz.prog v7 false Tryz.f239
def aI7 : AC := J9 bS1 0 []
attribute [local irreducible] aI7
def dB8 : i6 := S0 bS1 [aI7]
def bS3 : i6 := v6 Tryz.prog v7 false Tryz.f246
def aI8 : AC := J9 bS3 0 []
attribute [local irreducible] aI8
def dB9 : i6 := S0 bS3 [aI8]
def cB0 : FuncId → Option i6
  | 6 => some c6
  | 9 => some c9
  | 15 => some c15
  | 18 => some c18
  | 22 => some c22
  | 23 => some c23
  | 27 => some c27
  | 28 => some c28
  | 29 => some c29
  | 30 => some c30
  | 31 => some c31
  | 32 => some c32
  | 33 => some c33
  | 34 => some c34
  | 35 => some c35
  | 36 => some c36
  | 38 => some c38
  | 41 => some c41
  | 42 => some c42
  | 44 => some c44
  | 46 => some c46
  | 48 => some c48
  | 49 => some c49
  | 50 => some c50
  | 53 => some c53
  | 58 => some c58
  | 59 => some c59
  | 60 => some c60
  | 61 => some c61
  | 62 => some c62
  | 63 => some c63
  | 64 => some c64
  | 65 => some c65
  | 66 => some c66
  | 67 => some c67
  | 68 => some c68
  | 69 => some c69
  | 70 => some c70
  | 71 => some c71
  | 72 => some c72
  | 73 => some c73
  | 74 => some c74
  | 75 => some c75
  | 76 => some c76
  | 77 => some c77
  | 78 => some c78
  | 79 => some c79
  | 80 => some c80
  | 81 => some c81
  | 82 => some c82
  | 83 => some c83
  | 84 => some c84
  | 85 => some c85
  | 90 => some c90
  | 91 => some c91
  | 92 => some c92
  | 95 => some c95
  | 97 => some c97
  | 98 => some c98
  | 99 => some c99
  | _ => none
theorem bF6 : dE Tryz.prog cB0 := by
  intro f af h
  unfold cB0 at h
  split at h
  · cases h; exact gk Tryz.func6
  · cases h; exact gk Tryz.func9
  · cases h; exact gk Tryz.func15
  · cases h; exact gk Tryz.func18
  · cases h; exact gk Tryz.func22
  · cases h; exact gk Tryz.func23
  · cases h; exact gk Tryz.func27
  · cases h; exact gk Tryz.func28
  · cases h; exact gk Tryz.func29
  · cases h; exact gk Tryz.func30
  · cases h; exact gk Tryz.func31
  · cases h; exact gk Tryz.func32
  · cases h; exact gk Tryz.func33
  · cases h; exact gk Tryz.func34
  · cases h; exact gk Tryz.func35
  · cases h; exact gk Tryz.func36
  · cases h; exact gk Tryz.func38
  · cases h; exact gk Tryz.func41
  · cases h; exact gk Tryz.func42
  · cases h; exact gk Tryz.func44
  · cases h; exact gk Tryz.func46
  · cases h; exact gk Tryz.func48
  · cases h; exact gk Tryz.func49
  · cases h; exact gk Tryz.func50
  · cases h; exact gk Tryz.func53
  · cases h; exact gk Tryz.func58
  · cases h; exact gk Tryz.func59
  · cases h; exact gk Tryz.func60
  · cases h; exact gk Tryz.func61
  · cases h; exact dD1 (t := 6) Tryz.func62 (by kernel_rfl) Tryz.func114 rfl (by kernel_rfl) bG3 (by kernel_rfl)
  · cases h; exact gk Tryz.func63
  · cases h; exact gk Tryz.func64
  · cases h; exact gk Tryz.func65
  · cases h; exact gk Tryz.func66
  · cases h; exact gk Tryz.func67
  · cases h; exact gk Tryz.func68
  · cases h; exact gk Tryz.func69
  · cases h; exact gk Tryz.func70
  · cases h; exact gk Tryz.func71
  · cases h; exact gk Tryz.func72
  · cases h; exact gk Tryz.func73
  · cases h; exact gk Tryz.func74
  · cases h; exact gk Tryz.func75
  · cases h; exact gk Tryz.func76
  · cases h; exact gk Tryz.func77
  · cases h; exact gk Tryz.func78
  · cases h; exact gk Tryz.func79
  · cases h; exact gk Tryz.func80
  · cases h; exact gk Tryz.func81
  · cases h; exact gk Tryz.func82
  · cases h; exact gk Tryz.func83
  · cases h; exact gk Tryz.func84
  · cases h; exact gk Tryz.func85
  · cases h; exact gk Tryz.func90
  · cases h; exact gk Tryz.func91
  · cases h; exact gk Tryz.func92
  · cases h; exact gk Tryz.func95
  · cases h; exact gk Tryz.func97
  · cases h; exact gk Tryz.func98
  · cases h; exact gk Tryz.func99
  · cases h
def cB1 : FuncId → Option i6
  | 100 => some cS6
  | 101 => some cS7
  | 103 => some cS8
  | 104 => some cS9
  | 105 => some cT0
  | 106 => some cT1
  | 107 => some cT2
  | 108 => some cT3
  | 109 => some cT4
  | 110 => some cT5
  | 111 => some cT6
  | 112 => some cT7
  | 113 => some cT8
  | 115 => some cT9
  | 116 => some cU0
  | 117 => some cU1
  | 118 => some cU2
  | 119 => some cU3
  | 120 => some cU4
  | 121 => some cU5
  | 122 => some cI9
  | 123 => some aF5
  | 124 => some bE0
  | 125 => some bY6
  | 126 => some bY7
  | 127 => some aF6
  | 128 => some cJ0
  | 129 => some bY8
  | 130 => some cU6
  | 131 => some cU7
  | 133 => some cU8
  | 134 => some cU9
  | 135 => some cV0
  | 136 => some cV1
  | 141 => some cV2
  | 142 => some cV3
  | 143 => some cV4
  | 144 => some cV5
  | 145 => some cV6
  | 146 => some cV7
  | 147 => some cV8
  | 150 => some cV9
  | 151 => some cW0
  | 152 => some cW1
  | 153 => some cW2
  | 154 => some cW3
  | 155 => some cW4
  | 156 => some cW5
  | 157 => some cW6
  | 158 => some cW7
  | 159 => some cW8
  | 160 => some cJ2
  | 161 => some bY9
  | 162 => some bZ0
  | 163 => some bZ1
  | 164 => some bZ2
  | 165 => some cJ3
  | 166 => some bZ3
  | 167 => some bZ4
  | 168 => some cJ4
  | _ => none
theorem bF7 : dE Tryz.prog cB1 := by
  intro f af h
  unfold cB1 at h
  split at h
  · cases h; exact gk Tryz.func100
  · cases h; exact gk Tryz.func101
  · cases h; exact gk Tryz.func103
  · cases h; exact gk Tryz.func104
  · cases h; exact gk Tryz.func105
  · cases h; exact gk Tryz.func106
  · cases h; exact gk Tryz.func107
  · cases h; exact gk Tryz.func108
  · cases h; exact gk Tryz.func109
  · cases h; exact gk Tryz.func110
  · cases h; exact gk Tryz.func111
  · cases h; exact gk Tryz.func112
  · cases h; exact gk Tryz.func113
  · cases h; exact gk Tryz.func115
  · cases h; exact gk Tryz.func116
  · cases h; exact gk Tryz.func117
  · cases h; exact gk Tryz.func118
  · cases h; exact gk Tryz.func119
  · cases h; exact gk Tryz.func120
  · cases h; exact gk Tryz.func121
  · cases h; exact gk Tryz.func122
  · cases h; exact gk Tryz.func123
  · cases h; exact gk Tryz.func124
  · cases h; exact gk Tryz.func125
  · cases h; exact gk Tryz.func126
  · cases h; exact gk Tryz.func127
  · cases h; exact gk Tryz.func128
  · cases h; exact gk Tryz.func129
  · cases h; exact gk Tryz.func130
  · cases h; exact gk Tryz.func131
  · cases h; exact gk Tryz.func133
  · cases h; exact gk Tryz.func134
  · cases h; exact gk Tryz.func135
  · cases h; exact gk Tryz.func136
  · cases h; exact gk Tryz.func141
  · cases h; exact gk Tryz.func142
  · cases h; exact gk Tryz.func143
  · cases h; exact gk Tryz.func144
  · cases h; exact gk Tryz.func145
  · cases h; exact gk Tryz.func146
  · cases h; exact gk Tryz.func147
  · cases h; exact gk Tryz.func150
  · cases h; exact gk Tryz.func151
  · cases h; exact gk Tryz.func152
  · cases h; exact gk Tryz.func153
  · cases h; exact gk Tryz.func154
  · cases h; exact gk Tryz.func155
  · cases h; exact gk Tryz.func156
  · cases h; exact gk Tryz.func157
  · cases h; exact gk Tryz.func158
  · cases h; exact gk Tryz.func159
  · cases h; exact gk Tryz.func160
  · cases h; exact gk Tryz.func161
  · cases h; exact gk Tryz.func162
  · cases h; exact gk Tryz.func163
  · cases h; exact gk Tryz.func164
  · cases h; exact gk Tryz.func165
  · cases h; exact gk Tryz.func166
  · cases h; exact gk Tryz.func167
  · cases h; exact gk Tryz.func168
  · cases h
def cB2 : FuncId → Option i6
  | 169 => some bZ5
  | 170 => some cW9
  | 171 => some cX0
  | 173 => some cX1
  | 174 => some cX2
  | 175 => some cX3
  | 176 => some cX4
  | 177 => some cX5
  | 178 => some cX6
  | 180 => some cX8
  | 181 => some cX9
  | 182 => some cY0
  | 183 => some cY1
  | 184 => some cY2
  | 185 => some cY3
  | 186 => some cY4
  | 187 => some cY5
  | 188 => some cY6
  | 190 => some cY7
  | 191 => some cY8
  | 192 => some cY9
  | 193 => some cZ0
  | 194 => some cZ1
  | 195 => some cZ2
  | 196 => some cZ3
  | 198 => some cZ4
  | 199 => some cJ5
  | 200 => some cJ6
  | 201 => some cJ7
  | 202 => some bE1
  | 203 => some cJ8
  | 204 => some cZ5
  | 205 => some cZ6
  | 206 => some cZ7
  | 207 => some cZ8
  | 208 => some cZ9
  | 209 => some dA0
  | 210 => some dA1
  | 212 => some dA2
  | 213 => some dA3
  | 214 => some dA4
  | 215 => some dA5
  | 216 => some dA6
  | 217 => some dA7
  | 218 => some dA8
  | 219 => some dA9
  | 221 => some dB0
  | 222 => some dB1
  | 223 => some dB2
  | 224 => some dB3
  | 226 => some dB4
  | 227 => some dB5
  | 228 => some dB6
  | 238 => some dB7
  | 239 => some dB8
  | 246 => some dB9
  | _ => none
theorem bF8 : dE Tryz.prog cB2 := by
  intro f af h
  unfold cB2 at h
  split at h
  · cases h; exact gk Tryz.func169
  · cases h; exact gk Tryz.func170
  · cases h; exact gk Tryz.func171
  · cases h; exact gk Tryz.func173
  · cases h; exact gk Tryz.func174
  · cases h; exact gk Tryz.func175
  · cases h; exact gk Tryz.func176
  · cases h; exact gk Tryz.func177
  · cases h; exact gk Tryz.func178
  · cases h; exact gk Tryz.func180
  · cases h; exact gk Tryz.func181
  · cases h; exact gk Tryz.func182
  · cases h; exact gk Tryz.func183
  · cases h; exact gk Tryz.func184
  · cases h; exact gk Tryz.func185
  · cases h; exact gk Tryz.func186
  · cases h; exact gk Tryz.func187
  · cases h; exact gk Tryz.func188
  · cases h; exact gk Tryz.func190
  · cases h; exact gk Tryz.func191
  · cases h; exact gk Tryz.func192
  · cases h; exact gk Tryz.func193
  · cases h; exact gk Tryz.func194
  · cases h; exact gk Tryz.func195
  · cases h; exact gk Tryz.func196
  · cases h; exact gk Tryz.func198
  · cases h; exact gk Tryz.func199
  · cases h; exact gk Tryz.func200
  · cases h; exact gk Tryz.func201
  · cases h; exact gk Tryz.func202
  · cases h; exact gk Tryz.func203
  · cases h; exact gk Tryz.func204
  · cases h; exact gk Tryz.func205
  · cases h; exact gk Tryz.func206
  · cases h; exact gk Tryz.func207
  · cases h; exact gk Tryz.func208
  · cases h; exact gk Tryz.func209
  · cases h; exact gk Tryz.func210
  · cases h; exact gk Tryz.func212
  · cases h; exact gk Tryz.func213
  · cases h; exact gk Tryz.func214
  · cases h; exact gk Tryz.func215
  · cases h; exact gk Tryz.func216
  · cases h; exact gk Tryz.func217
  · cases h; exact gk Tryz.func218
  · cases h; exact gk Tryz.func219
  · cases h; exact gk Tryz.func221
  · cases h; exact gk Tryz.func222
  · cases h; exact gk Tryz.func223
  · cases h; exact gk Tryz.func224
  · cases h; exact gk Tryz.func226
  · cases h; exact gk Tryz.func227
  · cases h; exact gk Tryz.func228
  · cases h; exact gk Tryz.func238
  · cases h; exact gk Tryz.func239
  · cases h; exact gk Tryz.func246
  · cases h
def fns (f : FuncId) : Option i6 := (cB0 f).or ((cB1 f).or (cB2 f))
theorem aM1 : dE Tryz.prog fns := by
  intro f af h
  unfold fns at h
  rcases Option.or_eq_some_iff.1 h with h | ⟨_, h⟩
  · exact bF6 f af h
  rcases Option.or_eq_some_iff.1 h with h | ⟨_, h⟩
  · exact bF7 f af h
  exact bF8 f af h
end
end Go.Proofs.YtgohenjcanfolaaGreatDoor
namespace Go.Proofs.YtgohenjcanfolaaGreatDoor
open Go Go.Itp
set_option maxRecDepth 100000
def RP:List (FuncId × IL × TypeId):= [(137,.same,0),(211,.indexByte,0),(96,.count,0),(225,.makeNoZero,5)]
theorem ZR:tF Tryz.prog RP:=
 ⟨⟨⟨Tryz.f137,Tryz.func137,by kernel_rfl,by kernel_rfl,by kernel_rfl,rfl⟩⟩,⟨⟨Tryz.f211,Tryz.func211,by kernel_rfl,by kernel_rfl,by kernel_rfl,rfl⟩⟩,⟨⟨Tryz.f96,Tryz.func96,by kernel_rfl,by kernel_rfl,by kernel_rfl,rfl⟩⟩,
  ⟨⟨Tryz.f225,Tryz.func225,by kernel_rfl,by kernel_rfl,#[3],97,by kernel_rfl,rfl,Tryz.underlying97⟩⟩,trivial⟩
theorem aA3:HK true (body (C5 (fun _ _=>none) C7 fns (oB RP) 40) c18 [] St.empty)=true:=by kernel_rfl
end Go.Proofs.YtgohenjcanfolaaGreatDoor
namespace Go.Proofs.YtgohenjcanfolaaGreatDoor
open Go Go.Itp
open Go.RowKit (Below)
set_option maxRecDepth 100000
set_option linter.unusedVariables false
theorem own:ownKnob Tryz.prog.godebug=none:=by kernel_rfl
theorem bV5:Tryz.prog.follows .mixedOrders=true:=by kernel_rfl
def aQ5:List (FuncId × List Value × Bool):= [(18,[],true)]
theorem YX:∃ fn c,Tryz.prog.funcs[(18:Nat)]? =some fn∧fn.body=some c∧(fn.name== "runtime.NumGoroutine")=false:=⟨Tryz.f18,_,Tryz.func18,rfl,by kernel_rfl⟩
theorem aQ6:EM Tryz.prog (fun _ _=>none) aQ5:=
 ⟨XV bV5 aM1 (fun w _=>wQ RP ZR w) (f:=18) (af:=c18) rfl rfl aA3,YX,trivial⟩
abbrev PR (w:World):FuncId→List Value→St→Option (Value × List u7):=ML aQ5
noncomputable abbrev EN (w:World) (n:Nat):D3:=C5 (F1 w) C7 fns (PR w) n
theorem aT7 (W:World):bJ Tryz.prog (PR W) W:=MM (old:=fun _ _=>none) (fun _ _ _ h=>by cases h) aQ5 aQ6
theorem cB9 {W:World} {f:FuncId} {af:i6} (hf:fns f=some af) {xs:List Value} (hxs:w8 0 xs= []) (n:Nat) {v:Value} {s':St} (hb:body (EN W n) af xs St.empty=some (v,s')) (hv:p9 0 v= []):
  Calls Tryz.prog f xs.toArray W fun e w'=>e= .returned v∧Below W.heap.size W w':=
 cB8 bV5 aM1 (aS5 W) (aT7 W) hf hxs n hb hv
theorem bD2 (w:World) (n:Nat) (st:n5):bZ (EN w (n+1)) 18 st [] (.sc (.bool true)):=by
 intro s μ F xsI w0 hsr hx
 have:xsI= []:=by simpa [j6] using hx
 subst this
 exact ⟨.bool true,rfl,fun w=> .mksc rfl⟩
end Go.Proofs.YtgohenjcanfolaaGreatDoor
namespace Go.Itp
set_option linter.unusedVariables false
set_option linter.unusedSimpArgs false
set_option maxRecDepth 10000
structure o8 where
 kind:Nat
 purl:Bool
 a:Int
 b:Int
abbrev cQ4:List UInt8:= [107,110,105,116]
abbrev cQ7:List UInt8:= [112,117,114,108]
abbrev cQ8:List UInt8:= [115,108,105,112]
abbrev cR1:List UInt8:= [119,105,116,104]
abbrev bX3:List UInt8:= [121,97,114,110]
abbrev wIn:List UInt8:= [105,110]
abbrev bB7:List UInt8:= [102,114,111,110,116]
abbrev cQ6:List UInt8:= [111,118,101,114]
abbrev cQ9:List UInt8:= [116,111,103,101,116,104,101,114]
abbrev cG7:List UInt8:= [40,102,105,114,115,116]
abbrev wOn:List UInt8:= [111,110]
abbrev dE5:List UInt8:= [116,111,112,41]
abbrev cQ5:List UInt8:= [109,97,107,101]
abbrev dE4:List UInt8:= [111,117,116]
abbrev wOf:List UInt8:= [111,102]
abbrev w1:List UInt8:= [49]
abbrev cR0:List UInt8:= [112,117,114,108,119,105,115,101]
abbrev bB6:List UInt8:= [99,114,111,115,115]
abbrev bN5:List UInt8:= [98,101,104,105,110,100]
abbrev cQ3:List UInt8:= [99,97,115,116]
abbrev cQ2:List UInt8:= [98,105,110,100]
abbrev dE3:List UInt8:= [111,102,102]
abbrev cG8:List UInt8:= [116,105,109,101,115]
theorem o8.ext' {x y:o8} (h1:x.kind=y.kind) (h2:x.purl=y.purl) (h3:x.a=y.a) (h4:x.b=y.b):x=y:=by
 cases x;cases y;simp_all
instance:DecidableEq o8:=fun x y=>decidable_of_iff (x.kind=y.kind∧x.purl=y.purl∧x.a=y.a∧x.b=y.b) ⟨fun ⟨h1,h2,h3,h4⟩=>o8.ext' h1 h2 h3 h4,fun h=>by subst h;exact ⟨rfl,rfl,rfl,rfl⟩⟩
def iS:o8:=⟨0,false,0,0⟩
instance:Inhabited o8:=⟨iS⟩
def W4 (x:o8):Prop:=
 (x.kind=1∨x.kind=8)∧x.a=0∧x.b=0∨
 x.kind=2∧x.purl=false∧x.a=0∧x.b=0∨
 (x.kind=3∨x.kind=4∨x.kind=5)∧2≤x.a∧x.a≤4∧x.b=0∨
 (x.kind=6∨x.kind=7)∧(1≤x.a∧x.a≤6)∧1≤x.b∧x.b≤6∨
 x.kind=9∧x.purl=false∧1≤x.a∧x.a≤200∧x.b=0∨
 x.kind=10∧1≤x.a∧x.a≤200∧x.b=0
instance cP8 (x:o8):Decidable (W4 x):=by unfold W4;infer_instance
def F5 (x:o8):Bool:=decide (W4 x)
theorem I3 {x:o8}:F5 x=true↔W4 x:=by unfold F5;exact decide_eq_true_iff
theorem W4.bounds {x:o8} (h:W4 x):1≤x.kind∧x.kind≤10∧0≤x.a∧x.a≤200∧0≤x.b∧x.b≤6:=by
 unfold W4 at h
 omega
def aY1 (p:Bool):List UInt8:=if p=true then cQ7 else cQ4
def XL (p:Bool):List (List UInt8):=if p=true then [cR0] else []
def cI8 (x:o8) (n:Int):List (List UInt8):=match x.kind with
 |1=> [aY1 x.purl,Lib.itoa n]
 |2=> [bX3,cQ6]
 |3=> [aY1 x.purl,Lib.itoa x.a,cQ9,cG7,wOn,dE5]
 |4=> [aY1 x.purl,Lib.itoa x.a,cQ9]
 |5=> [cQ5,Lib.itoa x.a,dE4,wOf,w1]++XL x.purl
 |6=> [bB6,Lib.itoa x.a,wIn,bB7,wOf,Lib.itoa x.b]++XL x.purl
 |7=> [bB6,Lib.itoa x.a,bN5,Lib.itoa x.b]++XL x.purl
 |8=> [cQ8,Lib.itoa n]++if x.purl=true then [cR1,bX3,wIn,bB7] else []
 |9=> [cQ3,wOn,Lib.itoa x.a]
 |_=> [cQ2,dE3,Lib.itoa x.a]++XL x.purl
def cE9 (x:o8) (n:Int):List (List UInt8):=if 1<n∧x.kind ≠ 1∧x.kind ≠ 8 then [Lib.itoa n,cG8] else []
def bI7 (x:o8) (n:Int):List (List UInt8):=cI8 x n++cE9 x n
def bI6 (x:o8) (n:Int):List UInt8:=join 32 (bI7 x n)
def okW (w:List UInt8):Prop:=(32:UInt8) ∉ w∧(44:UInt8) ∉ w∧(10:UInt8) ∉ w∧w ≠ []
instance cS2 (w:List UInt8):Decidable (okW w):=by unfold okW;infer_instance
end Go.Itp
namespace Go.Itp
set_option linter.unusedVariables false
set_option linter.unusedSimpArgs false
set_option maxRecDepth 10000
def E3 (x:o8):Int:=if x.kind=2∨x.kind=9 then 0 else if x.kind=3∨x.kind=4∨x.kind=10 then x.a else if x.kind=6∨x.kind=7 then x.a+x.b else 1
def H1 (x:o8):Int:=if x.kind=10 then 0 else if x.kind=5∨x.kind=9 then x.a else if x.kind=6∨x.kind=7 then x.a+x.b else 1
def E7 (f:o8→Int):List o8→Int
 | []=>0
 |x::l=>f x+E7 f l
def I0 (L:List o8):Int:=if 200<L.length then 4 else if L.all F5=true then (if 200<E7 E3 L∨200<E7 H1 L then 4 else 0) else 8
def bW5:List o8→List (o8 × Nat)
 | []=> []
 |x::l=>match bW5 l with
  | []=> [(x,1)]
  |(y,n)::r=>if y=x then (x,n+1)::r else (x,1)::(y,n)::r
def phr (r:o8 × Nat):List UInt8:=bI6 r.1 r.2
def jnC:List (List UInt8)→List UInt8
 | []=> []
 | [w]=>w
 |w::ws=>w++44::32::jnC ws
def aS3:List UInt8:= [110,111,116,104,105,110,103]
def bC0 (L:List o8):List UInt8:=if L= [] then aS3 else jnC ((bW5 L).map phr)
def QR (L:List o8):List UInt8 × Int:=if I0 L=0 then (if 2000<(bC0 L).length then ([],4) else (bC0 L,0)) else ([],I0 L)
theorem Y5 {L:List o8} (h:I0 L=0):L.length≤200∧L.all F5=true∧E7 E3 L≤200∧E7 H1 L≤200:=by
 unfold I0 at h
 split at h
 ·exact absurd h (by decide)
 split at h
 ·split at h
  ·exact absurd h (by decide)
  ·rename_i h1 h2 h3
   exact ⟨by omega,h2,by omega,by omega⟩
 ·exact absurd h (by decide)
def cM3 (b:Bool):List UInt8:=if b=true then [98,97,99,107] else [102,114,111,110,116]
def cM4 (b:Bool):List UInt8:=40::cM3 b++ [41,58]
def dD9:List UInt8:= [114,111,119]
def cN4 (b:Bool) (n:Int):List UInt8:=dD9++32::(Lib.itoa n++32::(cM4 b++ [32]))
def bJ6 (b:Bool) (L:List o8) (n:Int):List UInt8 × Int:=if I0 L=0 then (if n<1∨100<n then ([],2) else if (QR L).2=0 then (cN4 b n++(QR L).1++ [46],0) else ([],(QR L).2)) else ([],I0 L)
open Classical in
noncomputable def dG8 (s:List UInt8):Option (Bool × List o8 × Int):=if h:∃ r:Bool × List o8 × Int,bJ6 r.1 r.2.1 r.2.2=(s,0) then some (Classical.choose h) else none
abbrev PW:=Int × List (Bool × List o8)
def bW4:List (Bool × List o8)→Int
 | []=>0
 |r::l=>if I0 r.2=0 then bW4 l else I0 r.2
def aJ2 (c:PW):Int:=if 100<c.2.length then 4 else if c.1<0∨200<c.1 then 8 else bW4 c.2
def lW:Int→List (Bool × List o8)→List UInt8 × Int
 |_,[]=>([],0)
 |n,r::l=>if (bJ6 r.1 r.2 n).2=0 then (if (lW (n+1) l).2=0 then ((bJ6 r.1 r.2 n).1++10::(lW (n+1) l).1,0) else ([],(lW (n+1) l).2)) else ([],(bJ6 r.1 r.2 n).2)
def aY7 (n:Int):List UInt8:= [115,116,97,114,116]++32::([119,105,116,104]++32::(Lib.itoa n++32:: [115,116,105,116,99,104,101,115,46]))
def cA3 (c:PW):List UInt8 × Int:=if aJ2 c=0 then (if (lW 1 c.2).2=0 then (if 60000<(aY7 c.1++10::(lW 1 c.2).1).length then ([],4) else (aY7 c.1++10::(lW 1 c.2).1,0)) else ([],(lW 1 c.2).2)) else ([],aJ2 c)
open Classical in
noncomputable def dG9 (s:List UInt8):Option PW:=if h:∃ c:PW,cA3 c=(s,0) then some (Classical.choose h) else none
end Go.Itp
namespace Go.Itp
set_option linter.unusedVariables false
set_option linter.unusedSimpArgs false
set_option maxRecDepth 10000
def fill:List (List UInt8)→List Int→List UInt8
 | [],_=> []
 | [p],_=>p
 |p::ps,[]=>p++35::fill ps []
 |p::ps,v::vs=>p++(Lib.itoa v++fill ps vs)
def aS1 (r:List UInt8):Prop:=∀ c,r.head? =some c→bV1 c=false
instance cI2 (r:List UInt8):Decidable (aS1 r):=decidable_of_iff (r.head?.all (fun c=> !bV1 c)=true) (by
 cases r with
 |nil=>simp[aS1]
 |cons c r=>simp[aS1])
end Go.Itp
namespace Go.Proofs.YtgohenjcanfolaaGreatDoor
open Go Go.Itp
set_option maxRecDepth 100000
set_option maxHeartbeats 400000
set_option linter.unusedSimpArgs false
set_option linter.unusedVariables false
def fL:Nat→List UInt8
 |3=> [102]|4=> [108]|5=> [109]|6=> [120]|7=> [121]|8=> [115]|10=> [111]
 |_=> []
def fA0:Nat→Int
 |3=>2|4=>2|5=>2|6=>1|7=>1|9=>1|10=>1
 |_=>0
def fA1:Nat→Int
 |3=>4|4=>4|5=>4|6=>6|7=>6|9=>200|10=>200
 |_=>0
def fB0:Nat→Int
 |6=>1|7=>1
 |_=>0
def YQ:Nat→Int
 |6=>6|7=>6
 |_=>0
def fS:Nat→Bool
 |2=>false|9=>false
 |_=>true
def fU:Nat→Nat
 |1=>1|2=>0|3=>2|4=>2|5=>1|6=>3|7=>3|8=>1|9=>0
 |_=>2
def fM:Nat→Nat
 |1=>1|2=>1|3=>1|4=>1|5=>2|6=>3|7=>3|8=>1|9=>2
 |_=>0
def Y1 (k:Nat):List Value:= [.string ⟨(fL k).toArray⟩,.int .i64 (fA0 k),.int .i64 (fA1 k),.int .i64 (fB0 k),.int .i64 (YQ k),.bool (fS k),.int .i64 (fU k),.int .i64 (fM k)]
def RD:List D:=(Y1 1++Y1 2++Y1 3++Y1 4++Y1 5++Y1 6++Y1 7++Y1 8++Y1 9++Y1 10).map D.sc
theorem cP5 (s g u m:Value) (a b c d:Value):X4 (RQ (RQ [.sc s,.sc (.int .i64 0),.sc (.int .i64 0),.sc (.int .i64 0),.sc (.int .i64 0),.sc (.bool false),.sc (.int .i64 0),.sc (.int .i64 0)] 1 [.sc a,.sc b]) 3 [.sc c,.sc d]) [(5,1,.sc g),(6,1,.sc u),(7,1,.sc m)]=some [.sc s,.sc a,.sc b,.sc c,.sc d,.sc g,.sc u,.sc m]:=(rfl)
theorem cP6 (nx t:Nat):P5 nx t 8 10 [.string ⟨#[]⟩,.int .i64 0,.int .i64 0,.int .i64 0,.int .i64 0,.bool false,.int .i64 0,.int .i64 0] [(0,8,.agg [.sc (.string ⟨#[]⟩),.sc (.int .i64 0),.sc (.int .i64 0),.sc (.int .i64 0),.sc (.int .i64 0),.sc (.bool true),.sc (.int .i64 1),.sc (.int .i64 1)]),(8,8,.agg [.sc (.string ⟨#[]⟩),.sc (.int .i64 0),.sc (.int .i64 0),.sc (.int .i64 0),.sc (.int .i64 0),.sc (.bool false),.sc (.int .i64 0),.sc (.int .i64 1)]),(16,8,.agg [.sc (.string ⟨#[102]⟩),.sc (.int .i64 2),.sc (.int .i64 4),.sc (.int .i64 0),.sc (.int .i64 0),.sc (.bool true),.sc (.int .i64 2),.sc (.int .i64 1)]),(24,8,.agg [.sc (.string ⟨#[108]⟩),.sc (.int .i64 2),.sc (.int .i64 4),.sc (.int .i64 0),.sc (.int .i64 0),.sc (.bool true),.sc (.int .i64 2),.sc (.int .i64 1)]),(32,8,.agg [.sc (.string ⟨#[109]⟩),.sc (.int .i64 2),.sc (.int .i64 4),.sc (.int .i64 0),.sc (.int .i64 0),.sc (.bool true),.sc (.int .i64 1),.sc (.int .i64 2)]),(40,8,.agg [.sc (.string ⟨#[120]⟩),.sc (.int .i64 1),.sc (.int .i64 6),.sc (.int .i64 1),.sc (.int .i64 6),.sc (.bool true),.sc (.int .i64 3),.sc (.int .i64 3)]),(48,8,.agg [.sc (.string ⟨#[121]⟩),.sc (.int .i64 1),.sc (.int .i64 6),.sc (.int .i64 1),.sc (.int .i64 6),.sc (.bool true),.sc (.int .i64 3),.sc (.int .i64 3)]),(56,8,.agg [.sc (.string ⟨#[115]⟩),.sc (.int .i64 0),.sc (.int .i64 0),.sc (.int .i64 0),.sc (.int .i64 0),.sc (.bool true),.sc (.int .i64 1),.sc (.int .i64 1)]),(64,8,.agg [.sc (.string ⟨#[]⟩),.sc (.int .i64 1),.sc (.int .i64 200),.sc (.int .i64 0),.sc (.int .i64 0),.sc (.bool false),.sc (.int .i64 0),.sc (.int .i64 2)]),(72,8,.agg [.sc (.string ⟨#[111]⟩),.sc (.int .i64 1),.sc (.int .i64 200),.sc (.int .i64 0),.sc (.int .i64 0),.sc (.bool true),.sc (.int .i64 2),.sc (.int .i64 0)])]=some (.ref nx 0 10 10,some (.row t 8 false false RD),[]):=(rfl)
theorem YS (k:Nat) (h1:1≤k) (h2:k≤10):C9 RD ((k - 1)*8) (some 8)=some (.agg ((Y1 k).map V.sc)):=by
 rcases (by omega:k=1∨k=2∨k=3∨k=4∨k=5∨k=6∨k=7∨k=8∨k=9∨k=10) with rfl|rfl|rfl|rfl|rfl|rfl|rfl|rfl|rfl|rfl<;>rfl
attribute [local irreducible] RD
theorem DK {x:o8} (h1:1≤x.kind) (h2:x.kind≤10):W4 x↔(fA0 x.kind≤x.a∧x.a≤fA1 x.kind)∧(fB0 x.kind≤x.b∧x.b≤YQ x.kind)∧(x.purl=true→fS x.kind=true):=by
 obtain ⟨k,p,a,b⟩:=x
 simp only at h1 h2 ⊢
 unfold W4
 simp only
 rcases (by omega:k=1∨k=2∨k=3∨k=4∨k=5∨k=6∨k=7∨k=8∨k=9∨k=10) with rfl|rfl|rfl|rfl|rfl|rfl|rfl|rfl|rfl|rfl
 all_goals
  cases p<;>simp[fA0,fA1,fB0,YQ,fS]<;>omega
theorem aB3 {x:o8} (h:¬ (1≤x.kind∧x.kind≤10)):F5 x=false:=by
 rw[← Bool.not_eq_true,I3]
 intro hx
 exact h ⟨hx.bounds.1,hx.bounds.2.1⟩
def GU (x:o8) (h:Nat):Int:=if h=0 then 0 else if h=1 then 1 else if h=2 then x.a else x.a+x.b
theorem SN {x:o8} (h1:1≤x.kind) (h2:x.kind≤10):E3 x=GU x (fU x.kind)∧H1 x=GU x (fM x.kind):=by
 obtain ⟨k,p,a,b⟩:=x
 simp only at h1 h2 ⊢
 rcases (by omega:k=1∨k=2∨k=3∨k=4∨k=5∨k=6∨k=7∨k=8∨k=9∨k=10) with rfl|rfl|rfl|rfl|rfl|rfl|rfl|rfl|rfl|rfl
 all_goals
  simp[E3,H1,GU,fU,fM]
theorem aL7 (k:Nat):fU k≤3∧fM k≤3:=by
 constructor
 ·unfold fU;split<;>decide
 ·unfold fM;split<;>decide
abbrev xU (x:o8):V:= .agg [.sc (.int .u8 x.kind),.sc (.bool x.purl),.sc (.int .i64 x.a),.sc (.int .i64 x.b)]
theorem tn0:Int.toNat 0=0:=rfl
theorem tn1:Int.toNat 1=1:=rfl
section
variable (w:World) (n:Nat)
theorem FY (k:Nat) (hk:1≤k) (hk2:k≤10):r9 (EN w (n+1)) 129 [.sc (.int .u8 k)] (.tup [.agg ((Y1 k).map V.sc),.sc (.bool true)]) ⟨[],0,0⟩:=by
 refine m6 rfl rfl (fun _ _=>rfl) (Nat.le_of_ble_eq_true rfl) (o7 w) rfl fun C hC h0=>?_
 have hld:=YS k hk hk2
 have hw:IntKind.u8.wrap ((k:Int) - 1)=((k - 1:Nat):Int):=by rw[bO3 _ (by omega) (by omega)];omega
 unfold Y1 at hld ⊢
 simp (disch:=try exact m8) only[WA,b9,d9,Nat.reduceEqDiff,Nat.reduceLT,Nat.reduceAdd,Nat.reduceBEq,Int.reduceAdd,Int.reduceSub,Int.reduceLT,Int.reduceLE,Int.reduceEq,Int.reduceNeg,↓reduceIte,reduceCtorEq,List.replicate,bY8,cP5,↓cP6]
 rw[hw]
 simp (disch:=try exact m8) only[WA,b9,d9,Nat.reduceEqDiff,Nat.reduceLT,Nat.reduceAdd,Nat.reduceBEq,Int.reduceAdd,Int.reduceSub,Int.reduceLT,Int.reduceLE,Int.reduceEq,Int.reduceNeg,↓reduceIte,reduceCtorEq,List.replicate,hld]
 exact i7 rfl h0 rfl
theorem aM2 (k:Nat) (hk:¬ (1≤k∧k≤10)) (hb:k<256):r9 (EN w (n+1)) 129 [.sc (.int .u8 k)] (.tup [.agg [.sc (.string ⟨#[]⟩),.sc (.int .i64 0),.sc (.int .i64 0),.sc (.int .i64 0),.sc (.int .i64 0),.sc (.bool false),.sc (.int .i64 0),.sc (.int .i64 0)],.sc (.bool false)]) ⟨[],0,0⟩:=by
 have hne:¬ (k:Int)<1→10<(k:Int):=by omega
 by_cases h1:(k:Int)<1
 all_goals
  refine m6 rfl rfl (fun _ _=>rfl) (Nat.le_of_ble_eq_true rfl) (o7 w) rfl fun C hC h0=>?_
  repeat' (first|(simp (disch:=try exact m8) only[WA,b9,d9,Nat.reduceEqDiff,Nat.reduceLT,Nat.reduceAdd,Nat.reduceBEq,Int.reduceAdd,Int.reduceSub,Int.reduceLT,Int.reduceLE,Int.reduceEq,Int.reduceNeg,↓reduceIte,reduceCtorEq,List.replicate,bY8,cP5,↓cP6])|apply a8|((first|apply d7|apply c7|apply a9|apply d8|apply c8|apply b8)<;>intro _))
  all_goals try (exfalso;omega)
  exact i7 rfl h0 rfl
theorem PT (v lo hi:Int):r9 (EN w (n+1)) 202 [.sc (.int .i64 v),.agg [.sc (.int .i64 lo),.sc (.int .i64 hi)]] (.sc (.bool (decide (lo≤v∧v≤hi)))) ⟨[],0,0⟩:=by
 refine m6 rfl rfl (fun _ _=>rfl) (Nat.le_of_ble_eq_true rfl) (o7 w) rfl fun C hC h0=>?_
 by_cases h1:lo≤v
 ·by_cases h2:v≤hi
  ·rw[decide_eq_true ⟨h1,h2⟩]
   repeat' (first|(simp (disch:=try exact m8) only[WA,b9,d9,Nat.reduceEqDiff,Nat.reduceLT,Nat.reduceAdd,Nat.reduceBEq,Int.reduceAdd,Int.reduceSub,Int.reduceLT,Int.reduceLE,Int.reduceEq,Int.reduceNeg,↓reduceIte,reduceCtorEq,List.replicate,bE1,tn0,tn1])|apply a8|((first|apply d7|apply c7|apply a9|apply d8|apply c8|apply b8)<;>intro _))
   all_goals try (exfalso;omega)
   exact i7 rfl h0 rfl
  ·rw[decide_eq_false (fun h=>h2 h.2)]
   repeat' (first|(simp (disch:=try exact m8) only[WA,b9,d9,Nat.reduceEqDiff,Nat.reduceLT,Nat.reduceAdd,Nat.reduceBEq,Int.reduceAdd,Int.reduceSub,Int.reduceLT,Int.reduceLE,Int.reduceEq,Int.reduceNeg,↓reduceIte,reduceCtorEq,List.replicate,bE1,tn0,tn1])|apply a8|((first|apply d7|apply c7|apply a9|apply d8|apply c8|apply b8)<;>intro _))
   all_goals try (exfalso;omega)
   exact i7 rfl h0 rfl
 ·rw[decide_eq_false (fun h=>h1 h.1)]
  repeat' (first|(simp (disch:=try exact m8) only[WA,b9,d9,Nat.reduceEqDiff,Nat.reduceLT,Nat.reduceAdd,Nat.reduceBEq,Int.reduceAdd,Int.reduceSub,Int.reduceLT,Int.reduceLE,Int.reduceEq,Int.reduceNeg,↓reduceIte,reduceCtorEq,List.replicate,bE1,tn0,tn1])|apply a8|((first|apply d7|apply c7|apply a9|apply d8|apply c8|apply b8)<;>intro _))
  all_goals try (exfalso;omega)
  exact i7 rfl h0 rfl
end
end Go.Proofs.YtgohenjcanfolaaGreatDoor
namespace Go.Proofs.YtgohenjcanfolaaGreatDoor
open Go Go.Itp
set_option maxRecDepth 100000
set_option maxHeartbeats 400000
set_option linter.unusedSimpArgs false
set_option linter.unusedVariables false
def s5 (L:List o8):List D:=L.flatMap fun x=> [.sc (.int .u8 x.kind),.sc (.bool x.purl),.sc (.int .i64 x.a),.sc (.int .i64 x.b)]
theorem v3 (L:List o8):(s5 L).length=L.length*4:=by
 induction L with
 |nil=>rfl
 |cons p L ih=>
  have e:s5 (p::L)= [.sc (.int .u8 p.kind),.sc (.bool p.purl),.sc (.int .i64 p.a),.sc (.int .i64 p.b)]++s5 L:=by simp[s5]
  rw[e,List.length_append,ih];simp;omega
theorem P1 (L:List o8) (k:Nat) (hk:k<L.length):C9 (s5 L) (k*4) (some 4)=some (xU L[k]!):=by
 have:=lM (fun x:o8=> [D.sc (.int .u8 x.kind),.sc (.bool x.purl),.sc (.int .i64 x.a),.sc (.int .i64 x.b)]) 4 L (fun _=>rfl) (by decide) k hk
 unfold s5
 rw[this]
 rfl
theorem ix0 (a b c d:V):BI 4 1 none (.agg [a,b,c,d]) (.sc (.int .i64 ((0:Nat):Int)))=some a:=(rfl)
theorem ix1 (a b c d:V):BI 4 1 none (.agg [a,b,c,d]) (.sc (.int .i64 ((1:Nat):Int)))=some b:=(rfl)
theorem ix2 (a b c d:V):BI 4 1 none (.agg [a,b,c,d]) (.sc (.int .i64 ((2:Nat):Int)))=some c:=(rfl)
theorem ix3 (a b c d:V):BI 4 1 none (.agg [a,b,c,d]) (.sc (.int .i64 ((3:Nat):Int)))=some d:=(rfl)
section
variable (w:World) (n:Nat)
theorem aX7 (x:o8) (hk:x.kind<256):r9 (EN w (n+2)) 167 [xU x] (.sc (.int .i64 (if F5 x=true then 0 else 8))) ⟨[],0,0⟩:=by
 by_cases hr:1≤x.kind∧x.kind≤10
 ·have hf:=FY w n x.kind hr.1 hr.2
  have w1:=PT w n x.a (fA0 x.kind) (fA1 x.kind)
  have w2:=PT w n x.b (fB0 x.kind) (YQ x.kind)
  have he:F5 x=(decide (fA0 x.kind≤x.a∧x.a≤fA1 x.kind) && (decide (fB0 x.kind≤x.b∧x.b≤YQ x.kind) && (!x.purl||fS x.kind))):=by
   have h1:=DK hr.1 hr.2
   rw[Bool.eq_iff_iff,I3,h1]
   cases x.purl<;>simp
  rw[he]
  unfold Y1 at hf
  generalize decide (fA0 x.kind≤x.a∧x.a≤fA1 x.kind)=A at*
  generalize decide (fB0 x.kind≤x.b∧x.b≤YQ x.kind)=B at*
  generalize fS x.kind=S at*
  obtain ⟨k,p,a,b⟩:=x
  simp only at hf w1 w2 ⊢
  have go:∀ e:Int,(A=false∧e=8)∨(A=true∧B=false∧e=8)∨(A=true∧B=true∧p=false∧e=0)∨(A=true∧B=true∧p=true∧S=false∧e=8)∨(A=true∧B=true∧p=true∧S=true∧e=0)→r9 (EN w (n+2)) 167 [xU ⟨k,p,a,b⟩] (.sc (.int .i64 e)) ⟨[],0,0⟩:=by
   rintro e (⟨rfl,rfl⟩|⟨rfl,rfl,rfl⟩|⟨rfl,rfl,rfl,rfl⟩|⟨rfl,rfl,rfl,rfl,rfl⟩|⟨rfl,rfl,rfl,rfl,rfl⟩)
   all_goals
    refine m6 rfl rfl (fun _ _=>rfl) (Nat.le_of_ble_eq_true rfl) (o7 w) rfl fun C hC h0=>?_
    repeat' (first|(simp (disch:=try exact m8) only[WA,b9,d9,Nat.reduceEqDiff,Nat.reduceLT,Nat.reduceAdd,Nat.reduceBEq,Int.reduceAdd,Int.reduceSub,Int.reduceLT,Int.reduceLE,Int.reduceEq,Int.reduceNeg,↓reduceIte,reduceCtorEq,List.replicate,bZ4])|apply a8|((first|apply d7|apply c7|apply a9|apply d8|apply c8|apply b8)<;>intro _))
    refine g9 (by rw[hC];exact hf.flat rfl rfl) ?_
    repeat' (first|(simp (disch:=try exact m8) only[WA,b9,d9,Nat.reduceEqDiff,Nat.reduceLT,Nat.reduceAdd,Nat.reduceBEq,Int.reduceAdd,Int.reduceSub,Int.reduceLT,Int.reduceLE,Int.reduceEq,Int.reduceNeg,↓reduceIte,reduceCtorEq,List.replicate])|apply a8|((first|apply d7|apply c7|apply a9|apply d8|apply c8|apply b8)<;>intro _))
    refine g9 (by rw[hC];exact w1.flat rfl rfl) ?_
    repeat' (first|(simp (disch:=try exact m8) only[WA,b9,d9,Nat.reduceEqDiff,Nat.reduceLT,Nat.reduceAdd,Nat.reduceBEq,Int.reduceAdd,Int.reduceSub,Int.reduceLT,Int.reduceLE,Int.reduceEq,Int.reduceNeg,↓reduceIte,reduceCtorEq,List.replicate])|apply a8|((first|apply d7|apply c7|apply a9|apply d8|apply c8|apply b8)<;>intro _))
   ·exact i7 rfl h0 rfl
   all_goals
    refine g9 (by rw[hC];exact w2.flat rfl rfl) ?_
    repeat' (first|(simp (disch:=try exact m8) only[WA,b9,d9,Nat.reduceEqDiff,Nat.reduceLT,Nat.reduceAdd,Nat.reduceBEq,Int.reduceAdd,Int.reduceSub,Int.reduceLT,Int.reduceLE,Int.reduceEq,Int.reduceNeg,↓reduceIte,reduceCtorEq,List.replicate])|apply a8|((first|apply d7|apply c7|apply a9|apply d8|apply c8|apply b8)<;>intro _))
    exact i7 rfl h0 rfl
  refine go _ ?_
  cases A<;>cases B<;>cases p<;>cases S<;>simp
 ·have hf:=aM2 w n x.kind hr hk
  rw[aB3 hr]
  obtain ⟨k,p,a,b⟩:=x
  refine m6 rfl rfl (fun _ _=>rfl) (Nat.le_of_ble_eq_true rfl) (o7 w) rfl fun C hC h0=>?_
  repeat' (first|(simp (disch:=try exact m8) only[WA,b9,d9,Nat.reduceEqDiff,Nat.reduceLT,Nat.reduceAdd,Nat.reduceBEq,Int.reduceAdd,Int.reduceSub,Int.reduceLT,Int.reduceLE,Int.reduceEq,Int.reduceNeg,↓reduceIte,reduceCtorEq,List.replicate,bZ4])|apply a8|((first|apply d7|apply c7|apply a9|apply d8|apply c8|apply b8)<;>intro _))
  refine g9 (by rw[hC];exact hf.flat rfl rfl) ?_
  repeat' (first|(simp (disch:=try exact m8) only[WA,b9,d9,Nat.reduceEqDiff,Nat.reduceLT,Nat.reduceAdd,Nat.reduceBEq,Int.reduceAdd,Int.reduceSub,Int.reduceLT,Int.reduceLE,Int.reduceEq,Int.reduceNeg,↓reduceIte,reduceCtorEq,List.replicate])|apply a8|((first|apply d7|apply c7|apply a9|apply d8|apply c8|apply b8)<;>intro _))
  exact i7 rfl h0 rfl
theorem VE (x:o8) (h:Nat) (hh:h≤3) (ha: -1000000≤x.a∧x.a≤1000000) (hb: -1000000≤x.b∧x.b≤1000000):r9 (EN w (n+1)) 203 [xU x,.sc (.int .i64 h)] (.sc (.int .i64 (GU x h))) ⟨[],0,0⟩:=by
 obtain ⟨k,p,a,b⟩:=x
 simp only at ha hb
 rcases (by omega:h=0∨h=1∨h=2∨h=3) with rfl|rfl|rfl|rfl
 all_goals
  refine m6 rfl rfl (fun _ _=>rfl) (Nat.le_of_ble_eq_true rfl) (o7 w) rfl fun C hC h0=>?_
  repeat' (first|(simp (disch:=try exact m8) only[WA,b9,d9,Nat.reduceEqDiff,Nat.reduceLT,Nat.reduceAdd,Nat.reduceBEq,Int.reduceAdd,Int.reduceSub,Int.reduceLT,Int.reduceLE,Int.reduceEq,Int.reduceNeg,↓reduceIte,reduceCtorEq,List.replicate,cJ8,ix0,ix1,ix2,ix3])|apply a8|((first|apply d7|apply c7|apply a9|apply d8|apply c8|apply b8)<;>intro _))
  all_goals try (exfalso;omega)
  exact i7 rfl h0 rfl
theorem kI {f:o8→Int} {L:List o8} (h:∀ x ∈ L,0≤f x∧f x≤1000):0≤E7 f L∧E7 f L≤1000*L.length:=by
 induction L with
 |nil=>simp[E7]
 |cons x L ih=>
  have h1:=h x (by simp)
  have h2:=ih fun y hy=>h y (List.mem_cons_of_mem _ hy)
  simp only[E7,List.length_cons]
  omega
theorem kH {f:o8→Int} {L:List o8} {k:Nat} (hk:k<L.length):E7 f (L.take (k+1))=E7 f (L.take k)+f L[k]! :=by
 have app:∀ A B:List o8,E7 f (A++B)=E7 f A+E7 f B:=by
  intro A B
  induction A with
  |nil=>simp[E7]
  |cons x A ih=>simp only[List.cons_append,E7,ih];omega
 rw[List.take_succ_eq_append_getElem hk,app,getElem!_pos _ k hk]
 simp[E7]
theorem V2 {x:o8} (h:W4 x):(0≤E3 x∧E3 x≤1000)∧0≤H1 x∧H1 x≤1000:=by
 have hb:=h.bounds
 unfold E3 H1
 constructor
 ·split
  ·omega
  split
  ·omega
  split<;>omega
 ·split
  ·omega
  split
  ·omega
  split<;>omega
theorem SH (s:Nat) (L:List o8) (hL:L.length≤200) (hok:L.all F5=true):r9 (EN w (n+2)) 168 [.sl s L.length (s5 L)] (.tup [.sc (.int .i64 (E7 E3 L)),.sc (.int .i64 (E7 H1 L))]) ⟨[],0,0⟩:=by
 refine m6 rfl rfl (fun _ _=>rfl) (Nat.le_of_ble_eq_true rfl) (o7 w) rfl fun C hC h0=>?_
 have hrn:C.E.rounds=C7:=by rw[hC,n7]
 have hil:=v3 L
 repeat' (first|(simp (disch:=try exact m8) only[WA,b9,d9,Nat.reduceEqDiff,Nat.reduceLT,Nat.reduceAdd,Nat.reduceBEq,Int.reduceAdd,Int.reduceSub,Int.reduceLT,Int.reduceLE,Int.reduceEq,Int.reduceNeg,↓reduceIte,reduceCtorEq,List.replicate,cJ4])|apply a8|((first|apply d7|apply c7|apply a9|apply d8|apply c8|apply b8)<;>intro _))
 all_goals try (exfalso;omega)
 refine x9 (fun m fr st=>∃ (k:Nat),m=L.length - k∧k≤L.length∧fr= [(2,.sc (.int .i64 (E7 E3 (L.take k)))),(3,.sc (.int .i64 (E7 H1 (L.take k)))),(8,.sl s L.length (s5 L)),(9,.sc (.int .i64 L.length)),(10,.sc (.int .i64 k))]∧st=⟨[],0,0⟩) L.length ?_ ⟨_,_,.refl _ _,0,by omega,Nat.zero_le _,rfl,rfl⟩ ?_
 ·rw[hrn];unfold C7;omega
 rintro m fr st ⟨k,rfl,hk,rfl,rfl⟩
 by_cases hlt:k<L.length
 case neg=>
  have:k=L.length:=by omega
  subst this
  rw[List.take_length]
  repeat' (first|(simp (disch:=try exact m8) only[WA,b9,d9,Nat.reduceEqDiff,Nat.reduceLT,Nat.reduceAdd,Nat.reduceBEq,Int.reduceAdd,Int.reduceSub,Int.reduceLT,Int.reduceLE,Int.reduceEq,Int.reduceNeg,↓reduceIte,reduceCtorEq,List.replicate,EZ])|apply a8|((first|apply d7|apply c7|apply a9|apply d8|apply c8|apply b8)<;>intro _))
  all_goals try (exfalso;omega)
  exact i7 rfl h0 rfl
 have hag:=P1 L k hlt
 have u1:=kH (f:=E3) hlt
 have u2:=kH (f:=H1) hlt
 have htk:∀ x ∈ L.take k,W4 x:=fun x hx=>I3.1 (List.all_eq_true.1 hok x (List.mem_of_mem_take hx))
 have b1:=kI (f:=E3) fun x hx=>(V2 (htk x hx)).1
 have b2:=kI (f:=H1) fun x hx=>(V2 (htk x hx)).2
 have hl2:(L.take k).length≤200:=by rw[List.length_take];omega
 have hx:W4 L[k]! :=I3.1 (List.all_eq_true.1 hok _ (by rw[getElem!_pos _ k hlt];exact List.getElem_mem hlt))
 generalize L[k]! =X at*
 have hb:=hx.bounds
 have c1:=V2 hx
 have hf:=FY w n X.kind hb.1 hb.2.1
 have l1:=VE w n X (fU X.kind) (aL7 _).1 (by omega) (by omega)
 have l2:=VE w n X (fM X.kind) (aL7 _).2 (by omega) (by omega)
 have e:=SN hb.1 hb.2.1
 rw[← e.1] at l1
 rw[← e.2] at l2
 unfold Y1 at hf
 generalize E7 E3 (L.take k)=U at*
 generalize E7 H1 (L.take k)=M at*
 generalize E3 X=uu at*
 generalize H1 X=mm at*
 obtain ⟨xk,xp,xa,xb⟩:=X
 repeat' (first|(simp (disch:=try exact m8) only[WA,b9,d9,Nat.reduceEqDiff,Nat.reduceLT,Nat.reduceAdd,Nat.reduceBEq,Int.reduceAdd,Int.reduceSub,Int.reduceLT,Int.reduceLE,Int.reduceEq,Int.reduceNeg,↓reduceIte,reduceCtorEq,List.replicate,EZ,hag])|apply a8|((first|apply d7|apply c7|apply a9|apply d8|apply c8|apply b8)<;>intro _))
 all_goals try (exfalso;omega)
 refine g9 (by rw[hC];exact hf.flat rfl rfl) ?_
 repeat' (first|(simp (disch:=try exact m8) only[WA,b9,d9,Nat.reduceEqDiff,Nat.reduceLT,Nat.reduceAdd,Nat.reduceBEq,Int.reduceAdd,Int.reduceSub,Int.reduceLT,Int.reduceLE,Int.reduceEq,Int.reduceNeg,↓reduceIte,reduceCtorEq,List.replicate])|apply a8|((first|apply d7|apply c7|apply a9|apply d8|apply c8|apply b8)<;>intro _))
 refine g9 (by rw[hC];exact l1.flat rfl rfl) ?_
 repeat' (first|(simp (disch:=try exact m8) only[WA,b9,d9,Nat.reduceEqDiff,Nat.reduceLT,Nat.reduceAdd,Nat.reduceBEq,Int.reduceAdd,Int.reduceSub,Int.reduceLT,Int.reduceLE,Int.reduceEq,Int.reduceNeg,↓reduceIte,reduceCtorEq,List.replicate])|apply a8|((first|apply d7|apply c7|apply a9|apply d8|apply c8|apply b8)<;>intro _))
 refine g9 (by rw[hC];exact l2.flat rfl rfl) ?_
 repeat' (first|(simp (disch:=try exact m8) only[WA,b9,d9,Nat.reduceEqDiff,Nat.reduceLT,Nat.reduceAdd,Nat.reduceBEq,Int.reduceAdd,Int.reduceSub,Int.reduceLT,Int.reduceLE,Int.reduceEq,Int.reduceNeg,↓reduceIte,reduceCtorEq,List.replicate])|apply a8|((first|apply d7|apply c7|apply a9|apply d8|apply c8|apply b8)<;>intro _))
 all_goals try (exfalso;omega)
 refine ⟨L.length - (k+1),_,_,by omega,s7 [] 0 h0 rfl rfl rfl rfl,k+1,rfl,by omega,?_,rfl⟩
 rw[u1,u2]
 rfl
end
abbrev zQ (L:List o8):Prop:=∀ x ∈ L,x.kind<256
theorem zQ.at {L:List o8} (h:zQ L) {k:Nat} (hk:k<L.length):L[k]!.kind<256:=h _ (by rw[getElem!_pos _ k hk];exact List.getElem_mem hk)
theorem DL {L:List o8} {k:Nat} (hk:k<L.length) (h:(L.take k).all F5=true) (h2:F5 L[k]! =true):(L.take (k+1)).all F5=true:=by
 rw[List.take_succ_eq_append_getElem hk,List.all_append,h]
 rw[getElem!_pos _ k hk] at h2
 simp[h2]
theorem OK {L:List o8} {k:Nat} (hk:k<L.length) (h2:F5 L[k]! =false):¬ L.all F5=true:=fun h=>by
 rw[getElem!_pos _ k hk] at h2
 have:=List.all_eq_true.1 h _ (List.getElem_mem hk)
 rw[this] at h2;cases h2
section
variable (w:World) (n:Nat)
theorem bK3 (x:o8) (hk:x.kind<256):r9 (EN w (n+3)) 166 [xU x] (.sc (.bool (!F5 x))) ⟨[],0,0⟩:=by
 have hc:=aX7 w n x hk
 cases he:F5 x with
 |true=>
  rw[he,if_pos rfl] at hc
  obtain ⟨xk,xp,xa,xb⟩:=x
  refine m6 rfl rfl (fun _ _=>rfl) (Nat.le_of_ble_eq_true rfl) (o7 w) rfl fun C hC h0=>?_
  repeat' (first|(simp (disch:=try exact m8) only[WA,b9,d9,Nat.reduceEqDiff,Nat.reduceLT,Nat.reduceAdd,Nat.reduceBEq,Int.reduceAdd,Int.reduceSub,Int.reduceLT,Int.reduceLE,Int.reduceEq,Int.reduceNeg,↓reduceIte,reduceCtorEq,List.replicate,bZ3])|apply a8|((first|apply d7|apply c7|apply a9|apply d8|apply c8|apply b8)<;>intro _))
  refine g9 (by rw[hC];exact hc.flat rfl rfl) ?_
  repeat' (first|(simp (disch:=try exact m8) only[WA,b9,d9,Nat.reduceEqDiff,Nat.reduceLT,Nat.reduceAdd,Nat.reduceBEq,Int.reduceAdd,Int.reduceSub,Int.reduceLT,Int.reduceLE,Int.reduceEq,Int.reduceNeg,↓reduceIte,reduceCtorEq,List.replicate])|apply a8|((first|apply d7|apply c7|apply a9|apply d8|apply c8|apply b8)<;>intro _))
  exact i7 rfl h0 rfl
 |false=>
  rw[he,if_neg (by decide)] at hc
  obtain ⟨xk,xp,xa,xb⟩:=x
  refine m6 rfl rfl (fun _ _=>rfl) (Nat.le_of_ble_eq_true rfl) (o7 w) rfl fun C hC h0=>?_
  repeat' (first|(simp (disch:=try exact m8) only[WA,b9,d9,Nat.reduceEqDiff,Nat.reduceLT,Nat.reduceAdd,Nat.reduceBEq,Int.reduceAdd,Int.reduceSub,Int.reduceLT,Int.reduceLE,Int.reduceEq,Int.reduceNeg,↓reduceIte,reduceCtorEq,List.replicate,bZ3])|apply a8|((first|apply d7|apply c7|apply a9|apply d8|apply c8|apply b8)<;>intro _))
  refine g9 (by rw[hC];exact hc.flat rfl rfl) ?_
  repeat' (first|(simp (disch:=try exact m8) only[WA,b9,d9,Nat.reduceEqDiff,Nat.reduceLT,Nat.reduceAdd,Nat.reduceBEq,Int.reduceAdd,Int.reduceSub,Int.reduceLT,Int.reduceLE,Int.reduceEq,Int.reduceNeg,↓reduceIte,reduceCtorEq,List.replicate])|apply a8|((first|apply d7|apply c7|apply a9|apply d8|apply c8|apply b8)<;>intro _))
  exact i7 rfl h0 rfl
theorem aY2 (s:Nat) (L:List o8) (hL:L.length≤200) (hK:zQ L):∃ r:Int,(L.all F5=true→r= -1)∧(¬ L.all F5=true→0≤r)∧
  r9 (EN w (n+4)) 163 [.sl s L.length (s5 L),.sc (.func (.func 166) #[] #[])] (.sc (.int .i64 r)) ⟨[],0,0⟩:=by
 have main:∀ (j:Nat),j≤L.length→(L.take j).all F5=true→(j<L.length→F5 L[j]! =false)→r9 (EN w (n+4)) 163 [.sl s L.length (s5 L),.sc (.func (.func 166) #[] #[])] (.sc (.int .i64 (if j<L.length then (j:Int) else -1))) ⟨[],0,0⟩:=by
  intro j hj hall hbad
  refine m6 rfl rfl (fun _ _=>rfl) (Nat.le_of_ble_eq_true rfl) (o7 w) rfl fun C hC h0=>?_
  have hrn:C.E.rounds=C7:=by rw[hC,n7]
  have hil:=v3 L
  repeat' (first|(simp (disch:=try exact m8) only[WA,b9,d9,Nat.reduceEqDiff,Nat.reduceLT,Nat.reduceAdd,Nat.reduceBEq,Int.reduceAdd,Int.reduceSub,Int.reduceLT,Int.reduceLE,Int.reduceEq,Int.reduceNeg,↓reduceIte,reduceCtorEq,List.replicate,bZ1])|apply a8|((first|apply d7|apply c7|apply a9|apply d8|apply c8|apply b8)<;>intro _))
  all_goals try (exfalso;omega)
  refine x9 (fun m fr st=>∃ (k:Nat),m=L.length - k∧k≤j∧fr= [(0,.sl s L.length (s5 L)),(1,.sc (.func (.func 166) #[] #[])),(7,.sc (.int .i64 L.length)),(8,.sc (.int .i64 k))]∧st=⟨[],0,0⟩) L.length ?_ ⟨_,_,.refl _ _,0,by omega,Nat.zero_le _,rfl,rfl⟩ ?_
  ·rw[hrn];unfold C7;omega
  rintro m fr st ⟨k,rfl,hk,rfl,rfl⟩
  by_cases hlt:k<L.length
  case neg=>
   rw[if_neg (by omega)]
   repeat' (first|(simp (disch:=try exact m8) only[WA,b9,d9,Nat.reduceEqDiff,Nat.reduceLT,Nat.reduceAdd,Nat.reduceBEq,Int.reduceAdd,Int.reduceSub,Int.reduceLT,Int.reduceLE,Int.reduceEq,Int.reduceNeg,↓reduceIte,reduceCtorEq,List.replicate,fP])|apply a8|((first|apply d7|apply c7|apply a9|apply d8|apply c8|apply b8)<;>intro _))
   all_goals try (exfalso;omega)
   exact i7 rfl h0 rfl
  have hag:=P1 L k hlt
  have h1:=bK3 w n L[k]! (hK.at hlt)
  by_cases hkj:k=j
  ·subst hkj
   rw[hbad hlt] at h1
   rw[if_pos hlt]
   generalize L[k]! =X at*
   obtain ⟨xk,xp,xa,xb⟩:=X
   repeat' (first|(simp (disch:=try exact m8) only[WA,b9,d9,Nat.reduceEqDiff,Nat.reduceLT,Nat.reduceAdd,Nat.reduceBEq,Int.reduceAdd,Int.reduceSub,Int.reduceLT,Int.reduceLE,Int.reduceEq,Int.reduceNeg,↓reduceIte,reduceCtorEq,List.replicate,fP,hag])|apply a8|((first|apply d7|apply c7|apply a9|apply d8|apply c8|apply b8)<;>intro _))
   all_goals try (exfalso;omega)
   refine g9 (by rw[hC];exact h1.flat rfl rfl) ?_
   repeat' (first|(simp (disch:=try exact m8) only[WA,b9,d9,Nat.reduceEqDiff,Nat.reduceLT,Nat.reduceAdd,Nat.reduceBEq,Int.reduceAdd,Int.reduceSub,Int.reduceLT,Int.reduceLE,Int.reduceEq,Int.reduceNeg,↓reduceIte,reduceCtorEq,List.replicate])|apply a8|((first|apply d7|apply c7|apply a9|apply d8|apply c8|apply b8)<;>intro _))
   exact i7 rfl h0 rfl
  ·have ho:F5 L[k]! =true:=List.all_eq_true.1 hall _ (by
    rw[getElem!_pos _ k hlt]
    exact List.mem_iff_getElem.2 ⟨k,by rw[List.length_take];omega,List.getElem_take⟩)
   rw[ho] at h1
   generalize L[k]! =X at*
   obtain ⟨xk,xp,xa,xb⟩:=X
   repeat' (first|(simp (disch:=try exact m8) only[WA,b9,d9,Nat.reduceEqDiff,Nat.reduceLT,Nat.reduceAdd,Nat.reduceBEq,Int.reduceAdd,Int.reduceSub,Int.reduceLT,Int.reduceLE,Int.reduceEq,Int.reduceNeg,↓reduceIte,reduceCtorEq,List.replicate,fP,hag])|apply a8|((first|apply d7|apply c7|apply a9|apply d8|apply c8|apply b8)<;>intro _))
   all_goals try (exfalso;omega)
   refine g9 (by rw[hC];exact h1.flat rfl rfl) ?_
   repeat' (first|(simp (disch:=try exact m8) only[WA,b9,d9,Nat.reduceEqDiff,Nat.reduceLT,Nat.reduceAdd,Nat.reduceBEq,Int.reduceAdd,Int.reduceSub,Int.reduceLT,Int.reduceLE,Int.reduceEq,Int.reduceNeg,↓reduceIte,reduceCtorEq,List.replicate])|apply a8|((first|apply d7|apply c7|apply a9|apply d8|apply c8|apply b8)<;>intro _))
   exact ⟨L.length - (k+1),_,_,by omega,.refl _ _,k+1,rfl,by omega,rfl,rfl⟩
 have hex:∃ j,j≤L.length∧(L.take j).all F5=true∧(j<L.length→F5 L[j]! =false):=by
  have:∀ m,m≤L.length→(L.take m).all F5=true∨∃ j,j<m∧(L.take j).all F5=true∧F5 L[j]! =false:=by
   intro m
   induction m with
   |zero=>intro _;exact .inl rfl
   |succ m ih=>
    intro hm
    rcases ih (by omega) with h|⟨j,h1,h2,h3⟩
    ·cases hc:F5 L[m]! with
     |true=>exact .inl (DL (by omega) h hc)
     |false=>exact .inr ⟨m,by omega,h,hc⟩
    ·exact .inr ⟨j,by omega,h2,h3⟩
  rcases this L.length (Nat.le_refl _) with h|⟨j,h1,h2,h3⟩
  ·exact ⟨L.length,Nat.le_refl _,h,fun h=>absurd h (Nat.lt_irrefl _)⟩
  ·exact ⟨j,by omega,h2,fun _=>h3⟩
 obtain ⟨j,h1,h2,h3⟩:=hex
 refine ⟨_,fun hall=>?_,fun hall=>?_,main j h1 h2 h3⟩
 ·rw[if_neg fun h=>OK h (h3 h) hall]
 ·by_cases h:j<L.length
  ·rw[if_pos h];omega
  ·have:j=L.length:=by omega
   subst this
   rw[List.take_length] at h2
   exact absurd h2 hall
theorem NT (s:Nat) (L:List o8) (hL:L.length≤200) (hK:zQ L):r9 (EN w (n+5)) 123 [.sl s L.length (s5 L),.sc (.func (.func 166) #[] #[])] (.sc (.bool (!(L.all F5)))) ⟨[],0,0⟩:=by
 obtain ⟨r,h1,h2,hr⟩:=aY2 w n s L hL hK
 cases ha:L.all F5 with
 |true=>
  have e:=h1 ha
  subst e
  refine m6 rfl rfl (fun _ _=>rfl) (Nat.le_of_ble_eq_true rfl) (o7 w) rfl fun C hC h0=>?_
  repeat' (first|(simp (disch:=try exact m8) only[WA,b9,d9,Nat.reduceEqDiff,Nat.reduceLT,Nat.reduceAdd,Nat.reduceBEq,Int.reduceAdd,Int.reduceSub,Int.reduceLT,Int.reduceLE,Int.reduceEq,Int.reduceNeg,↓reduceIte,reduceCtorEq,List.replicate,aF5])|apply a8|((first|apply d7|apply c7|apply a9|apply d8|apply c8|apply b8)<;>intro _))
  refine g9 (by rw[hC];exact hr.flat rfl rfl) ?_
  repeat' (first|(simp (disch:=try exact m8) only[WA,b9,d9,Nat.reduceEqDiff,Nat.reduceLT,Nat.reduceAdd,Nat.reduceBEq,Int.reduceAdd,Int.reduceSub,Int.reduceLT,Int.reduceLE,Int.reduceEq,Int.reduceNeg,↓reduceIte,reduceCtorEq,List.replicate])|apply a8|((first|apply d7|apply c7|apply a9|apply d8|apply c8|apply b8)<;>intro _))
  exact i7 rfl h0 rfl
 |false=>
  have e:=h2 (by rw[ha];decide)
  refine m6 rfl rfl (fun _ _=>rfl) (Nat.le_of_ble_eq_true rfl) (o7 w) rfl fun C hC h0=>?_
  repeat' (first|(simp (disch:=try exact m8) only[WA,b9,d9,Nat.reduceEqDiff,Nat.reduceLT,Nat.reduceAdd,Nat.reduceBEq,Int.reduceAdd,Int.reduceSub,Int.reduceLT,Int.reduceLE,Int.reduceEq,Int.reduceNeg,↓reduceIte,reduceCtorEq,List.replicate,aF5])|apply a8|((first|apply d7|apply c7|apply a9|apply d8|apply c8|apply b8)<;>intro _))
  refine g9 (by rw[hC];exact hr.flat rfl rfl) ?_
  repeat' (first|(simp (disch:=try exact m8) only[WA,b9,d9,Nat.reduceEqDiff,Nat.reduceLT,Nat.reduceAdd,Nat.reduceBEq,Int.reduceAdd,Int.reduceSub,Int.reduceLT,Int.reduceLE,Int.reduceEq,Int.reduceNeg,↓reduceIte,reduceCtorEq,List.replicate])|apply a8|((first|apply d7|apply c7|apply a9|apply d8|apply c8|apply b8)<;>intro _))
  all_goals try (exfalso;omega)
  exact i7 rfl h0 rfl
theorem HM (s:Nat) (L:List o8) (hL:L.length≤140737488351232) (hK:zQ L):r9 (EN w (n+6)) 127 [.sl s L.length (s5 L)] (.sc (.int .i64 (I0 L))) ⟨[],0,0⟩:=by
 have hil:=v3 L
 unfold I0
 by_cases h2:200<L.length
 ·rw[if_pos h2]
  refine m6 rfl rfl (fun _ _=>rfl) (Nat.le_of_ble_eq_true rfl) (o7 w) rfl fun C hC h0=>?_
  repeat' (first|(simp (disch:=try exact m8) only[WA,b9,d9,Nat.reduceEqDiff,Nat.reduceLT,Nat.reduceAdd,Nat.reduceBEq,Int.reduceAdd,Int.reduceSub,Int.reduceLT,Int.reduceLE,Int.reduceEq,Int.reduceNeg,↓reduceIte,reduceCtorEq,List.replicate,aF6])|apply a8|((first|apply d7|apply c7|apply a9|apply d8|apply c8|apply b8)<;>intro _))
  all_goals try (exfalso;omega)
  exact i7 rfl h0 rfl
 rw[if_neg h2]
 have hc:=NT w n s L (by omega) hK
 cases ha:L.all F5 with
 |false=>
  rw[ha] at hc
  rw[if_neg (by decide)]
  refine m6 rfl rfl (fun _ _=>rfl) (Nat.le_of_ble_eq_true rfl) (o7 w) rfl fun C hC h0=>?_
  repeat' (first|(simp (disch:=try exact m8) only[WA,b9,d9,Nat.reduceEqDiff,Nat.reduceLT,Nat.reduceAdd,Nat.reduceBEq,Int.reduceAdd,Int.reduceSub,Int.reduceLT,Int.reduceLE,Int.reduceEq,Int.reduceNeg,↓reduceIte,reduceCtorEq,List.replicate,aF6])|apply a8|((first|apply d7|apply c7|apply a9|apply d8|apply c8|apply b8)<;>intro _))
  all_goals try (exfalso;omega)
  refine g9 (by rw[hC];exact hc.flat rfl rfl) ?_
  repeat' (first|(simp (disch:=try exact m8) only[WA,b9,d9,Nat.reduceEqDiff,Nat.reduceLT,Nat.reduceAdd,Nat.reduceBEq,Int.reduceAdd,Int.reduceSub,Int.reduceLT,Int.reduceLE,Int.reduceEq,Int.reduceNeg,↓reduceIte,reduceCtorEq,List.replicate])|apply a8|((first|apply d7|apply c7|apply a9|apply d8|apply c8|apply b8)<;>intro _))
  exact i7 rfl h0 rfl
 |true=>
  rw[ha] at hc
  rw[if_pos rfl]
  have hs:=SH w (n+3) s L (by omega) ha
  generalize E7 E3 L=U at*
  generalize E7 H1 L=M at*
  by_cases hm:200<U∨200<M
  ·rw[if_pos hm]
   have hmx:200<max U M:=by omega
   generalize hX:max U M=X at*
   refine m6 rfl rfl (fun _ _=>rfl) (Nat.le_of_ble_eq_true rfl) (o7 w) rfl fun C hC h0=>?_
   repeat' (first|(simp (disch:=try exact m8) only[WA,b9,d9,Nat.reduceEqDiff,Nat.reduceLT,Nat.reduceAdd,Nat.reduceBEq,Int.reduceAdd,Int.reduceSub,Int.reduceLT,Int.reduceLE,Int.reduceEq,Int.reduceNeg,↓reduceIte,reduceCtorEq,List.replicate,aF6])|apply a8|((first|apply d7|apply c7|apply a9|apply d8|apply c8|apply b8)<;>intro _))
   all_goals try (exfalso;omega)
   refine g9 (by rw[hC];exact hc.flat rfl rfl) ?_
   repeat' (first|(simp (disch:=try exact m8) only[WA,b9,d9,Nat.reduceEqDiff,Nat.reduceLT,Nat.reduceAdd,Nat.reduceBEq,Int.reduceAdd,Int.reduceSub,Int.reduceLT,Int.reduceLE,Int.reduceEq,Int.reduceNeg,↓reduceIte,reduceCtorEq,List.replicate])|apply a8|((first|apply d7|apply c7|apply a9|apply d8|apply c8|apply b8)<;>intro _))
   refine g9 (by rw[hC];exact hs.flat rfl rfl) ?_
   repeat' (first|(simp (disch:=try exact m8) only[WA,b9,d9,Nat.reduceEqDiff,Nat.reduceLT,Nat.reduceAdd,Nat.reduceBEq,Int.reduceAdd,Int.reduceSub,Int.reduceLT,Int.reduceLE,Int.reduceEq,Int.reduceNeg,↓reduceIte,reduceCtorEq,List.replicate,tB,hX])|apply a8|((first|apply d7|apply c7|apply a9|apply d8|apply c8|apply b8)<;>intro _))
   all_goals try (exfalso;omega)
   exact i7 rfl h0 rfl
  ·rw[if_neg hm]
   have hmx:max U M≤200:=by omega
   generalize hX:max U M=X at*
   refine m6 rfl rfl (fun _ _=>rfl) (Nat.le_of_ble_eq_true rfl) (o7 w) rfl fun C hC h0=>?_
   repeat' (first|(simp (disch:=try exact m8) only[WA,b9,d9,Nat.reduceEqDiff,Nat.reduceLT,Nat.reduceAdd,Nat.reduceBEq,Int.reduceAdd,Int.reduceSub,Int.reduceLT,Int.reduceLE,Int.reduceEq,Int.reduceNeg,↓reduceIte,reduceCtorEq,List.replicate,aF6])|apply a8|((first|apply d7|apply c7|apply a9|apply d8|apply c8|apply b8)<;>intro _))
   all_goals try (exfalso;omega)
   refine g9 (by rw[hC];exact hc.flat rfl rfl) ?_
   repeat' (first|(simp (disch:=try exact m8) only[WA,b9,d9,Nat.reduceEqDiff,Nat.reduceLT,Nat.reduceAdd,Nat.reduceBEq,Int.reduceAdd,Int.reduceSub,Int.reduceLT,Int.reduceLE,Int.reduceEq,Int.reduceNeg,↓reduceIte,reduceCtorEq,List.replicate])|apply a8|((first|apply d7|apply c7|apply a9|apply d8|apply c8|apply b8)<;>intro _))
   refine g9 (by rw[hC];exact hs.flat rfl rfl) ?_
   repeat' (first|(simp (disch:=try exact m8) only[WA,b9,d9,Nat.reduceEqDiff,Nat.reduceLT,Nat.reduceAdd,Nat.reduceBEq,Int.reduceAdd,Int.reduceSub,Int.reduceLT,Int.reduceLE,Int.reduceEq,Int.reduceNeg,↓reduceIte,reduceCtorEq,List.replicate,tB,hX])|apply a8|((first|apply d7|apply c7|apply a9|apply d8|apply c8|apply b8)<;>intro _))
   all_goals try (exfalso;omega)
   exact i7 rfl h0 rfl
end
set_option maxHeartbeats 1000000
theorem AU (g:Bool) (k k':Nat) (p p':Bool) (a b a' b':Int):lN g [(0,0),(1,2),(2,0),(3,0)] (.agg [.sc (.int .u8 k),.sc (.bool p),.sc (.int .i64 a),.sc (.int .i64 b)]) (.agg [.sc (.int .u8 k'),.sc (.bool p'),.sc (.int .i64 a'),.sc (.int .i64 b')])=some (.sc (.bool (aR8 g (decide ((⟨k,p,a,b⟩:o8)=⟨k',p',a',b'⟩))))):=by
 rw[dY]
 have e:O5 [(0,0),(1,2),(2,0),(3,0)] [V.sc (.int .u8 k),.sc (.bool p),.sc (.int .i64 a),.sc (.int .i64 b)] [V.sc (.int .u8 k'),.sc (.bool p'),.sc (.int .i64 a'),.sc (.int .i64 b')]=some (decide ((k:Int)=k') && ((p==p') && (decide (a=a') && decide (b=b')))):=by
  simp only[V6,Y8,bP,Y7,jF,Bool.and_true,A5,Option.bind_some]
 rw[e]
 simp only[Option.map_some]
 congr 4
 rw[Bool.eq_iff_iff]
 simp only[Bool.and_eq_true,beq_iff_eq,decide_eq_true_eq,o8.mk.injEq]
 constructor
 ·rintro ⟨h1,h2,h3,h4⟩;exact ⟨by omega,h2,h3,h4⟩
 ·rintro ⟨h1,h2,h3,h4⟩;exact ⟨by omega,h2,h3,h4⟩
section
variable (w:World) (n:Nat)
theorem aV2 (x:o8) (hk:x.kind<256):r9 (EN w (n+1)) 199 [xU x] (.sc (.int .i64 (if F5 x=true then 0 else 8))) ⟨[],0,0⟩:=by
 have go:∀ e:Int,(W4 x∧e=0)∨(¬ W4 x∧e=8)→r9 (EN w (n+1)) 199 [xU x] (.sc (.int .i64 e)) ⟨[],0,0⟩:=by
  obtain ⟨k,p,a,b⟩:=x
  unfold W4
  simp only at hk ⊢
  rcases (by omega:k=1∨k=2∨k=3∨k=4∨k=5∨k=6∨k=7∨k=8∨k=9∨k=10∨k=0∨10<k) with rfl|rfl|rfl|rfl|rfl|rfl|rfl|rfl|rfl|rfl|rfl|h10
  all_goals
   rintro e (⟨he,rfl⟩|⟨he,rfl⟩)
  all_goals
   cases p
  all_goals
   simp (config:={decide:=true}) only[reduceCtorEq,false_and,and_false,false_or,or_false,true_or,or_true,true_and,and_true,not_true_eq_false,not_false_eq_true] at he
  all_goals
   refine m6 rfl rfl (fun _ _=>rfl) (Nat.le_of_ble_eq_true rfl) (o7 w) rfl fun C hC h0=>?_
   repeat' (first|(simp (disch:=try exact m8) only[WA,b9,d9,Nat.reduceEqDiff,Nat.reduceLT,Nat.reduceAdd,Nat.reduceBEq,Int.reduceAdd,Int.reduceSub,Int.reduceLT,Int.reduceLE,Int.reduceEq,Int.reduceNeg,↓reduceIte,reduceCtorEq,List.replicate,cJ5])|apply a8|((first|apply d7|apply c7|apply a9|apply d8|apply c8|apply b8)<;>intro _))
  all_goals try (exfalso;omega)
  all_goals exact i7 rfl h0 rfl
 refine go _ ?_
 by_cases h:W4 x
 ·exact .inl ⟨h,by rw[if_pos (I3.2 h)]⟩
 ·exact .inr ⟨h,by rw[if_neg fun hh=>h (I3.1 hh)]⟩
theorem bJ8 (x:o8) (hx:W4 x):r9 (EN w (n+1)) 200 [xU x] (.sc (.int .i64 (E3 x))) ⟨[],0,0⟩∧r9 (EN w (n+1)) 201 [xU x] (.sc (.int .i64 (H1 x))) ⟨[],0,0⟩:=by
 have hb:=hx.bounds
 obtain ⟨k,p,a,b⟩:=x
 simp only at hb
 clear hx
 constructor
 all_goals
  rcases (by omega:k=1∨k=2∨k=3∨k=4∨k=5∨k=6∨k=7∨k=8∨k=9∨k=10) with rfl|rfl|rfl|rfl|rfl|rfl|rfl|rfl|rfl|rfl
  all_goals
   refine m6 rfl rfl (fun _ _=>rfl) (Nat.le_of_ble_eq_true rfl) (o7 w) rfl fun C hC h0=>?_
   repeat' (first|(simp (disch:=try exact m8) only[WA,b9,d9,Nat.reduceEqDiff,Nat.reduceLT,Nat.reduceAdd,Nat.reduceBEq,Int.reduceAdd,Int.reduceSub,Int.reduceLT,Int.reduceLE,Int.reduceEq,Int.reduceNeg,↓reduceIte,reduceCtorEq,List.replicate,cJ6,cJ7])|apply a8|((first|apply d7|apply c7|apply a9|apply d8|apply c8|apply b8)<;>intro _))
   exact i7 rfl h0 rfl
theorem HJ (s:Nat) (L:List o8) (hL:L.length≤200) (hok:L.all F5=true):r9 (EN w (n+2)) 165 [.sl s L.length (s5 L)] (.tup [.sc (.int .i64 (E7 E3 L)),.sc (.int .i64 (E7 H1 L))]) ⟨[],0,0⟩:=by
 refine m6 rfl rfl (fun _ _=>rfl) (Nat.le_of_ble_eq_true rfl) (o7 w) rfl fun C hC h0=>?_
 have hrn:C.E.rounds=C7:=by rw[hC,n7]
 have hil:=v3 L
 repeat' (first|(simp (disch:=try exact m8) only[WA,b9,d9,Nat.reduceEqDiff,Nat.reduceLT,Nat.reduceAdd,Nat.reduceBEq,Int.reduceAdd,Int.reduceSub,Int.reduceLT,Int.reduceLE,Int.reduceEq,Int.reduceNeg,↓reduceIte,reduceCtorEq,List.replicate,cJ3])|apply a8|((first|apply d7|apply c7|apply a9|apply d8|apply c8|apply b8)<;>intro _))
 all_goals try (exfalso;omega)
 refine x9 (fun m fr st=>∃ (k:Nat),m=L.length - k∧k≤L.length∧fr= [(0,.sl s L.length (s5 L)),(4,.sc (.int .i64 (E7 E3 (L.take k)))),(5,.sc (.int .i64 (E7 H1 (L.take k)))),(6,.sc (.int .i64 k))]∧st=⟨[],0,0⟩) L.length ?_ ⟨_,_,.refl _ _,0,by omega,Nat.zero_le _,rfl,rfl⟩ ?_
 ·rw[hrn];unfold C7;omega
 rintro m fr st ⟨k,rfl,hk,rfl,rfl⟩
 by_cases hlt:k<L.length
 case neg=>
  have:k=L.length:=by omega
  subst this
  rw[List.take_length]
  repeat' (first|(simp (disch:=try exact m8) only[WA,b9,d9,Nat.reduceEqDiff,Nat.reduceLT,Nat.reduceAdd,Nat.reduceBEq,Int.reduceAdd,Int.reduceSub,Int.reduceLT,Int.reduceLE,Int.reduceEq,Int.reduceNeg,↓reduceIte,reduceCtorEq,List.replicate,EY])|apply a8|((first|apply d7|apply c7|apply a9|apply d8|apply c8|apply b8)<;>intro _))
  all_goals try (exfalso;omega)
  exact i7 rfl h0 rfl
 have hag:=P1 L k hlt
 have u1:=kH (f:=E3) hlt
 have u2:=kH (f:=H1) hlt
 have htk:∀ x ∈ L.take k,W4 x:=fun x hx=>I3.1 (List.all_eq_true.1 hok x (List.mem_of_mem_take hx))
 have b1:=kI (f:=E3) fun x hx=>(V2 (htk x hx)).1
 have b2:=kI (f:=H1) fun x hx=>(V2 (htk x hx)).2
 have hl2:(L.take k).length≤200:=by rw[List.length_take];omega
 have hx:W4 L[k]! :=I3.1 (List.all_eq_true.1 hok _ (by rw[getElem!_pos _ k hlt];exact List.getElem_mem hlt))
 generalize L[k]! =X at*
 have c1:=V2 hx
 obtain ⟨l1,l2⟩:=bJ8 w n X hx
 generalize E7 E3 (L.take k)=U at*
 generalize E7 H1 (L.take k)=M at*
 generalize E3 X=uu at*
 generalize H1 X=mm at*
 obtain ⟨xk,xp,xa,xb⟩:=X
 repeat' (first|(simp (disch:=try exact m8) only[WA,b9,d9,Nat.reduceEqDiff,Nat.reduceLT,Nat.reduceAdd,Nat.reduceBEq,Int.reduceAdd,Int.reduceSub,Int.reduceLT,Int.reduceLE,Int.reduceEq,Int.reduceNeg,↓reduceIte,reduceCtorEq,List.replicate,EY,hag])|apply a8|((first|apply d7|apply c7|apply a9|apply d8|apply c8|apply b8)<;>intro _))
 all_goals try (exfalso;omega)
 refine g9 (by rw[hC];exact l1.flat rfl rfl) ?_
 repeat' (first|(simp (disch:=try exact m8) only[WA,b9,d9,Nat.reduceEqDiff,Nat.reduceLT,Nat.reduceAdd,Nat.reduceBEq,Int.reduceAdd,Int.reduceSub,Int.reduceLT,Int.reduceLE,Int.reduceEq,Int.reduceNeg,↓reduceIte,reduceCtorEq,List.replicate,hag])|apply a8|((first|apply d7|apply c7|apply a9|apply d8|apply c8|apply b8)<;>intro _))
 refine g9 (by rw[hC];exact l2.flat rfl rfl) ?_
 repeat' (first|(simp (disch:=try exact m8) only[WA,b9,d9,Nat.reduceEqDiff,Nat.reduceLT,Nat.reduceAdd,Nat.reduceBEq,Int.reduceAdd,Int.reduceSub,Int.reduceLT,Int.reduceLE,Int.reduceEq,Int.reduceNeg,↓reduceIte,reduceCtorEq,List.replicate])|apply a8|((first|apply d7|apply c7|apply a9|apply d8|apply c8|apply b8)<;>intro _))
 all_goals try (exfalso;omega)
 refine ⟨L.length - (k+1),_,_,by omega,.refl _ _,k+1,rfl,by omega,?_,rfl⟩
 rw[u1,u2]
 rfl
theorem aU9 (s:Nat) (L:List o8) (hL:L.length≤140737488351232) (hK:zQ L):r9 (EN w (n+3)) 164 [.sl s L.length (s5 L)] (.sc (.int .i64 (I0 L))) ⟨[],0,0⟩:=by
 refine m6 rfl rfl (fun _ _=>rfl) (Nat.le_of_ble_eq_true rfl) (o7 w) rfl fun C hC h0=>?_
 have hrn:C.E.rounds=C7:=by rw[hC,n7]
 have hil:=v3 L
 unfold I0
 by_cases h2:200<L.length
 ·rw[if_pos h2]
  repeat' (first|(simp (disch:=try exact m8) only[WA,b9,d9,Nat.reduceEqDiff,Nat.reduceLT,Nat.reduceAdd,Nat.reduceBEq,Int.reduceAdd,Int.reduceSub,Int.reduceLT,Int.reduceLE,Int.reduceEq,Int.reduceNeg,↓reduceIte,reduceCtorEq,List.replicate,bZ2])|apply a8|((first|apply d7|apply c7|apply a9|apply d8|apply c8|apply b8)<;>intro _))
  all_goals try (exfalso;omega)
  exact i7 rfl h0 rfl
 rw[if_neg h2]
 repeat' (first|(simp (disch:=try exact m8) only[WA,b9,d9,Nat.reduceEqDiff,Nat.reduceLT,Nat.reduceAdd,Nat.reduceBEq,Int.reduceAdd,Int.reduceSub,Int.reduceLT,Int.reduceLE,Int.reduceEq,Int.reduceNeg,↓reduceIte,reduceCtorEq,List.replicate,bZ2])|apply a8|((first|apply d7|apply c7|apply a9|apply d8|apply c8|apply b8)<;>intro _))
 all_goals try (exfalso;omega)
 refine x9 (fun m fr st=>∃ (k:Nat),m=L.length - k∧k≤L.length∧(L.take k).all F5=true∧fr= [(0,.sl s L.length (s5 L)),(3,.sc (.int .i64 k))]∧st=⟨[],0,0⟩) L.length ?_ ⟨_,_,.refl _ _,0,by omega,Nat.zero_le _,rfl,rfl,rfl⟩ ?_
 ·rw[hrn];unfold C7;omega
 rintro m fr st ⟨k,rfl,hk,hall,rfl,rfl⟩
 by_cases hlt:k<L.length
 ·have hag:=P1 L k hlt
  have hc:=aV2 w (n+1) L[k]! (hK.at hlt)
  cases hx:F5 L[k]! with
  |true=>
   have hst:=DL hlt hall hx
   rw[hx,if_pos rfl] at hc
   generalize L[k]! =X at*
   obtain ⟨xk,xp,xa,xb⟩:=X
   repeat' (first|(simp (disch:=try exact m8) only[WA,b9,d9,Nat.reduceEqDiff,Nat.reduceLT,Nat.reduceAdd,Nat.reduceBEq,Int.reduceAdd,Int.reduceSub,Int.reduceLT,Int.reduceLE,Int.reduceEq,Int.reduceNeg,↓reduceIte,reduceCtorEq,List.replicate,pC,hag])|apply a8|((first|apply d7|apply c7|apply a9|apply d8|apply c8|apply b8)<;>intro _))
   all_goals try (exfalso;omega)
   refine g9 (by rw[hC];exact hc.flat rfl rfl) ?_
   repeat' (first|(simp (disch:=try exact m8) only[WA,b9,d9,Nat.reduceEqDiff,Nat.reduceLT,Nat.reduceAdd,Nat.reduceBEq,Int.reduceAdd,Int.reduceSub,Int.reduceLT,Int.reduceLE,Int.reduceEq,Int.reduceNeg,↓reduceIte,reduceCtorEq,List.replicate])|apply a8|((first|apply d7|apply c7|apply a9|apply d8|apply c8|apply b8)<;>intro _))
   exact ⟨L.length - (k+1),_,_,by omega,.refl _ _,k+1,rfl,by omega,hst,rfl,rfl⟩
  |false=>
   rw[if_neg (OK hlt hx)]
   rw[hx,if_neg (by decide)] at hc
   generalize L[k]! =X at*
   obtain ⟨xk,xp,xa,xb⟩:=X
   repeat' (first|(simp (disch:=try exact m8) only[WA,b9,d9,Nat.reduceEqDiff,Nat.reduceLT,Nat.reduceAdd,Nat.reduceBEq,Int.reduceAdd,Int.reduceSub,Int.reduceLT,Int.reduceLE,Int.reduceEq,Int.reduceNeg,↓reduceIte,reduceCtorEq,List.replicate,pC,hag])|apply a8|((first|apply d7|apply c7|apply a9|apply d8|apply c8|apply b8)<;>intro _))
   all_goals try (exfalso;omega)
   refine g9 (by rw[hC];exact hc.flat rfl rfl) ?_
   repeat' (first|(simp (disch:=try exact m8) only[WA,b9,d9,Nat.reduceEqDiff,Nat.reduceLT,Nat.reduceAdd,Nat.reduceBEq,Int.reduceAdd,Int.reduceSub,Int.reduceLT,Int.reduceLE,Int.reduceEq,Int.reduceNeg,↓reduceIte,reduceCtorEq,List.replicate])|apply a8|((first|apply d7|apply c7|apply a9|apply d8|apply c8|apply b8)<;>intro _))
   exact i7 rfl h0 rfl
 ·have:k=L.length:=by omega
  subst this
  rw[List.take_length] at hall
  rw[if_pos hall]
  have hs:=HJ w n s L (by omega) hall
  generalize E7 E3 L=U at*
  generalize E7 H1 L=M at*
  by_cases hm:200<U∨200<M
  ·rw[if_pos hm]
   repeat' (first|(simp (disch:=try exact m8) only[WA,b9,d9,Nat.reduceEqDiff,Nat.reduceLT,Nat.reduceAdd,Nat.reduceBEq,Int.reduceAdd,Int.reduceSub,Int.reduceLT,Int.reduceLE,Int.reduceEq,Int.reduceNeg,↓reduceIte,reduceCtorEq,List.replicate,pC])|apply a8|((first|apply d7|apply c7|apply a9|apply d8|apply c8|apply b8)<;>intro _))
   all_goals try (exfalso;omega)
   refine g9 (by rw[hC];exact hs.flat rfl rfl) ?_
   repeat' (first|(simp (disch:=try exact m8) only[WA,b9,d9,Nat.reduceEqDiff,Nat.reduceLT,Nat.reduceAdd,Nat.reduceBEq,Int.reduceAdd,Int.reduceSub,Int.reduceLT,Int.reduceLE,Int.reduceEq,Int.reduceNeg,↓reduceIte,reduceCtorEq,List.replicate])|apply a8|((first|apply d7|apply c7|apply a9|apply d8|apply c8|apply b8)<;>intro _))
   all_goals try (exfalso;omega)
   all_goals exact i7 rfl h0 rfl
  ·rw[if_neg hm]
   repeat' (first|(simp (disch:=try exact m8) only[WA,b9,d9,Nat.reduceEqDiff,Nat.reduceLT,Nat.reduceAdd,Nat.reduceBEq,Int.reduceAdd,Int.reduceSub,Int.reduceLT,Int.reduceLE,Int.reduceEq,Int.reduceNeg,↓reduceIte,reduceCtorEq,List.replicate,pC])|apply a8|((first|apply d7|apply c7|apply a9|apply d8|apply c8|apply b8)<;>intro _))
   all_goals try (exfalso;omega)
   refine g9 (by rw[hC];exact hs.flat rfl rfl) ?_
   repeat' (first|(simp (disch:=try exact m8) only[WA,b9,d9,Nat.reduceEqDiff,Nat.reduceLT,Nat.reduceAdd,Nat.reduceBEq,Int.reduceAdd,Int.reduceSub,Int.reduceLT,Int.reduceLE,Int.reduceEq,Int.reduceNeg,↓reduceIte,reduceCtorEq,List.replicate])|apply a8|((first|apply d7|apply c7|apply a9|apply d8|apply c8|apply b8)<;>intro _))
   all_goals try (exfalso;omega)
   all_goals exact i7 rfl h0 rfl
theorem bJ7 (s t:Nat) (L M:List o8) (hL:L.length≤140737488351232) (hM:M.length≤140737488351232):r9 (EN w (n+1)) 33 [.sl s L.length (s5 L),.sl t M.length (s5 M)] (.sc (.bool (decide (L=M)))) ⟨[],0,0⟩:=by
 have hil:=v3 L
 have him:=v3 M
 by_cases hlen:L.length=M.length
 case neg=>
  rw[decide_eq_false fun h=>hlen (by rw[h])]
  refine m6 rfl rfl (fun _ _=>rfl) (Nat.le_of_ble_eq_true rfl) (o7 w) rfl fun C hC h0=>?_
  repeat' (first|(simp (disch:=try exact m8) only[WA,b9,d9,Nat.reduceEqDiff,Nat.reduceLT,Nat.reduceAdd,Nat.reduceBEq,Int.reduceAdd,Int.reduceSub,Int.reduceLT,Int.reduceLE,Int.reduceEq,Int.reduceNeg,↓reduceIte,reduceCtorEq,List.replicate,c33])|apply a8|((first|apply d7|apply c7|apply a9|apply d8|apply c8|apply b8)<;>intro _))
  all_goals try (exfalso;omega)
  exact i7 rfl h0 rfl
 refine m6 rfl rfl (fun _ _=>rfl) (Nat.le_of_ble_eq_true rfl) (o7 w) rfl fun C hC h0=>?_
 have hrn:C.E.rounds=C7:=by rw[hC,n7]
 repeat' (first|(simp (disch:=try exact m8) only[WA,b9,d9,Nat.reduceEqDiff,Nat.reduceLT,Nat.reduceAdd,Nat.reduceBEq,Int.reduceAdd,Int.reduceSub,Int.reduceLT,Int.reduceLE,Int.reduceEq,Int.reduceNeg,↓reduceIte,reduceCtorEq,List.replicate,c33])|apply a8|((first|apply d7|apply c7|apply a9|apply d8|apply c8|apply b8)<;>intro _))
 all_goals try (exfalso;omega)
 refine x9 (fun m fr st=>∃ (k:Nat),m=L.length - k∧k≤L.length∧(∀ j,j<k→L[j]! =M[j]!)∧fr= [(0,.sl s L.length (s5 L)),(1,.sl t M.length (s5 M)),(5,.sc (.int .i64 k))]∧st=⟨[],0,0⟩) L.length ?_ ⟨_,_,.refl _ _,0,by omega,Nat.zero_le _,fun j hj=>absurd hj (Nat.not_lt_zero _),rfl,rfl⟩ ?_
 ·rw[hrn];unfold C7;omega
 rintro m fr st ⟨k,rfl,hk,heq,rfl,rfl⟩
 by_cases hlt:k<L.length
 ·have hag:=P1 L k hlt
  have hag2:=P1 M k (by omega)
  by_cases hx:L[k]! =M[k]!
  ·have hnx:∀ j,j<k+1→L[j]! =M[j]! :=fun j hj=>by
    rcases Nat.lt_succ_iff_lt_or_eq.1 hj with h|h
    ·exact heq j h
    ·rw[h];exact hx
   rw[hx] at hag
   generalize M[k]! =X at*
   obtain ⟨xk,xp,xa,xb⟩:=X
   repeat' (first|(simp (disch:=try exact m8) only[WA,b9,d9,Nat.reduceEqDiff,Nat.reduceLT,Nat.reduceAdd,Nat.reduceBEq,Int.reduceAdd,Int.reduceSub,Int.reduceLT,Int.reduceLE,Int.reduceEq,Int.reduceNeg,↓reduceIte,reduceCtorEq,List.replicate,JE,hag,hag2,↓AU])|apply a8|((first|apply d7|apply c7|apply a9|apply d8|apply c8|apply b8)<;>intro _))
   all_goals try (exfalso;omega)
   exact ⟨L.length - (k+1),_,_,by omega,.refl _ _,k+1,rfl,by omega,hnx,rfl,rfl⟩
  ·have hd:decide (L=M)=false:=decide_eq_false fun h=>hx (by rw[h])
   rw[hd]
   have hdd:=decide_eq_false hx
   generalize L[k]! =X at*
   generalize M[k]! =Y at*
   obtain ⟨xk,xp,xa,xb⟩:=X
   obtain ⟨yk,yp,ya,yb⟩:=Y
   repeat' (first|(simp (disch:=try exact m8) only[WA,b9,d9,Nat.reduceEqDiff,Nat.reduceLT,Nat.reduceAdd,Nat.reduceBEq,Int.reduceAdd,Int.reduceSub,Int.reduceLT,Int.reduceLE,Int.reduceEq,Int.reduceNeg,↓reduceIte,reduceCtorEq,List.replicate,JE,hag,hag2,↓AU,hdd])|apply a8|((first|apply d7|apply c7|apply a9|apply d8|apply c8|apply b8)<;>intro _))
   all_goals try (exfalso;omega)
   exact i7 rfl h0 rfl
 ·have hd:decide (L=M)=true:=decide_eq_true (List.ext_getElem hlen fun j h1 h2=>by
   have:=heq j (by omega)
   rwa [getElem!_pos L j h1,getElem!_pos M j h2] at this)
  rw[hd]
  repeat' (first|(simp (disch:=try exact m8) only[WA,b9,d9,Nat.reduceEqDiff,Nat.reduceLT,Nat.reduceAdd,Nat.reduceBEq,Int.reduceAdd,Int.reduceSub,Int.reduceLT,Int.reduceLE,Int.reduceEq,Int.reduceNeg,↓reduceIte,reduceCtorEq,List.replicate,JE])|apply a8|((first|apply d7|apply c7|apply a9|apply d8|apply c8|apply b8)<;>intro _))
  all_goals try (exfalso;omega)
  exact i7 rfl h0 rfl
def GF (l:Nat):Bool:=decide (60<l∧l≤200∨300<l)
end
end Go.Proofs.YtgohenjcanfolaaGreatDoor
namespace Go.Itp
set_option linter.unusedVariables false
set_option linter.unusedSimpArgs false
structure B1 where
 op:Nat
 right:Bool
 bed:Nat
 pos:Int
 to:Int
 car:Int
 rack:Int
theorem B1.ext' {i j:B1} (h1:i.op=j.op) (h2:i.right=j.right) (h3:i.bed=j.bed) (h4:i.pos=j.pos) (h5:i.to=j.to) (h6:i.car=j.car) (h7:i.rack=j.rack):i=j:=by
 cases i;cases j;simp_all
def dD5:B1:=⟨0,false,0,0,0,0,0⟩
def kN (i:B1):List Value:= [.int .u8 i.op,.bool i.right,.int .u8 i.bed,.int .i64 i.pos,.int .i64 i.to,.int .i64 i.car,.int .i64 i.rack]
def ZE (i:B1):V:= .agg [.sc (.int .u8 i.op),.sc (.bool i.right),.sc (.int .u8 i.bed),.sc (.int .i64 i.pos),.sc (.int .i64 i.to),.sc (.int .i64 i.car),.sc (.int .i64 i.rack)]
abbrev zI (z:Int):Prop:= -100≤z∧z≤100
def aD5 (i:B1):Prop:=
 (i.op=1∨i.op=2)∧(1≤i.car∧i.car≤6)∧i.right=false∧i.bed=0∧i.pos=0∧i.to=0∧i.rack=0∨
 (i.op=3∨i.op=4∨i.op=5)∧(1≤i.car∧i.car≤6)∧i.bed≤1∧zI i.pos∧i.to=0∧i.rack=0∨
 i.op=6∧(1≤i.car∧i.car≤6)∧i.bed≤1∧zI i.pos∧zI i.to∧i.rack=0∨
 i.op=7∧i.right=false∧i.car=0∧i.rack=0∧i.bed≤1∧zI i.pos∧zI i.to∨
 i.op=8∧i.right=false∧i.bed=0∧i.pos=0∧i.to=0∧i.car=0∧ -8≤i.rack∧i.rack≤8∨
 i.op=9∧i.right=false∧i.to=0∧i.car=0∧i.rack=0∧i.bed≤1∧zI i.pos
open Classical in
noncomputable def cN5 (i:B1):Bool:=decide (aD5 i)
def cO1:Nat→List UInt8
 |1=> [105,110]
 |2=> [111,117,116]
 |3=> [107,110,105,116]
 |4=> [116,117,99,107]
 |5=> [109,105,115,115]
 |6=> [115,112,108,105,116]
 |7=> [120,102,101,114]
 |8=> [114,97,99,107]
 |9=> [100,114,111,112]
 |_=> []
def cD7:Nat→List UInt8
 |1=> [99]
 |2=> [99]
 |3=> [100,110,99]
 |4=> [100,110,99]
 |5=> [100,110,99]
 |6=> [100,110,111,99]
 |7=> [110,111]
 |8=> [114]
 |9=> [110]
 |_=> []
def ndl (b:Nat) (z:Int):List UInt8:=(if b=1 then 98 else 102)::Lib.itoa z
def cP2 (i:B1) (c:UInt8):List UInt8:=
 if c=100 then (if i.right=true then [43] else [45]) else if c=110 then ndl i.bed i.pos else if c=111 then ndl (1 - i.bed) i.to else if c=99 then Lib.itoa i.car else Lib.itoa i.rack
def cP9 (i:B1):List UInt8:=join 32 (cO1 i.op::(cD7 i.op).map (cP2 i))
end Go.Itp
namespace Go.Itp
set_option linter.unusedVariables false
set_option linter.unusedSimpArgs false
open Classical in
noncomputable def dG7 (s:List UInt8):Option B1:=if h:∃ i,aD5 i∧cP9 i=s then some (Classical.choose h) else none
theorem aD5.bounds {i:B1} (h:aD5 i):i.bed≤1∧zI i.pos∧zI i.to∧(0≤i.car∧i.car≤6)∧ -8≤i.rack∧i.rack≤8:=by
 unfold aD5 zI at h
 unfold zI
 omega
end Go.Itp
namespace Go.Proofs.YtgohenjcanfolaaGreatDoor
open Go Go.Itp
set_option maxRecDepth 100000
set_option maxHeartbeats 2000000
set_option linter.unusedSimpArgs false
set_option linter.unusedVariables false
section
variable (w:World) (n:Nat)
end
end Go.Proofs.YtgohenjcanfolaaGreatDoor
namespace Go.Itp
def AC.l:AC→AC
 | .seq a _=>a
 |x=>x
def AC.r:AC→AC
 | .seq _ b=>b
 |x=>x
end Go.Itp
namespace Go.Proofs.YtgohenjcanfolaaGreatDoor
open Go Go.Itp
set_option maxRecDepth 100000
set_option maxHeartbeats 2000000
set_option linter.unusedSimpArgs false
set_option linter.unusedVariables false
section
variable (w:World) (n:Nat)
end
end Go.Proofs.YtgohenjcanfolaaGreatDoor
namespace Go.Proofs.YtgohenjcanfolaaGreatDoor
open Go Go.Itp
set_option maxRecDepth 100000
set_option maxHeartbeats 20000000
set_option linter.unusedSimpArgs false
set_option linter.unusedVariables false
section
variable (w:World) (n:Nat)
end
set_option maxHeartbeats 1000000
instance:Inhabited B1:=⟨dD5⟩
def B9 (L:List B1):List D:=L.flatMap fun a=>(kN a).map D.sc
theorem x8 (L:List B1):(B9 L).length=L.length*7:=by
 induction L with
 |nil=>rfl
 |cons p L ih=>
  have e:B9 (p::L)=(kN p).map D.sc++B9 L:=by simp[B9]
  rw[e,List.length_append,ih];simp[kN];omega
theorem aO (L:List B1) (k:Nat) (hk:k<L.length):C9 (B9 L) (k*7) (some 7)=some (ZE L[k]!):=by
 have:=lM (fun p:B1=>(kN p).map D.sc) 7 L (fun _=>rfl) (by decide) k hk
 unfold B9
 rw[this]
 rfl
theorem cR (acc:List B1) (i:B1):B9 (acc++ [i])=B9 acc++ [.sc (.int .u8 i.op),.sc (.bool i.right),.sc (.int .u8 i.bed),.sc (.int .i64 i.pos),.sc (.int .i64 i.to),.sc (.int .i64 i.car),.sc (.int .i64 i.rack)]:=by
 simp[B9,kN]
theorem E0 (nx t:Nat) (a b c d e f g:Value):P5 nx t 7 1 [.int .u8 0,.bool false,.int .u8 0,.int .i64 0,.int .i64 0,.int .i64 0,.int .i64 0] [(0,7,.agg [.sc a,.sc b,.sc c,.sc d,.sc e,.sc f,.sc g])]=some (.ref nx 0 1 1,some (.row t 7 false false [.sc a,.sc b,.sc c,.sc d,.sc e,.sc f,.sc g]),[]):=rfl
theorem OA {H:D5} {o t n:Nat} {z:Bool} {l:List D} (h:k8 H o=some (.gro t 7 z l)) (hl:l.length=n*7):A7 H (.gr 2 o n)=some (.sl 2 n l):=by
 simp only[A7,bA,h]
 rw[if_pos ⟨hl,by decide,by decide,by decide⟩]
 rfl
theorem aP (L M:List B1):B9 (L++M)=B9 L++B9 M:=by simp[B9]
theorem MJ (L:List B1) (a:Nat) (h:a≤L.length):partD (B9 L) 0 (a*7)=B9 (L.take a):=by
 have h1:(B9 (L.take a)).length=a*7:=by rw[x8,List.length_take];congr 1;omega
 have h2:B9 L=B9 (L.take a)++B9 (L.drop a):=by rw[← aP,List.take_append_drop]
 unfold partD
 rw[h2,List.drop_zero,Nat.sub_zero,List.take_left' h1]
theorem eG (L:List B1) (a:Nat) (h:a≤L.length):partD (B9 L) (a*7) (L.length*7)=B9 (L.drop a):=by
 have h1:(B9 (L.take a)).length=a*7:=by rw[x8,List.length_take];congr 1;omega
 have h2:B9 L=B9 (L.take a)++B9 (L.drop a):=by rw[← aP,List.take_append_drop]
 have h3:(B9 (L.drop a)).length=L.length*7 - a*7:=by rw[x8,List.length_drop];omega
 unfold partD
 rw[h2,List.drop_left' h1,← h3,List.take_length]
instance:DecidableEq B1:=fun x y=>decidable_of_iff (x.op=y.op∧x.right=y.right∧x.bed=y.bed∧x.pos=y.pos∧x.to=y.to∧x.car=y.car∧x.rack=y.rack) ⟨fun ⟨h1,h2,h3,h4,h5,h6,h7⟩=>B1.ext' h1 h2 h3 h4 h5 h6 h7,fun h=>by subst h;exact ⟨rfl,rfl,rfl,rfl,rfl,rfl,rfl⟩⟩
abbrev iN (z:Int):V:= .sc (.int .i64 z)
abbrev jS (s:Nat) (L:List B1):V:= .sl s L.length (B9 L)
theorem jK (g:Bool) (x y:B1):lN g [(0,0),(1,2),(2,0),(3,0),(4,0),(5,0),(6,0)] (ZE x) (ZE y)=some (.sc (.bool (aR8 g (decide (x=y))))):=by
 obtain ⟨a1,a2,a3,a4,a5,a6,a7⟩:=x
 obtain ⟨b1,b2,b3,b4,b5,b6,b7⟩:=y
 unfold ZE
 rw[dY]
 have e:O5 [(0,0),(1,2),(2,0),(3,0),(4,0),(5,0),(6,0)] [V.sc (.int .u8 a1),.sc (.bool a2),.sc (.int .u8 a3),.sc (.int .i64 a4),.sc (.int .i64 a5),.sc (.int .i64 a6),.sc (.int .i64 a7)] [V.sc (.int .u8 b1),.sc (.bool b2),.sc (.int .u8 b3),.sc (.int .i64 b4),.sc (.int .i64 b5),.sc (.int .i64 b6),.sc (.int .i64 b7)]=
   some (decide ((a1:Int)=b1) && ((a2==b2) && (decide ((a3:Int)=b3) && (decide (a4=b4) && (decide (a5=b5) && (decide (a6=b6) && decide (a7=b7))))))):=by
  simp only[V6,Y8,bP,Y7,jF,Bool.and_true,A5,Option.bind_some]
 rw[e]
 simp only[Option.map_some]
 congr 4
 rw[Bool.eq_iff_iff]
 simp only[Bool.and_eq_true,beq_iff_eq,decide_eq_true_eq,B1.mk.injEq]
 constructor
 ·rintro ⟨h1,h2,h3,h4⟩;exact ⟨by omega,h2,by omega,h4⟩
 ·rintro ⟨h1,h2,h3,h4⟩;exact ⟨by omega,h2,by omega,h4⟩
theorem aG {a l:List B1} (h:a.length=l.length) (ha:∀ j,j<l.length→a[j]! =l[j]!):a=l:=by
 refine List.ext_getElem h fun i h1 h2=>?_
 have:=ha i h2
 rwa [getElem!_pos a i h1,getElem!_pos l i h2] at this
def cmn:List B1→List B1→Nat
 |a::A,b::B=>if a=b then cmn A B+1 else 0
 |_,_=>0
section
variable (w:World) (n:Nat)
theorem aQ2 (s t:Nat) (L M:List B1) (hL:L.length≤140737488351232) (hM:M.length≤140737488351232):r9 (EN w (n+1)) 69 [jS s L,jS t M] (.sc (.bool (decide (L=M)))) ⟨[],0,0⟩:=by
 have hil:=x8 L
 have him:=x8 M
 by_cases hlen:L.length=M.length
 case neg=>
  rw[decide_eq_false fun h=>hlen (by rw[h])]
  refine m6 rfl rfl (fun _ _=>rfl) (Nat.le_of_ble_eq_true rfl) (o7 w) rfl fun C hC h0=>?_
  repeat' (first|(simp (disch:=try exact m8) only[WA,b9,d9,Nat.reduceEqDiff,Nat.reduceLT,Nat.reduceAdd,Nat.reduceBEq,Int.reduceAdd,Int.reduceSub,Int.reduceLT,Int.reduceLE,Int.reduceEq,Int.reduceNeg,↓reduceIte,reduceCtorEq,List.replicate,c69])|apply a8|((first|apply d7|apply c7|apply a9|apply d8|apply c8|apply b8)<;>intro _))
  all_goals try (exfalso;omega)
  exact i7 rfl h0 rfl
 refine m6 rfl rfl (fun _ _=>rfl) (Nat.le_of_ble_eq_true rfl) (o7 w) rfl fun C hC h0=>?_
 have hrn:C.E.rounds=C7:=by rw[hC,n7]
 repeat' (first|(simp (disch:=try exact m8) only[WA,b9,d9,Nat.reduceEqDiff,Nat.reduceLT,Nat.reduceAdd,Nat.reduceBEq,Int.reduceAdd,Int.reduceSub,Int.reduceLT,Int.reduceLE,Int.reduceEq,Int.reduceNeg,↓reduceIte,reduceCtorEq,List.replicate,c69])|apply a8|((first|apply d7|apply c7|apply a9|apply d8|apply c8|apply b8)<;>intro _))
 all_goals try (exfalso;omega)
 refine x9 (fun m fr st=>∃ (k:Nat),m=L.length - k∧k≤L.length∧(∀ j,j<k→L[j]! =M[j]!)∧fr= [(0,jS s L),(1,jS t M),(12,iN L.length),(13,iN k)]∧st=⟨[],0,0⟩) L.length ?_ ⟨_,_,.refl _ _,0,by omega,Nat.zero_le _,fun j hj=>absurd hj (Nat.not_lt_zero _),rfl,rfl⟩ ?_
 ·rw[hrn];unfold C7;omega
 rintro m fr st ⟨k,rfl,hk,heq,rfl,rfl⟩
 by_cases hlt:k<L.length
 ·have hag:=aO L k hlt
  have hag2:=aO M k (by omega)
  by_cases hx:L[k]! =M[k]!
  ·have hnx:∀ j,j<k+1→L[j]! =M[j]! :=fun j hj=>by
    rcases Nat.lt_succ_iff_lt_or_eq.1 hj with h|h
    ·exact heq j h
    ·rw[h];exact hx
   rw[hx] at hag
   repeat' (first|(simp (disch:=try exact m8) only[WA,b9,d9,Nat.reduceEqDiff,Nat.reduceLT,Nat.reduceAdd,Nat.reduceBEq,Int.reduceAdd,Int.reduceSub,Int.reduceLT,Int.reduceLE,Int.reduceEq,Int.reduceNeg,↓reduceIte,reduceCtorEq,List.replicate,JF,hag,hag2,↓jK])|apply a8|((first|apply d7|apply c7|apply a9|apply d8|apply c8|apply b8)<;>intro _))
   all_goals try (exfalso;omega)
   exact ⟨L.length - (k+1),_,_,by omega,.refl _ _,k+1,rfl,by omega,hnx,rfl,rfl⟩
  ·rw[decide_eq_false fun h=>hx (by rw[h])]
   have hdd:=decide_eq_false hx
   repeat' (first|(simp (disch:=try exact m8) only[WA,b9,d9,Nat.reduceEqDiff,Nat.reduceLT,Nat.reduceAdd,Nat.reduceBEq,Int.reduceAdd,Int.reduceSub,Int.reduceLT,Int.reduceLE,Int.reduceEq,Int.reduceNeg,↓reduceIte,reduceCtorEq,List.replicate,JF,hag,hag2,↓jK,hdd])|apply a8|((first|apply d7|apply c7|apply a9|apply d8|apply c8|apply b8)<;>intro _))
   all_goals try (exfalso;omega)
   exact i7 rfl h0 rfl
 ·rw[decide_eq_true (aG hlen fun j h=>heq j (by omega))]
  repeat' (first|(simp (disch:=try exact m8) only[WA,b9,d9,Nat.reduceEqDiff,Nat.reduceLT,Nat.reduceAdd,Nat.reduceBEq,Int.reduceAdd,Int.reduceSub,Int.reduceLT,Int.reduceLE,Int.reduceEq,Int.reduceNeg,↓reduceIte,reduceCtorEq,List.replicate,JF])|apply a8|((first|apply d7|apply c7|apply a9|apply d8|apply c8|apply b8)<;>intro _))
  all_goals try (exfalso;omega)
  exact i7 rfl h0 rfl
theorem bG6 (s t:Nat) (L M:List B1) (hL:L.length≤140737488351232) (hM:M.length≤140737488351232):r9 (EN w (n+1)) 28 [jS s L,jS t M] (.sc (.bool (decide (L=M)))) ⟨[],0,0⟩:=by
 have hil:=x8 L
 have him:=x8 M
 by_cases hlen:L.length=M.length
 case neg=>
  rw[decide_eq_false fun h=>hlen (by rw[h])]
  refine m6 rfl rfl (fun _ _=>rfl) (Nat.le_of_ble_eq_true rfl) (o7 w) rfl fun C hC h0=>?_
  repeat' (first|(simp (disch:=try exact m8) only[WA,b9,d9,Nat.reduceEqDiff,Nat.reduceLT,Nat.reduceAdd,Nat.reduceBEq,Int.reduceAdd,Int.reduceSub,Int.reduceLT,Int.reduceLE,Int.reduceEq,Int.reduceNeg,↓reduceIte,reduceCtorEq,List.replicate,c28])|apply a8|((first|apply d7|apply c7|apply a9|apply d8|apply c8|apply b8)<;>intro _))
  all_goals try (exfalso;omega)
  exact i7 rfl h0 rfl
 refine m6 rfl rfl (fun _ _=>rfl) (Nat.le_of_ble_eq_true rfl) (o7 w) rfl fun C hC h0=>?_
 have hrn:C.E.rounds=C7:=by rw[hC,n7]
 repeat' (first|(simp (disch:=try exact m8) only[WA,b9,d9,Nat.reduceEqDiff,Nat.reduceLT,Nat.reduceAdd,Nat.reduceBEq,Int.reduceAdd,Int.reduceSub,Int.reduceLT,Int.reduceLE,Int.reduceEq,Int.reduceNeg,↓reduceIte,reduceCtorEq,List.replicate,c28])|apply a8|((first|apply d7|apply c7|apply a9|apply d8|apply c8|apply b8)<;>intro _))
 all_goals try (exfalso;omega)
 refine x9 (fun m fr st=>∃ (k:Nat),m=L.length - k∧k≤L.length∧(∀ j,j<k→L[j]! =M[j]!)∧fr= [(0,jS s L),(1,jS t M),(5,iN k)]∧st=⟨[],0,0⟩) L.length ?_ ⟨_,_,.refl _ _,0,by omega,Nat.zero_le _,fun j hj=>absurd hj (Nat.not_lt_zero _),rfl,rfl⟩ ?_
 ·rw[hrn];unfold C7;omega
 rintro m fr st ⟨k,rfl,hk,heq,rfl,rfl⟩
 by_cases hlt:k<L.length
 ·have hag:=aO L k hlt
  have hag2:=aO M k (by omega)
  by_cases hx:L[k]! =M[k]!
  ·have hnx:∀ j,j<k+1→L[j]! =M[j]! :=fun j hj=>by
    rcases Nat.lt_succ_iff_lt_or_eq.1 hj with h|h
    ·exact heq j h
    ·rw[h];exact hx
   rw[hx] at hag
   repeat' (first|(simp (disch:=try exact m8) only[WA,b9,d9,Nat.reduceEqDiff,Nat.reduceLT,Nat.reduceAdd,Nat.reduceBEq,Int.reduceAdd,Int.reduceSub,Int.reduceLT,Int.reduceLE,Int.reduceEq,Int.reduceNeg,↓reduceIte,reduceCtorEq,List.replicate,JD,hag,hag2,↓jK])|apply a8|((first|apply d7|apply c7|apply a9|apply d8|apply c8|apply b8)<;>intro _))
   all_goals try (exfalso;omega)
   exact ⟨L.length - (k+1),_,_,by omega,.refl _ _,k+1,rfl,by omega,hnx,rfl,rfl⟩
  ·rw[decide_eq_false fun h=>hx (by rw[h])]
   have hdd:=decide_eq_false hx
   repeat' (first|(simp (disch:=try exact m8) only[WA,b9,d9,Nat.reduceEqDiff,Nat.reduceLT,Nat.reduceAdd,Nat.reduceBEq,Int.reduceAdd,Int.reduceSub,Int.reduceLT,Int.reduceLE,Int.reduceEq,Int.reduceNeg,↓reduceIte,reduceCtorEq,List.replicate,JD,hag,hag2,↓jK,hdd])|apply a8|((first|apply d7|apply c7|apply a9|apply d8|apply c8|apply b8)<;>intro _))
   all_goals try (exfalso;omega)
   exact i7 rfl h0 rfl
 ·rw[decide_eq_true (aG hlen fun j h=>heq j (by omega))]
  repeat' (first|(simp (disch:=try exact m8) only[WA,b9,d9,Nat.reduceEqDiff,Nat.reduceLT,Nat.reduceAdd,Nat.reduceBEq,Int.reduceAdd,Int.reduceSub,Int.reduceLT,Int.reduceLE,Int.reduceEq,Int.reduceNeg,↓reduceIte,reduceCtorEq,List.replicate,JD])|apply a8|((first|apply d7|apply c7|apply a9|apply d8|apply c8|apply b8)<;>intro _))
  all_goals try (exfalso;omega)
  exact i7 rfl h0 rfl
end
end Go.Proofs.YtgohenjcanfolaaGreatDoor
namespace Go.Proofs.YtgohenjcanfolaaGreatDoor
open Go Go.Itp
set_option maxRecDepth 100000
set_option maxHeartbeats 1000000
set_option linter.unusedSimpArgs false
set_option linter.unusedVariables false
def bP4 (A:List B1):Nat→Nat
 |0=>0
 |n+1=>if A[n]! =A[n+1]! then bP4 A n else n+1
def bV3 (A B:List B1):Option Nat:=if A.length=B.length+1∧A.drop (cmn A B+1)=B.drop (cmn A B) then some (bP4 A (cmn A B)) else none
theorem TG (A:List B1) (i j:Nat) (h:i+j<A.length):(A.drop i)[j]! =A[i+j]! :=by
 rw[getElem!_pos _ j (by rw[List.length_drop];omega),List.getElem_drop,getElem!_pos A (i+j) h]
section
variable (w:World) (n:Nat)
end
section
variable (w:World) (n:Nat)
end
section
variable (w:World) (n:Nat)
end
theorem GO (L:List B1):M2 (B9 L)=true:=by
 simp only[M2,List.all_eq_true]
 intro d hd
 simp only[B9,List.mem_flatMap,List.mem_map] at hd
 obtain ⟨a,_,c,hc,rfl⟩:=hd
 simp[kN] at hc
 rcases hc with rfl|rfl|rfl|rfl|rfl|rfl|rfl<;>rfl
theorem bF4 {C:B7} {st:n5} {v:V} {s n:Nat} {l:List D} (hs:A7 st.own v=some (.sl s n l)) (hrow:A4 st.ro st.own (bG v)=true) (hk:s ≠ 1∨n ≠ 0) (h0:C.w0.nx=0) (hro:st.ro=0):L4 C [(0,v)] st [(0,.sl 3 n l)] ⟨[],0,0⟩:=by
 refine (kM (t:=0) (v:=v) rfl hs hrow).trans ?_
 exact (V3 (t:=0) (v:= .sl s n l) (v':= .sl 3 n l) rfl (xL hk)).trans (s7 [] 0 h0 hro rfl rfl rfl)
theorem CR {n:Nat} {l:List D}:fK [] (.sl 3 n l):=qJ (by simp only[Cl];rfl)
theorem bD3 {p:B1→Bool} {L:List B1} (h:L.all p=true) {k:Nat} (hk:k<L.length):p L[k]! =true:=List.all_eq_true.1 h _ (by rw[getElem!_pos L k hk];exact List.getElem_mem hk)
theorem aB5 {p:B1→Bool} {L:List B1} {k:Nat} (h:k<L.length) (h1:(L.take k).all p=true) (h2:p L[k]! =true):(L.take (k+1)).all p=true:=by
 rw[List.take_succ_eq_append_getElem h,List.all_append,h1]
 rw[getElem!_pos L k h] at h2
 simp[h2]
theorem aE1 {p:B1→Bool} {L:List B1} {k:Nat} (h:k<L.length) (h2:p L[k]! =false):L.all p=false:=by
 rw[Bool.eq_false_iff]
 intro ha
 rw[bD3 ha h] at h2
 cases h2
section
variable (w:World) (n:Nat)
end
set_option maxHeartbeats 2000000
def dD7 (P D:List B1) (N:Nat) (K1 K2:Option Nat):Nat × Int × Int:=
 if P=D then (0,0,0) else if N=D.length then (1,N,0) else match K1 with
 |some k=>(2,k,0)
 |none=>match K2 with
  |some k=>(3,k,0)
  |none=>if P.length=D.length∧P.drop (N+1)=D.drop (N+1) then (4,N,0) else (5,N,0)
noncomputable def dM1 (P D:List B1):Nat × Int × Int:=
 if 2000<P.length∨2000<D.length then (0,0,4) else if ¬ ((P++D).all cN5=true) then (0,0,8) else dD7 P D (cmn P D) (bV3 P D) (bV3 D P)
section
variable (w:World) (n:Nat)
variable {st:n5} {a b c t e t' e' t2 e2:Nat} {P D:List B1} {N:Nat}
end
section
variable (w:World) (n:Nat)
end
section
variable (w:World) (n:Nat)
end
set_option maxHeartbeats 1000000
def zN (k:Nat) (r:Bool × List o8):List D:= [.sc (.bool r.1),.sl k r.2.length (s5 r.2)]
def G3 (k:Nat) (R:List (Bool × List o8)):List D:=R.flatMap (zN k)
theorem D1 (k:Nat) (R:List (Bool × List o8)):(G3 k R).length=R.length*2:=by
 induction R with
 |nil=>rfl
 |cons r R ih=>
  have e:G3 k (r::R)=zN k r++G3 k R:=by simp[G3]
  rw[e,List.length_append,ih]
  simp only[zN,List.length_cons,List.length_nil]
  omega
theorem qN (k:Nat) (R:List (Bool × List o8)) (j:Nat) (hj:j<R.length):C9 (G3 k R) (j*2) (some 2)=some (.agg [.sc (.bool R[j]!.1),.sl k R[j]!.2.length (s5 R[j]!.2)]):=lM (zN k) 2 R (fun _=>rfl) (by decide) j hj
abbrev T6 (s k:Nat) (c:PW):V:= .agg [.sc (.int .i64 c.1),.sl s c.2.length (G3 k c.2)]
def T1 (R:List (Bool × List o8)):Prop:=∀ r ∈ R,zQ r.2∧r.2.length≤140737488351232
theorem qO (k:Nat) (R:List (Bool × List o8)) (j:Nat) (hj:j<R.length):C9 (G3 k R) (j*2) none=some (.sc (.bool R[j]!.1)):=bL (zN k) 2 R (fun _=>rfl) j 0 hj (by decide)
theorem cX (k:Nat) (R:List (Bool × List o8)) (j:Nat) (hj:j<R.length):C9 (G3 k R) (j*2+1) none=some (.sl k R[j]!.2.length (s5 R[j]!.2)):=bL (zN k) 2 R (fun _=>rfl) j 1 hj (by decide)
abbrev tS (s:Nat) (L:List o8):V:= .sl s L.length (s5 L)
def sO (L:List o8):Int × Int:=if I0 L=0 then (E7 E3 L,0) else (0,I0 L)
def hI (L:List o8):Int × Int:=if I0 L=0 then (E7 H1 L,0) else (0,I0 L)
section
variable (w:World) (n:Nat)
theorem bL4 (s:Nat) (L:List o8) (hL:L.length≤140737488351232) (hK:zQ L):r9 (EN w (n+7)) 161 [tS s L] (.tup [iN (sO L).1,iN (sO L).2]) ⟨[],0,0⟩:=by
 have ha:=HM w n s L hL hK
 unfold sO
 by_cases e:I0 L=0
 ·rw[if_pos e]
  rw[e] at ha
  obtain ⟨l1,l2,_⟩:=Y5 e
  have hs:=SH w (n+4) s L l1 l2
  refine m6 rfl rfl (fun _ _=>rfl) (Nat.le_of_ble_eq_true rfl) (o7 w) rfl fun C hC h0=>?_
  repeat' (first|(simp (disch:=try exact m8) only[WA,b9,d9,Nat.reduceEqDiff,Nat.reduceLT,Nat.reduceAdd,Nat.reduceBEq,Int.reduceAdd,Int.reduceSub,Int.reduceLT,Int.reduceLE,Int.reduceEq,Int.reduceNeg,↓reduceIte,reduceCtorEq,List.replicate,bY9])|apply a8|((first|apply d7|apply c7|apply a9|apply d8|apply c8|apply b8)<;>intro _))
  refine g9 (by rw[hC];exact ha.flat rfl rfl) ?_
  repeat' (first|(simp (disch:=try exact m8) only[WA,b9,d9,Nat.reduceEqDiff,Nat.reduceLT,Nat.reduceAdd,Nat.reduceBEq,Int.reduceAdd,Int.reduceSub,Int.reduceLT,Int.reduceLE,Int.reduceEq,Int.reduceNeg,↓reduceIte,reduceCtorEq,List.replicate])|apply a8|((first|apply d7|apply c7|apply a9|apply d8|apply c8|apply b8)<;>intro _))
  refine g9 (by rw[hC];exact hs.flat rfl rfl) ?_
  repeat' (first|(simp (disch:=try exact m8) only[WA,b9,d9,Nat.reduceEqDiff,Nat.reduceLT,Nat.reduceAdd,Nat.reduceBEq,Int.reduceAdd,Int.reduceSub,Int.reduceLT,Int.reduceLE,Int.reduceEq,Int.reduceNeg,↓reduceIte,reduceCtorEq,List.replicate])|apply a8|((first|apply d7|apply c7|apply a9|apply d8|apply c8|apply b8)<;>intro _))
  exact i7 rfl h0 rfl
 ·rw[if_neg e]
  generalize I0 L=E at*
  refine m6 rfl rfl (fun _ _=>rfl) (Nat.le_of_ble_eq_true rfl) (o7 w) rfl fun C hC h0=>?_
  repeat' (first|(simp (disch:=try exact m8) only[WA,b9,d9,Nat.reduceEqDiff,Nat.reduceLT,Nat.reduceAdd,Nat.reduceBEq,Int.reduceAdd,Int.reduceSub,Int.reduceLT,Int.reduceLE,Int.reduceEq,Int.reduceNeg,↓reduceIte,reduceCtorEq,List.replicate,bY9])|apply a8|((first|apply d7|apply c7|apply a9|apply d8|apply c8|apply b8)<;>intro _))
  refine g9 (by rw[hC];exact ha.flat rfl rfl) ?_
  repeat' (first|(simp (disch:=try exact m8) only[WA,b9,d9,Nat.reduceEqDiff,Nat.reduceLT,Nat.reduceAdd,Nat.reduceBEq,Int.reduceAdd,Int.reduceSub,Int.reduceLT,Int.reduceLE,Int.reduceEq,Int.reduceNeg,↓reduceIte,reduceCtorEq,List.replicate,e])|apply a8|((first|apply d7|apply c7|apply a9|apply d8|apply c8|apply b8)<;>intro _))
  exact i7 rfl h0 rfl
theorem aY3 (s:Nat) (L:List o8) (hL:L.length≤140737488351232) (hK:zQ L):r9 (EN w (n+7)) 162 [tS s L] (.tup [iN (hI L).1,iN (hI L).2]) ⟨[],0,0⟩:=by
 have ha:=HM w n s L hL hK
 unfold hI
 by_cases e:I0 L=0
 ·rw[if_pos e]
  rw[e] at ha
  obtain ⟨l1,l2,_⟩:=Y5 e
  have hs:=SH w (n+4) s L l1 l2
  refine m6 rfl rfl (fun _ _=>rfl) (Nat.le_of_ble_eq_true rfl) (o7 w) rfl fun C hC h0=>?_
  repeat' (first|(simp (disch:=try exact m8) only[WA,b9,d9,Nat.reduceEqDiff,Nat.reduceLT,Nat.reduceAdd,Nat.reduceBEq,Int.reduceAdd,Int.reduceSub,Int.reduceLT,Int.reduceLE,Int.reduceEq,Int.reduceNeg,↓reduceIte,reduceCtorEq,List.replicate,bZ0])|apply a8|((first|apply d7|apply c7|apply a9|apply d8|apply c8|apply b8)<;>intro _))
  refine g9 (by rw[hC];exact ha.flat rfl rfl) ?_
  repeat' (first|(simp (disch:=try exact m8) only[WA,b9,d9,Nat.reduceEqDiff,Nat.reduceLT,Nat.reduceAdd,Nat.reduceBEq,Int.reduceAdd,Int.reduceSub,Int.reduceLT,Int.reduceLE,Int.reduceEq,Int.reduceNeg,↓reduceIte,reduceCtorEq,List.replicate])|apply a8|((first|apply d7|apply c7|apply a9|apply d8|apply c8|apply b8)<;>intro _))
  refine g9 (by rw[hC];exact hs.flat rfl rfl) ?_
  repeat' (first|(simp (disch:=try exact m8) only[WA,b9,d9,Nat.reduceEqDiff,Nat.reduceLT,Nat.reduceAdd,Nat.reduceBEq,Int.reduceAdd,Int.reduceSub,Int.reduceLT,Int.reduceLE,Int.reduceEq,Int.reduceNeg,↓reduceIte,reduceCtorEq,List.replicate])|apply a8|((first|apply d7|apply c7|apply a9|apply d8|apply c8|apply b8)<;>intro _))
  exact i7 rfl h0 rfl
 ·rw[if_neg e]
  generalize I0 L=E at*
  refine m6 rfl rfl (fun _ _=>rfl) (Nat.le_of_ble_eq_true rfl) (o7 w) rfl fun C hC h0=>?_
  repeat' (first|(simp (disch:=try exact m8) only[WA,b9,d9,Nat.reduceEqDiff,Nat.reduceLT,Nat.reduceAdd,Nat.reduceBEq,Int.reduceAdd,Int.reduceSub,Int.reduceLT,Int.reduceLE,Int.reduceEq,Int.reduceNeg,↓reduceIte,reduceCtorEq,List.replicate,bZ0])|apply a8|((first|apply d7|apply c7|apply a9|apply d8|apply c8|apply b8)<;>intro _))
  refine g9 (by rw[hC];exact ha.flat rfl rfl) ?_
  repeat' (first|(simp (disch:=try exact m8) only[WA,b9,d9,Nat.reduceEqDiff,Nat.reduceLT,Nat.reduceAdd,Nat.reduceBEq,Int.reduceAdd,Int.reduceSub,Int.reduceLT,Int.reduceLE,Int.reduceEq,Int.reduceNeg,↓reduceIte,reduceCtorEq,List.replicate,e])|apply a8|((first|apply d7|apply c7|apply a9|apply d8|apply c8|apply b8)<;>intro _))
  exact i7 rfl h0 rfl
theorem bJ9 (s:Nat) (L:List o8) (hL:L.length≤140737488351232) (hK:zQ L):r9 (EN w (n+4)) 125 [tS s L] (.tup [iN (sO L).1,iN (sO L).2]) ⟨[],0,0⟩:=by
 have ha:=aU9 w n s L hL hK
 unfold sO
 by_cases e:I0 L=0
 ·rw[if_pos e]
  rw[e] at ha
  obtain ⟨l1,l2,_⟩:=Y5 e
  have hs:=HJ w (n+1) s L l1 l2
  refine m6 rfl rfl (fun _ _=>rfl) (Nat.le_of_ble_eq_true rfl) (o7 w) rfl fun C hC h0=>?_
  repeat' (first|(simp (disch:=try exact m8) only[WA,b9,d9,Nat.reduceEqDiff,Nat.reduceLT,Nat.reduceAdd,Nat.reduceBEq,Int.reduceAdd,Int.reduceSub,Int.reduceLT,Int.reduceLE,Int.reduceEq,Int.reduceNeg,↓reduceIte,reduceCtorEq,List.replicate,bY6])|apply a8|((first|apply d7|apply c7|apply a9|apply d8|apply c8|apply b8)<;>intro _))
  refine g9 (by rw[hC];exact ha.flat rfl rfl) ?_
  repeat' (first|(simp (disch:=try exact m8) only[WA,b9,d9,Nat.reduceEqDiff,Nat.reduceLT,Nat.reduceAdd,Nat.reduceBEq,Int.reduceAdd,Int.reduceSub,Int.reduceLT,Int.reduceLE,Int.reduceEq,Int.reduceNeg,↓reduceIte,reduceCtorEq,List.replicate])|apply a8|((first|apply d7|apply c7|apply a9|apply d8|apply c8|apply b8)<;>intro _))
  refine g9 (by rw[hC];exact hs.flat rfl rfl) ?_
  repeat' (first|(simp (disch:=try exact m8) only[WA,b9,d9,Nat.reduceEqDiff,Nat.reduceLT,Nat.reduceAdd,Nat.reduceBEq,Int.reduceAdd,Int.reduceSub,Int.reduceLT,Int.reduceLE,Int.reduceEq,Int.reduceNeg,↓reduceIte,reduceCtorEq,List.replicate])|apply a8|((first|apply d7|apply c7|apply a9|apply d8|apply c8|apply b8)<;>intro _))
  exact i7 rfl h0 rfl
 ·rw[if_neg e]
  generalize I0 L=E at*
  refine m6 rfl rfl (fun _ _=>rfl) (Nat.le_of_ble_eq_true rfl) (o7 w) rfl fun C hC h0=>?_
  repeat' (first|(simp (disch:=try exact m8) only[WA,b9,d9,Nat.reduceEqDiff,Nat.reduceLT,Nat.reduceAdd,Nat.reduceBEq,Int.reduceAdd,Int.reduceSub,Int.reduceLT,Int.reduceLE,Int.reduceEq,Int.reduceNeg,↓reduceIte,reduceCtorEq,List.replicate,bY6])|apply a8|((first|apply d7|apply c7|apply a9|apply d8|apply c8|apply b8)<;>intro _))
  refine g9 (by rw[hC];exact ha.flat rfl rfl) ?_
  repeat' (first|(simp (disch:=try exact m8) only[WA,b9,d9,Nat.reduceEqDiff,Nat.reduceLT,Nat.reduceAdd,Nat.reduceBEq,Int.reduceAdd,Int.reduceSub,Int.reduceLT,Int.reduceLE,Int.reduceEq,Int.reduceNeg,↓reduceIte,reduceCtorEq,List.replicate,e])|apply a8|((first|apply d7|apply c7|apply a9|apply d8|apply c8|apply b8)<;>intro _))
  refine g9 (by rw[hC];exact ha.flat rfl rfl) ?_
  repeat' (first|(simp (disch:=try exact m8) only[WA,b9,d9,Nat.reduceEqDiff,Nat.reduceLT,Nat.reduceAdd,Nat.reduceBEq,Int.reduceAdd,Int.reduceSub,Int.reduceLT,Int.reduceLE,Int.reduceEq,Int.reduceNeg,↓reduceIte,reduceCtorEq,List.replicate])|apply a8|((first|apply d7|apply c7|apply a9|apply d8|apply c8|apply b8)<;>intro _))
  exact i7 rfl h0 rfl
theorem aW5 (s:Nat) (L:List o8) (hL:L.length≤140737488351232) (hK:zQ L):r9 (EN w (n+4)) 126 [tS s L] (.tup [iN (hI L).1,iN (hI L).2]) ⟨[],0,0⟩:=by
 have ha:=aU9 w n s L hL hK
 unfold hI
 by_cases e:I0 L=0
 ·rw[if_pos e]
  rw[e] at ha
  obtain ⟨l1,l2,_⟩:=Y5 e
  have hs:=HJ w (n+1) s L l1 l2
  refine m6 rfl rfl (fun _ _=>rfl) (Nat.le_of_ble_eq_true rfl) (o7 w) rfl fun C hC h0=>?_
  repeat' (first|(simp (disch:=try exact m8) only[WA,b9,d9,Nat.reduceEqDiff,Nat.reduceLT,Nat.reduceAdd,Nat.reduceBEq,Int.reduceAdd,Int.reduceSub,Int.reduceLT,Int.reduceLE,Int.reduceEq,Int.reduceNeg,↓reduceIte,reduceCtorEq,List.replicate,bY7])|apply a8|((first|apply d7|apply c7|apply a9|apply d8|apply c8|apply b8)<;>intro _))
  refine g9 (by rw[hC];exact ha.flat rfl rfl) ?_
  repeat' (first|(simp (disch:=try exact m8) only[WA,b9,d9,Nat.reduceEqDiff,Nat.reduceLT,Nat.reduceAdd,Nat.reduceBEq,Int.reduceAdd,Int.reduceSub,Int.reduceLT,Int.reduceLE,Int.reduceEq,Int.reduceNeg,↓reduceIte,reduceCtorEq,List.replicate])|apply a8|((first|apply d7|apply c7|apply a9|apply d8|apply c8|apply b8)<;>intro _))
  refine g9 (by rw[hC];exact hs.flat rfl rfl) ?_
  repeat' (first|(simp (disch:=try exact m8) only[WA,b9,d9,Nat.reduceEqDiff,Nat.reduceLT,Nat.reduceAdd,Nat.reduceBEq,Int.reduceAdd,Int.reduceSub,Int.reduceLT,Int.reduceLE,Int.reduceEq,Int.reduceNeg,↓reduceIte,reduceCtorEq,List.replicate])|apply a8|((first|apply d7|apply c7|apply a9|apply d8|apply c8|apply b8)<;>intro _))
  exact i7 rfl h0 rfl
 ·rw[if_neg e]
  generalize I0 L=E at*
  refine m6 rfl rfl (fun _ _=>rfl) (Nat.le_of_ble_eq_true rfl) (o7 w) rfl fun C hC h0=>?_
  repeat' (first|(simp (disch:=try exact m8) only[WA,b9,d9,Nat.reduceEqDiff,Nat.reduceLT,Nat.reduceAdd,Nat.reduceBEq,Int.reduceAdd,Int.reduceSub,Int.reduceLT,Int.reduceLE,Int.reduceEq,Int.reduceNeg,↓reduceIte,reduceCtorEq,List.replicate,bY7])|apply a8|((first|apply d7|apply c7|apply a9|apply d8|apply c8|apply b8)<;>intro _))
  refine g9 (by rw[hC];exact ha.flat rfl rfl) ?_
  repeat' (first|(simp (disch:=try exact m8) only[WA,b9,d9,Nat.reduceEqDiff,Nat.reduceLT,Nat.reduceAdd,Nat.reduceBEq,Int.reduceAdd,Int.reduceSub,Int.reduceLT,Int.reduceLE,Int.reduceEq,Int.reduceNeg,↓reduceIte,reduceCtorEq,List.replicate,e])|apply a8|((first|apply d7|apply c7|apply a9|apply d8|apply c8|apply b8)<;>intro _))
  refine g9 (by rw[hC];exact ha.flat rfl rfl) ?_
  repeat' (first|(simp (disch:=try exact m8) only[WA,b9,d9,Nat.reduceEqDiff,Nat.reduceLT,Nat.reduceAdd,Nat.reduceBEq,Int.reduceAdd,Int.reduceSub,Int.reduceLT,Int.reduceLE,Int.reduceEq,Int.reduceNeg,↓reduceIte,reduceCtorEq,List.replicate])|apply a8|((first|apply d7|apply c7|apply a9|apply d8|apply c8|apply b8)<;>intro _))
  exact i7 rfl h0 rfl
end
def Q8:Int→List (Bool × List o8)→Int
 |_,[]=>0
 |z,r::R=>if I0 r.2 ≠ 0 then I0 r.2 else if E7 E3 r.2 ≠ z then 26 else Q8 (E7 H1 r.2) R
def O4 (c:PW):Int:=if 100<c.2.length then 4 else if c.1<0∨200<c.1 then 8 else Q8 c.1 c.2
theorem kC {z:Int} {r:Bool × List o8} {R:List (Bool × List o8)} (h:I0 r.2 ≠ 0):Q8 z (r::R)=I0 r.2:=by rw[Q8,if_pos h]
theorem kD {z:Int} {r:Bool × List o8} {R:List (Bool × List o8)} (h:I0 r.2=0) (h2:E7 E3 r.2 ≠ z):Q8 z (r::R)=26:=by rw[Q8,if_neg (not_not_intro h),if_pos h2]
theorem iL {z:Int} {r:Bool × List o8} {R:List (Bool × List o8)} (h:I0 r.2=0) (h2:E7 E3 r.2=z):Q8 z (r::R)=Q8 (E7 H1 r.2) R:=by rw[Q8,if_neg (not_not_intro h),if_neg (not_not_intro h2)]
theorem fT {R:List (Bool × List o8)} {j:Nat} (h:j<R.length):R.drop j=R[j]! ::R.drop (j+1):=by rw[List.drop_eq_getElem_cons h,getElem!_pos R j h]
theorem T1.at {R:List (Bool × List o8)} (h:T1 R) {j:Nat} (hj:j<R.length):zQ R[j]!.2∧R[j]!.2.length≤140737488351232:=h _ (by rw[getElem!_pos R j hj];exact List.getElem_mem hj)
section
variable (w:World) (n:Nat)
theorem RR (s k:Nat) (c:PW) (hc:c.2.length≤140737488351232) (hK:T1 c.2):r9 (EN w (n+5)) 79 [T6 s k c] (iN (O4 c)) ⟨[],0,0⟩:=by
 obtain ⟨z,R⟩:=c
 simp only at hc hK
 have hil:=D1 k R
 unfold O4
 simp only
 refine m6 rfl rfl (fun _ _=>rfl) (Nat.le_of_ble_eq_true rfl) (o7 w) rfl fun C hC h0=>?_
 have hrn:C.E.rounds=C7:=by rw[hC,n7]
 by_cases e1:100<R.length
 ·rw[if_pos e1]
  repeat' (first|(simp (disch:=try exact m8) only[WA,b9,d9,Nat.reduceEqDiff,Nat.reduceLT,Nat.reduceAdd,Nat.reduceBEq,Int.reduceAdd,Int.reduceSub,Int.reduceLT,Int.reduceLE,Int.reduceEq,Int.reduceNeg,↓reduceIte,reduceCtorEq,List.replicate,c79])|apply a8|((first|apply d7|apply c7|apply a9|apply d8|apply c8|apply b8)<;>intro _))
  all_goals try (exfalso;omega)
  exact i7 rfl h0 rfl
 rw[if_neg e1]
 by_cases e2:z<0
 ·rw[if_pos (Or.inl e2)]
  repeat' (first|(simp (disch:=try exact m8) only[WA,b9,d9,Nat.reduceEqDiff,Nat.reduceLT,Nat.reduceAdd,Nat.reduceBEq,Int.reduceAdd,Int.reduceSub,Int.reduceLT,Int.reduceLE,Int.reduceEq,Int.reduceNeg,↓reduceIte,reduceCtorEq,List.replicate,c79])|apply a8|((first|apply d7|apply c7|apply a9|apply d8|apply c8|apply b8)<;>intro _))
  all_goals try (exfalso;omega)
  exact i7 rfl h0 rfl
 by_cases e3:200<z
 ·rw[if_pos (Or.inr e3)]
  repeat' (first|(simp (disch:=try exact m8) only[WA,b9,d9,Nat.reduceEqDiff,Nat.reduceLT,Nat.reduceAdd,Nat.reduceBEq,Int.reduceAdd,Int.reduceSub,Int.reduceLT,Int.reduceLE,Int.reduceEq,Int.reduceNeg,↓reduceIte,reduceCtorEq,List.replicate,c79])|apply a8|((first|apply d7|apply c7|apply a9|apply d8|apply c8|apply b8)<;>intro _))
  all_goals try (exfalso;omega)
  exact i7 rfl h0 rfl
 rw[if_neg (fun h=>h.elim e2 e3)]
 repeat' (first|(simp (disch:=try exact m8) only[WA,b9,d9,Nat.reduceEqDiff,Nat.reduceLT,Nat.reduceAdd,Nat.reduceBEq,Int.reduceAdd,Int.reduceSub,Int.reduceLT,Int.reduceLE,Int.reduceEq,Int.reduceNeg,↓reduceIte,reduceCtorEq,List.replicate,c79])|apply a8|((first|apply d7|apply c7|apply a9|apply d8|apply c8|apply b8)<;>intro _))
 all_goals try (exfalso;omega)
 refine x9 (fun m fr st=>∃ (j:Nat) (y:Int),m=R.length - j∧j≤R.length∧Q8 z R=Q8 y (R.drop j)∧fr= [(1,.ptr 0 0),(3,iN y),(4,iN j)]∧st=⟨[(0,.box 24 1 [iN z,.sl s R.length (G3 k R)])],1,0⟩) R.length ?_ ⟨_,_,.refl _ _,0,z,by omega,Nat.zero_le _,rfl,rfl,rfl⟩ ?_
 ·rw[hrn];unfold C7;omega
 rintro m fr st ⟨j,y,rfl,hj,hinv,rfl,rfl⟩
 by_cases hlt:j<R.length
 case neg=>
  have:j=R.length:=by omega
  subst this
  rw[hinv,List.drop_length,Q8]
  repeat' (first|(simp (disch:=try exact m8) only[WA,b9,d9,Nat.reduceEqDiff,Nat.reduceLT,Nat.reduceAdd,Nat.reduceBEq,Int.reduceAdd,Int.reduceSub,Int.reduceLT,Int.reduceLE,Int.reduceEq,Int.reduceNeg,↓reduceIte,reduceCtorEq,List.replicate,AA])|apply a8|((first|apply d7|apply c7|apply a9|apply d8|apply c8|apply b8)<;>intro _))
  all_goals try (exfalso;omega)
  exact i7 rfl h0 rfl
 have hag:=qN k R j hlt
 have hk:=hK.at hlt
 have hu:=bJ9 w n k R[j]!.2 hk.2 hk.1
 have hm:=aW5 w n k R[j]!.2 hk.2 hk.1
 rw[fT hlt] at hinv
 have hfl:=cX k R j hlt
 unfold sO at hu
 unfold hI at hm
 generalize hr:R[j]! =r at*
 obtain ⟨b,L⟩:=r
 simp only at hu hm hfl hk
 by_cases q1:I0 L=0
 case neg=>
  rw[hinv,kC q1]
  rw[if_neg q1] at hu
  simp only
  generalize I0 L=E at*
  repeat' (first|(simp (disch:=try exact m8) only[WA,b9,d9,Nat.reduceEqDiff,Nat.reduceLT,Nat.reduceAdd,Nat.reduceBEq,Int.reduceAdd,Int.reduceSub,Int.reduceLT,Int.reduceLE,Int.reduceEq,Int.reduceNeg,↓reduceIte,reduceCtorEq,List.replicate,AA,hag,hfl])|apply a8|((first|apply d7|apply c7|apply a9|apply d8|apply c8|apply b8)<;>intro _))
  all_goals try (exfalso;omega)
  refine g9 (by rw[hC];exact hu.flat rfl rfl) ?_
  repeat' (first|(simp (disch:=try exact m8) only[WA,b9,d9,Nat.reduceEqDiff,Nat.reduceLT,Nat.reduceAdd,Nat.reduceBEq,Int.reduceAdd,Int.reduceSub,Int.reduceLT,Int.reduceLE,Int.reduceEq,Int.reduceNeg,↓reduceIte,reduceCtorEq,List.replicate,q1])|apply a8|((first|apply d7|apply c7|apply a9|apply d8|apply c8|apply b8)<;>intro _))
  exact i7 rfl h0 rfl
 rw[if_pos q1] at hu hm
 by_cases q2:E7 E3 L=y
 case neg=>
  rw[hinv,kD q1 q2]
  generalize E7 E3 L=U at*
  repeat' (first|(simp (disch:=try exact m8) only[WA,b9,d9,Nat.reduceEqDiff,Nat.reduceLT,Nat.reduceAdd,Nat.reduceBEq,Int.reduceAdd,Int.reduceSub,Int.reduceLT,Int.reduceLE,Int.reduceEq,Int.reduceNeg,↓reduceIte,reduceCtorEq,List.replicate,AA,hag,hfl])|apply a8|((first|apply d7|apply c7|apply a9|apply d8|apply c8|apply b8)<;>intro _))
  all_goals try (exfalso;omega)
  refine g9 (by rw[hC];exact hu.flat rfl rfl) ?_
  repeat' (first|(simp (disch:=try exact m8) only[WA,b9,d9,Nat.reduceEqDiff,Nat.reduceLT,Nat.reduceAdd,Nat.reduceBEq,Int.reduceAdd,Int.reduceSub,Int.reduceLT,Int.reduceLE,Int.reduceEq,Int.reduceNeg,↓reduceIte,reduceCtorEq,List.replicate,q2])|apply a8|((first|apply d7|apply c7|apply a9|apply d8|apply c8|apply b8)<;>intro _))
  exact i7 rfl h0 rfl
 rw[iL q1 q2] at hinv
 generalize E7 E3 L=U at*
 subst q2
 repeat' (first|(simp (disch:=try exact m8) only[WA,b9,d9,Nat.reduceEqDiff,Nat.reduceLT,Nat.reduceAdd,Nat.reduceBEq,Int.reduceAdd,Int.reduceSub,Int.reduceLT,Int.reduceLE,Int.reduceEq,Int.reduceNeg,↓reduceIte,reduceCtorEq,List.replicate,AA,hag,hfl])|apply a8|((first|apply d7|apply c7|apply a9|apply d8|apply c8|apply b8)<;>intro _))
 all_goals try (exfalso;omega)
 refine g9 (by rw[hC];exact hu.flat rfl rfl) ?_
 repeat' (first|(simp (disch:=try exact m8) only[WA,b9,d9,Nat.reduceEqDiff,Nat.reduceLT,Nat.reduceAdd,Nat.reduceBEq,Int.reduceAdd,Int.reduceSub,Int.reduceLT,Int.reduceLE,Int.reduceEq,Int.reduceNeg,↓reduceIte,reduceCtorEq,List.replicate,hag,hfl])|apply a8|((first|apply d7|apply c7|apply a9|apply d8|apply c8|apply b8)<;>intro _))
 refine g9 (by rw[hC];exact hm.flat rfl rfl) ?_
 repeat' (first|(simp (disch:=try exact m8) only[WA,b9,d9,Nat.reduceEqDiff,Nat.reduceLT,Nat.reduceAdd,Nat.reduceBEq,Int.reduceAdd,Int.reduceSub,Int.reduceLT,Int.reduceLE,Int.reduceEq,Int.reduceNeg,↓reduceIte,reduceCtorEq,List.replicate])|apply a8|((first|apply d7|apply c7|apply a9|apply d8|apply c8|apply b8)<;>intro _))
 exact ⟨R.length - (j+1),_,_,by omega,.refl _ _,j+1,E7 H1 L,rfl,by omega,hinv,rfl,rfl⟩
end
def G5 (x:o8):Bool:=decide (x.kind=1∨x.kind=8)
def P6 (R:List (Bool × List o8)):Bool:=R.all fun r=>r.2.all G5
def nZ (c:PW):Bool:=P6 c.2 && decide (c.1≤101)
abbrev bI8:V:= .sc (.func (.func 124) #[] #[])
theorem xT (L:List o8) (k:Nat) (hk:k<L.length):C9 (s5 L) (k*4) none=some (.sc (.int .u8 L[k]!.kind)):=bL (fun x:o8=> [.sc (.int .u8 x.kind),.sc (.bool x.purl),.sc (.int .i64 x.a),.sc (.int .i64 x.b)]) 4 L (fun _=>rfl) k 0 hk (by decide)
theorem ZQ {p:o8→Bool} {L:List o8} {k:Nat} (h:k<L.length) (h1:(L.take k).all p=true) (h2:p L[k]! =true):(L.take (k+1)).all p=true:=by
 rw[List.take_succ_eq_append_getElem h,List.all_append,h1,Bool.true_and,← getElem!_pos L k h,List.all_cons,h2]
 rfl
theorem MI {p:o8→Bool} {L:List o8} {k:Nat} (h:k<L.length) (h2:p L[k]! =false):L.all p=false:=by
 rw[← Bool.not_eq_true]
 intro ha
 have:=List.all_eq_true.1 ha L[k]! (by rw[getElem!_pos L k h];exact List.getElem_mem h)
 rw[h2] at this;cases this
section
variable (w:World) (n:Nat)
theorem cE5 (x:o8):r9 (EN w (n+1)) 124 [xU x] (.sc (.bool (!G5 x))) ⟨[],0,0⟩:=by
 obtain ⟨k,p,a,b⟩:=x
 refine m6 rfl rfl (fun _ _=>rfl) (Nat.le_of_ble_eq_true rfl) (o7 w) rfl fun C hC h0=>?_
 unfold G5
 simp only
 by_cases e1:k=1
 ·subst e1
  repeat' (first|(simp (disch:=try exact m8) only[WA,b9,d9,Nat.reduceEqDiff,Nat.reduceLT,Nat.reduceAdd,Nat.reduceBEq,Int.reduceAdd,Int.reduceSub,Int.reduceLT,Int.reduceLE,Int.reduceEq,Int.reduceNeg,↓reduceIte,reduceCtorEq,List.replicate,bE0])|apply a8|((first|apply d7|apply c7|apply a9|apply d8|apply c8|apply b8)<;>intro _))
  exact i7 rfl h0 rfl
 have f1:((k:Nat):Int) ≠ 1:=by omega
 by_cases e2:k=8
 ·subst e2
  repeat' (first|(simp (disch:=try exact m8) only[WA,b9,d9,Nat.reduceEqDiff,Nat.reduceLT,Nat.reduceAdd,Nat.reduceBEq,Int.reduceAdd,Int.reduceSub,Int.reduceLT,Int.reduceLE,Int.reduceEq,Int.reduceNeg,↓reduceIte,reduceCtorEq,List.replicate,bE0])|apply a8|((first|apply d7|apply c7|apply a9|apply d8|apply c8|apply b8)<;>intro _))
  exact i7 rfl h0 rfl
 have f2:((k:Nat):Int) ≠ 8:=by omega
 rw[decide_eq_false (fun h=>h.elim e1 e2)]
 repeat' (first|(simp (disch:=try exact m8) only[WA,b9,d9,Nat.reduceEqDiff,Nat.reduceLT,Nat.reduceAdd,Nat.reduceBEq,Int.reduceAdd,Int.reduceSub,Int.reduceLT,Int.reduceLE,Int.reduceEq,Int.reduceNeg,↓reduceIte,reduceCtorEq,List.replicate,bE0])|apply a8|((first|apply d7|apply c7|apply a9|apply d8|apply c8|apply b8)<;>intro _))
 all_goals try (exfalso;omega)
 exact i7 rfl h0 rfl
theorem MK (s:Nat) (L:List o8) (hL:L.length≤140737488351232):r9 (EN w (n+3)) 123 [tS s L,bI8] (.sc (.bool (!(L.all G5)))) ⟨[],0,0⟩:=by
 have hil:=v3 L
 have hix:∃ r:Int,(L.all G5=true→r= -1)∧(¬ L.all G5=true→0≤r)∧r9 (EN w (n+2)) 163 [tS s L,bI8] (iN r) ⟨[],0,0⟩:=by
  have main:∀ (j:Nat),j≤L.length→(L.take j).all G5=true→(j<L.length→G5 L[j]! =false)→r9 (EN w (n+2)) 163 [tS s L,bI8] (iN (if j<L.length then (j:Int) else -1)) ⟨[],0,0⟩:=by
   intro j hj hall hbad
   refine m6 rfl rfl (fun _ _=>rfl) (Nat.le_of_ble_eq_true rfl) (o7 w) rfl fun C hC h0=>?_
   repeat' (first|(simp (disch:=try exact m8) only[WA,b9,d9,Nat.reduceEqDiff,Nat.reduceLT,Nat.reduceAdd,Nat.reduceBEq,Int.reduceAdd,Int.reduceSub,Int.reduceLT,Int.reduceLE,Int.reduceEq,Int.reduceNeg,↓reduceIte,reduceCtorEq,List.replicate,bZ1])|apply a8|((first|apply d7|apply c7|apply a9|apply d8|apply c8|apply b8)<;>intro _))
   refine x9 (fun m fr st=>∃ (k:Nat),m=L.length - k∧k≤j∧fr= [(0,tS s L),(1,bI8),(7,iN L.length),(8,iN k)]∧st=⟨[],0,0⟩) L.length ?_ ⟨_,_,.refl _ _,0,by omega,Nat.zero_le _,rfl,rfl⟩ ?_
   ·rw[hC,n7];unfold C7;omega
   rintro m fr st ⟨k,rfl,hk,rfl,rfl⟩
   by_cases hlt:k<L.length
   case neg=>
    rw[if_neg (by omega)]
    repeat' (first|(simp (disch:=try exact m8) only[WA,b9,d9,Nat.reduceEqDiff,Nat.reduceLT,Nat.reduceAdd,Nat.reduceBEq,Int.reduceAdd,Int.reduceSub,Int.reduceLT,Int.reduceLE,Int.reduceEq,Int.reduceNeg,↓reduceIte,reduceCtorEq,List.replicate,fP])|apply a8|((first|apply d7|apply c7|apply a9|apply d8|apply c8|apply b8)<;>intro _))
    all_goals try (exfalso;omega)
    exact i7 rfl h0 rfl
   have hag:=P1 L k hlt
   have h1:=cE5 w n L[k]!
   by_cases hkj:k=j
   ·subst hkj
    rw[hbad hlt] at h1
    rw[if_pos hlt]
    repeat' (first|(simp (disch:=try exact m8) only[WA,b9,d9,Nat.reduceEqDiff,Nat.reduceLT,Nat.reduceAdd,Nat.reduceBEq,Int.reduceAdd,Int.reduceSub,Int.reduceLT,Int.reduceLE,Int.reduceEq,Int.reduceNeg,↓reduceIte,reduceCtorEq,List.replicate,fP,hag])|apply a8|((first|apply d7|apply c7|apply a9|apply d8|apply c8|apply b8)<;>intro _))
    all_goals try (exfalso;omega)
    refine g9 (by rw[hC];exact h1.flat rfl rfl) ?_
    repeat' (first|(simp (disch:=try exact m8) only[WA,b9,d9,Nat.reduceEqDiff,Nat.reduceLT,Nat.reduceAdd,Nat.reduceBEq,Int.reduceAdd,Int.reduceSub,Int.reduceLT,Int.reduceLE,Int.reduceEq,Int.reduceNeg,↓reduceIte,reduceCtorEq,List.replicate])|apply a8|((first|apply d7|apply c7|apply a9|apply d8|apply c8|apply b8)<;>intro _))
    exact i7 rfl h0 rfl
   ·have ho:G5 L[k]! =true:=List.all_eq_true.1 hall _ (by
     rw[getElem!_pos _ k hlt]
     exact List.mem_iff_getElem.2 ⟨k,by rw[List.length_take];omega,List.getElem_take⟩)
    rw[ho] at h1
    repeat' (first|(simp (disch:=try exact m8) only[WA,b9,d9,Nat.reduceEqDiff,Nat.reduceLT,Nat.reduceAdd,Nat.reduceBEq,Int.reduceAdd,Int.reduceSub,Int.reduceLT,Int.reduceLE,Int.reduceEq,Int.reduceNeg,↓reduceIte,reduceCtorEq,List.replicate,fP,hag])|apply a8|((first|apply d7|apply c7|apply a9|apply d8|apply c8|apply b8)<;>intro _))
    all_goals try (exfalso;omega)
    refine g9 (by rw[hC];exact h1.flat rfl rfl) ?_
    repeat' (first|(simp (disch:=try exact m8) only[WA,b9,d9,Nat.reduceEqDiff,Nat.reduceLT,Nat.reduceAdd,Nat.reduceBEq,Int.reduceAdd,Int.reduceSub,Int.reduceLT,Int.reduceLE,Int.reduceEq,Int.reduceNeg,↓reduceIte,reduceCtorEq,List.replicate])|apply a8|((first|apply d7|apply c7|apply a9|apply d8|apply c8|apply b8)<;>intro _))
    exact ⟨L.length - (k+1),_,_,by omega,.refl _ _,k+1,rfl,by omega,rfl,rfl⟩
  have hex:∀ m,m≤L.length→(L.take m).all G5=true∨∃ j,j<m∧(L.take j).all G5=true∧G5 L[j]! =false:=by
   intro m
   induction m with
   |zero=>intro _;exact .inl rfl
   |succ m ih=>
    intro hm
    rcases ih (by omega) with h|⟨j,h1,h2,h3⟩
    ·cases hc:G5 L[m]! with
     |true=>exact .inl (ZQ (by omega) h hc)
     |false=>exact .inr ⟨m,by omega,h,hc⟩
    ·exact .inr ⟨j,by omega,h2,h3⟩
  rcases hex L.length (Nat.le_refl _) with h|⟨j,h1,h2,h3⟩
  ·refine ⟨_,fun _=>?_,fun hn=>absurd (by rwa [List.take_length] at h) hn,main L.length (Nat.le_refl _) h fun h=>absurd h (Nat.lt_irrefl _)⟩
   rw[if_neg (Nat.lt_irrefl _)]
  ·refine ⟨_,fun ha=>?_,fun _=>?_,main j (by omega) h2 fun _=>h3⟩
   ·rw[MI h1 h3] at ha;cases ha
   ·rw[if_pos h1];omega
 obtain ⟨r,h1,h2,hr⟩:=hix
 by_cases ha:L.all G5=true
 ·have e:=h1 ha
  subst e
  rw[ha]
  refine m6 rfl rfl (fun _ _=>rfl) (Nat.le_of_ble_eq_true rfl) (o7 w) rfl fun C hC h0=>?_
  repeat' (first|(simp (disch:=try exact m8) only[WA,b9,d9,Nat.reduceEqDiff,Nat.reduceLT,Nat.reduceAdd,Nat.reduceBEq,Int.reduceAdd,Int.reduceSub,Int.reduceLT,Int.reduceLE,Int.reduceEq,Int.reduceNeg,↓reduceIte,reduceCtorEq,List.replicate,aF5])|apply a8|((first|apply d7|apply c7|apply a9|apply d8|apply c8|apply b8)<;>intro _))
  refine g9 (by rw[hC];exact hr.flat rfl rfl) ?_
  repeat' (first|(simp (disch:=try exact m8) only[WA,b9,d9,Nat.reduceEqDiff,Nat.reduceLT,Nat.reduceAdd,Nat.reduceBEq,Int.reduceAdd,Int.reduceSub,Int.reduceLT,Int.reduceLE,Int.reduceEq,Int.reduceNeg,↓reduceIte,reduceCtorEq,List.replicate])|apply a8|((first|apply d7|apply c7|apply a9|apply d8|apply c8|apply b8)<;>intro _))
  exact i7 rfl h0 rfl
 ·have e:=h2 ha
  rw[Bool.not_eq_true] at ha
  rw[ha]
  refine m6 rfl rfl (fun _ _=>rfl) (Nat.le_of_ble_eq_true rfl) (o7 w) rfl fun C hC h0=>?_
  repeat' (first|(simp (disch:=try exact m8) only[WA,b9,d9,Nat.reduceEqDiff,Nat.reduceLT,Nat.reduceAdd,Nat.reduceBEq,Int.reduceAdd,Int.reduceSub,Int.reduceLT,Int.reduceLE,Int.reduceEq,Int.reduceNeg,↓reduceIte,reduceCtorEq,List.replicate,aF5])|apply a8|((first|apply d7|apply c7|apply a9|apply d8|apply c8|apply b8)<;>intro _))
  refine g9 (by rw[hC];exact hr.flat rfl rfl) ?_
  repeat' (first|(simp (disch:=try exact m8) only[WA,b9,d9,Nat.reduceEqDiff,Nat.reduceLT,Nat.reduceAdd,Nat.reduceBEq,Int.reduceAdd,Int.reduceSub,Int.reduceLT,Int.reduceLE,Int.reduceEq,Int.reduceNeg,↓reduceIte,reduceCtorEq,List.replicate])|apply a8|((first|apply d7|apply c7|apply a9|apply d8|apply c8|apply b8)<;>intro _))
  all_goals try (exfalso;omega)
  exact i7 rfl h0 rfl
theorem VV {R:List (Bool × List o8)} {j:Nat} (hj:j<R.length):P6 (R.drop j)=(R[j]!.2.all G5 && P6 (R.drop (j+1))):=by
 rw[fT hj];rfl
theorem bI9 (s k:Nat) (z:Int) (R:List (Bool × List o8)) (hc:R.length≤140737488351232) (hK:T1 R):r9 (EN w (n+4)) 77 [T6 s k (z,R)] (.sc (.bool (nZ (z,R)))) ⟨[],0,0⟩:=by
 have hil:=D1 k R
 unfold nZ
 simp only
 refine m6 rfl rfl (fun _ _=>rfl) (Nat.le_of_ble_eq_true rfl) (o7 w) rfl fun C hC h0=>?_
 have hrn:C.E.rounds=C7:=by rw[hC,n7]
 repeat' (first|(simp (disch:=try exact m8) only[WA,b9,d9,Nat.reduceEqDiff,Nat.reduceLT,Nat.reduceAdd,Nat.reduceBEq,Int.reduceAdd,Int.reduceSub,Int.reduceLT,Int.reduceLE,Int.reduceEq,Int.reduceNeg,↓reduceIte,reduceCtorEq,List.replicate,c77])|apply a8|((first|apply d7|apply c7|apply a9|apply d8|apply c8|apply b8)<;>intro _))
 refine x9 (fun m fr st=>∃ (j nx:Nat),m=R.length - j∧j≤R.length∧P6 R=P6 (R.drop j)∧fr= [(1,.ptr 0 0),(6,.sl s R.length (G3 k R)),(7,iN R.length),(8,iN j)]∧st=⟨[(0,.box 24 1 [iN z,.sl s R.length (G3 k R)])],1,0⟩) R.length ?_ ⟨_,_,.refl _ _,0,1,by omega,Nat.zero_le _,rfl,rfl,rfl⟩ ?_
 ·rw[hrn];unfold C7;omega
 rintro m fr st ⟨j,nx,rfl,hj,hinv,rfl,rfl⟩
 by_cases hlt:j<R.length
 case neg=>
  have:j=R.length:=by omega
  subst this
  have hp:P6 R=true:=by rw[hinv,List.drop_length];rfl
  rw[hp,Bool.true_and]
  repeat' (first|(simp (disch:=try exact m8) only[WA,b9,d9,Nat.reduceEqDiff,Nat.reduceLT,Nat.reduceAdd,Nat.reduceBEq,Int.reduceAdd,Int.reduceSub,Int.reduceLT,Int.reduceLE,Int.reduceEq,Int.reduceNeg,↓reduceIte,reduceCtorEq,List.replicate,JH])|apply a8|((first|apply d7|apply c7|apply a9|apply d8|apply c8|apply b8)<;>intro _))
  all_goals try (exfalso;omega)
  exact i7 rfl h0 rfl
 have hag:=qN k R j hlt
 have hk:=hK.at hlt
 have hp:=MK w n k R[j]!.2 hk.2
 rw[VV hlt] at hinv
 generalize hr:R[j]! =r at*
 obtain ⟨b,L⟩:=r
 simp only at hp hk hinv
 by_cases q1:L.all G5=true
 case neg=>
  rw[Bool.not_eq_true] at q1
  rw[hinv,q1,Bool.false_and,Bool.false_and]
  rw[q1] at hp
  repeat' (first|(simp (disch:=try exact m8) only[WA,b9,d9,Nat.reduceEqDiff,Nat.reduceLT,Nat.reduceAdd,Nat.reduceBEq,Int.reduceAdd,Int.reduceSub,Int.reduceLT,Int.reduceLE,Int.reduceEq,Int.reduceNeg,↓reduceIte,reduceCtorEq,List.replicate,JH,hag])|apply a8|((first|apply d7|apply c7|apply a9|apply d8|apply c8|apply b8)<;>intro _))
  all_goals try (exfalso;omega)
  refine g9 (by rw[hC];exact hp.flat rfl rfl) ?_
  repeat' (first|(simp (disch:=try exact m8) only[WA,b9,d9,Nat.reduceEqDiff,Nat.reduceLT,Nat.reduceAdd,Nat.reduceBEq,Int.reduceAdd,Int.reduceSub,Int.reduceLT,Int.reduceLE,Int.reduceEq,Int.reduceNeg,↓reduceIte,reduceCtorEq,List.replicate])|apply a8|((first|apply d7|apply c7|apply a9|apply d8|apply c8|apply b8)<;>intro _))
  exact i7 rfl h0 rfl
 rw[q1,Bool.true_and] at hinv
 rw[q1] at hp
 repeat' (first|(simp (disch:=try exact m8) only[WA,b9,d9,Nat.reduceEqDiff,Nat.reduceLT,Nat.reduceAdd,Nat.reduceBEq,Int.reduceAdd,Int.reduceSub,Int.reduceLT,Int.reduceLE,Int.reduceEq,Int.reduceNeg,↓reduceIte,reduceCtorEq,List.replicate,JH,hag])|apply a8|((first|apply d7|apply c7|apply a9|apply d8|apply c8|apply b8)<;>intro _))
 all_goals try (exfalso;omega)
 refine g9 (by rw[hC];exact hp.flat rfl rfl) ?_
 repeat' (first|(simp (disch:=try exact m8) only[WA,b9,d9,Nat.reduceEqDiff,Nat.reduceLT,Nat.reduceAdd,Nat.reduceBEq,Int.reduceAdd,Int.reduceSub,Int.reduceLT,Int.reduceLE,Int.reduceEq,Int.reduceNeg,↓reduceIte,reduceCtorEq,List.replicate])|apply a8|((first|apply d7|apply c7|apply a9|apply d8|apply c8|apply b8)<;>intro _))
 exact ⟨R.length - (j+1),_,_,by omega,s7 [(0,0)] 1 h0 rfl rfl rfl rfl,j+1,1,rfl,by omega,hinv,rfl,rfl⟩
end
theorem aT5 {R:List (Bool × List o8)} {j:Nat} (hj:j<R.length) (h:R[j]!.2.all G5=false):P6 R=false:=by
 rw[← Bool.not_eq_true]
 intro ha
 have:=List.all_eq_true.1 ha R[j]! (by rw[getElem!_pos R j hj];exact List.getElem_mem hj)
 rw[h] at this;cases this
theorem aL1 {L:List o8} {k:Nat} (h:k<L.length):L.drop k=L[k]! ::L.drop (k+1):=by rw[List.drop_eq_getElem_cons h,getElem!_pos L k h]
def sU (x:o8):o8:=⟨x.kind,if x.kind=2∨x.kind=9 then x.purl else !x.purl,if x.kind=6∨x.kind=7 then x.b else x.a,if x.kind=6∨x.kind=7 then x.a else x.b⟩
def K5 (L:List o8):List o8:=L.reverse.map sU
def u6 (r:Bool × List o8):List o8:=if r.1=true then K5 r.2 else r.2
section
variable (w:World) (n:Nat)
theorem aX2 (s k:Nat) (z:Int) (R:List (Bool × List o8)) (hc:R.length≤140737488351232) (hK:T1 R):r9 (EN w (n+1)) 80 [T6 s k (z,R)] (.sc (.bool (nZ (z,R)))) ⟨[],0,0⟩:=by
 have hil:=D1 k R
 unfold nZ
 simp only
 refine m6 rfl rfl (fun _ _=>rfl) (Nat.le_of_ble_eq_true rfl) (o7 w) rfl fun C hC h0=>?_
 have hrn:C.E.rounds=C7:=by rw[hC,n7]
 repeat' (first|(simp (disch:=try exact m8) only[WA,b9,d9,Nat.reduceEqDiff,Nat.reduceLT,Nat.reduceAdd,Nat.reduceBEq,Int.reduceAdd,Int.reduceSub,Int.reduceLT,Int.reduceLE,Int.reduceEq,Int.reduceNeg,↓reduceIte,reduceCtorEq,List.replicate,c80])|apply a8|((first|apply d7|apply c7|apply a9|apply d8|apply c8|apply b8)<;>intro _))
 refine x9 (fun m fr st=>∃ (j:Nat),m=R.length - j∧j≤R.length∧P6 R=P6 (R.drop j)∧fr= [(1,.ptr 0 0),(3,iN j)]∧st=⟨[(0,.box 24 1 [iN z,.sl s R.length (G3 k R)])],1,0⟩) R.length ?_ ⟨_,_,.refl _ _,0,by omega,Nat.zero_le _,rfl,rfl,rfl⟩ ?_
 ·rw[hrn];unfold C7;omega
 rintro m fr st ⟨j,rfl,hj,hinv,rfl,rfl⟩
 by_cases hlt:j<R.length
 case neg=>
  have:j=R.length:=by omega
  subst this
  have hp:P6 R=true:=by rw[hinv,List.drop_length];rfl
  rw[hp,Bool.true_and]
  repeat' (first|(simp (disch:=try exact m8) only[WA,b9,d9,Nat.reduceEqDiff,Nat.reduceLT,Nat.reduceAdd,Nat.reduceBEq,Int.reduceAdd,Int.reduceSub,Int.reduceLT,Int.reduceLE,Int.reduceEq,Int.reduceNeg,↓reduceIte,reduceCtorEq,List.replicate,TL])|apply a8|((first|apply d7|apply c7|apply a9|apply d8|apply c8|apply b8)<;>intro _))
  all_goals try (exfalso;omega)
  exact i7 rfl h0 rfl
 have hag:=cX k R j hlt
 have hk:=hK.at hlt
 rw[VV hlt] at hinv
 have hbad:=@aT5 R j hlt
 generalize hr:R[j]! =r at*
 obtain ⟨b,L⟩:=r
 simp only at hk hinv hag hbad
 have hsl:=v3 L
 repeat' (first|(simp (disch:=try exact m8) only[WA,b9,d9,Nat.reduceEqDiff,Nat.reduceLT,Nat.reduceAdd,Nat.reduceBEq,Int.reduceAdd,Int.reduceSub,Int.reduceLT,Int.reduceLE,Int.reduceEq,Int.reduceNeg,↓reduceIte,reduceCtorEq,List.replicate,TL])|apply a8|((first|apply d7|apply c7|apply a9|apply d8|apply c8|apply b8)<;>intro _))
 all_goals try (exfalso;omega)
 refine x9 (fun m fr st=>∃ (i:Nat),m=L.length - i∧i≤L.length∧L.all G5=(L.drop i).all G5∧fr= [(1,.ptr 0 0),(3,iN j),(4,iN i)]∧st=⟨[(0,.box 24 1 [iN z,.sl s R.length (G3 k R)])],1,0⟩) L.length ?_ ⟨_,_,.refl _ _,0,by omega,Nat.zero_le _,rfl,rfl,rfl⟩ ?_
 ·rw[hrn];unfold C7;omega
 rintro m fr st ⟨i,rfl,hi,hiv,rfl,rfl⟩
 by_cases hil2:i<L.length
 case neg=>
  have:i=L.length:=by omega
  subst this
  have hp:L.all G5=true:=by rw[hiv,List.drop_length];rfl
  rw[hp,Bool.true_and] at hinv
  repeat' (first|(simp (disch:=try exact m8) only[WA,b9,d9,Nat.reduceEqDiff,Nat.reduceLT,Nat.reduceAdd,Nat.reduceBEq,Int.reduceAdd,Int.reduceSub,Int.reduceLT,Int.reduceLE,Int.reduceEq,Int.reduceNeg,↓reduceIte,reduceCtorEq,List.replicate,uH,hag])|apply a8|((first|apply d7|apply c7|apply a9|apply d8|apply c8|apply b8)<;>intro _))
  all_goals try (exfalso;omega)
  exact ⟨R.length - (j+1),_,_,by omega,.refl _ _,j+1,rfl,by omega,hinv,rfl,rfl⟩
 have hat:=xT L i hil2
 rw[aL1 hil2,List.all_cons] at hiv
 have hb2:=@MI G5 L i hil2
 generalize L[i]! =x at*
 obtain ⟨kd,p,a,b⟩:=x
 unfold G5 at hb2 hiv
 simp only at hat hb2 hiv
 by_cases e1:kd=1
 ·subst e1
  repeat' (first|(simp (disch:=try exact m8) only[WA,b9,d9,Nat.reduceEqDiff,Nat.reduceLT,Nat.reduceAdd,Nat.reduceBEq,Int.reduceAdd,Int.reduceSub,Int.reduceLT,Int.reduceLE,Int.reduceEq,Int.reduceNeg,↓reduceIte,reduceCtorEq,List.replicate,uH,hag,hat])|apply a8|((first|apply d7|apply c7|apply a9|apply d8|apply c8|apply b8)<;>intro _))
  all_goals try (exfalso;omega)
  exact ⟨L.length - (i+1),_,_,by omega,.refl _ _,i+1,rfl,by omega,hiv,rfl,rfl⟩
 have f1:((kd:Nat):Int) ≠ 1:=by omega
 by_cases e2:kd=8
 ·subst e2
  repeat' (first|(simp (disch:=try exact m8) only[WA,b9,d9,Nat.reduceEqDiff,Nat.reduceLT,Nat.reduceAdd,Nat.reduceBEq,Int.reduceAdd,Int.reduceSub,Int.reduceLT,Int.reduceLE,Int.reduceEq,Int.reduceNeg,↓reduceIte,reduceCtorEq,List.replicate,uH,hag,hat])|apply a8|((first|apply d7|apply c7|apply a9|apply d8|apply c8|apply b8)<;>intro _))
  all_goals try (exfalso;omega)
  exact ⟨L.length - (i+1),_,_,by omega,.refl _ _,i+1,rfl,by omega,hiv,rfl,rfl⟩
 have f2:((kd:Nat):Int) ≠ 8:=by omega
 have hpf:P6 R=false:=hbad (hb2 (decide_eq_false (fun h=>h.elim e1 e2)))
 rw[hpf,Bool.false_and]
 repeat' (first|(simp (disch:=try exact m8) only[WA,b9,d9,Nat.reduceEqDiff,Nat.reduceLT,Nat.reduceAdd,Nat.reduceBEq,Int.reduceAdd,Int.reduceSub,Int.reduceLT,Int.reduceLE,Int.reduceEq,Int.reduceNeg,↓reduceIte,reduceCtorEq,List.replicate,uH,hag,hat])|apply a8|((first|apply d7|apply c7|apply a9|apply d8|apply c8|apply b8)<;>intro _))
 all_goals try (exfalso;omega)
 exact i7 rfl h0 rfl
end
theorem jZ (nx t:Nat) (a b c d:Value):P5 nx t 4 1 [.int .u8 0,.bool false,.int .i64 0,.int .i64 0] [(0,4,.agg [.sc a,.sc b,.sc c,.sc d])]=some (.ref nx 0 1 1,some (.row t 4 false false [.sc a,.sc b,.sc c,.sc d]),[]):=(rfl)
theorem NZ {H:D5} {o t n:Nat} {z:Bool} {l:List D} (h:k8 H o=some (.gro t 4 z l)) (hl:l.length=n*4):A7 H (.gr 2 o n)=some (.sl 2 n l):=by
 simp only[A7,bA,h]
 rw[if_pos ⟨hl,by decide,by decide,by decide⟩]
 rfl
theorem SF {H:D5} {o c t:Nat} {g z:Bool} {l:List D} (h:k8 H o=some (.row t 4 g z l)):A7 H (.ref o 0 0 c)=some (.sl 0 0 []):=by
 simp only[A7,bA,h,Nat.zero_add,List.drop_zero]
 rw[if_pos (by omega)]
 rfl
theorem aY (A B:List o8):s5 (A++B)=s5 A++s5 B:=by simp[s5]
theorem DJ (A:List o8) (x:o8):s5 (A++ [x])=s5 A++ [.sc (.int .u8 x.kind),.sc (.bool x.purl),.sc (.int .i64 x.a),.sc (.int .i64 x.b)]:=by simp[s5]
theorem WU (L:List o8):M2 (s5 L)=true:=by
 simp only[M2,List.all_eq_true]
 intro d hd
 simp only[s5,List.mem_flatMap] at hd
 obtain ⟨x,_,hc⟩:=hd
 simp at hc
 rcases hc with rfl|rfl|rfl|rfl<;>rfl
theorem X3 (L:List o8):(K5 L).length=L.length:=by simp[K5]
theorem oN (L:List o8) (j:Nat) (hj:j<L.length):(L.reverse.take (j+1)).map sU=(L.reverse.take j).map sU++ [sU L[L.length - 1 - j]!]:=by
 rw[List.take_succ_eq_append_getElem (by simpa using hj),List.map_append,List.getElem_reverse,getElem!_pos L (L.length - 1 - j) (by omega)]
 rfl
theorem bF5 {C:B7} (h0:C.w0.nx=0):L4 C [(0,.sc (.slice none 0 0))] ⟨[],0,0⟩ [(0,.sl 3 0 [])] ⟨[],0,0⟩:=
 (oP (C:=C) (st:=⟨[],0,0⟩) 0 0 1 rfl).trans (bF4 (s:=2) (n:=0) (l:= []) rfl rfl (.inl (by decide)) h0 rfl)
section
variable (w:World) (n:Nat)
theorem oI (s:Nat) (L:List o8) (hL:L.length≤1000000) (hk:s=2∨s=0∨0<L.length):r9 (EN w (n+1)) 82 [tS s L] (tS 3 L) ⟨[],0,0⟩:=by
 have hil:=v3 L
 have hok:=WU L
 refine T0 rfl rfl (fun _ _=>rfl) (Nat.le_of_ble_eq_true rfl) (o7 w) CR rfl fun C hC h0=>?_
 by_cases hl:L= []
 ·subst hl
  rcases hk with rfl|rfl|h
  ·have hnl:C0 1 (tS 2 [])=some true:=rfl
   repeat' (first|(simp (disch:=try exact m8) only[WA,b9,d9,Nat.reduceEqDiff,Nat.reduceLT,Nat.reduceAdd,Nat.reduceBEq,Int.reduceAdd,Int.reduceSub,Int.reduceLT,Int.reduceLE,Int.reduceEq,Int.reduceNeg,↓reduceIte,reduceCtorEq,List.replicate,c82,P4,hnl])|apply a8|((first|apply d7|apply c7|apply a9|apply d8|apply c8|apply b8)<;>intro _))
   exact bF5 h0
  ·have hnl:C0 1 (tS 0 [])=some false:=rfl
   repeat' (first|(simp (disch:=try exact m8) only[WA,b9,d9,Nat.reduceEqDiff,Nat.reduceLT,Nat.reduceAdd,Nat.reduceBEq,Int.reduceAdd,Int.reduceSub,Int.reduceLT,Int.reduceLE,Int.reduceEq,Int.reduceNeg,↓reduceIte,reduceCtorEq,List.replicate,c82,P4,hnl])|apply a8|((first|apply d7|apply c7|apply a9|apply d8|apply c8|apply b8)<;>intro _))
   exact bF4 (SF rfl) rfl (.inl (by decide)) h0 rfl
  ·exact absurd h (by decide)
 have hne:L.length ≠ 0:=fun h=>hl (List.eq_nil_of_length_eq_zero h)
 have hnl:C0 1 (tS s L)=some false:=by
  have h3:Nat.beq L.length 0=false:=qE.2 hne
  simp only[tS,jS,C0,h3]
  cases Nat.beq s 0<;>cases Nat.beq s 2<;>rfl
 repeat' (first|(simp (disch:=try exact m8) only[WA,b9,d9,Nat.reduceEqDiff,Nat.reduceLT,Nat.reduceAdd,Nat.reduceBEq,Int.reduceAdd,Int.reduceSub,Int.reduceLT,Int.reduceLE,Int.reduceEq,Int.reduceNeg,↓reduceIte,reduceCtorEq,List.replicate,c82,P4,hnl])|apply a8|((first|apply d7|apply c7|apply a9|apply d8|apply c8|apply b8)<;>intro _))
 exact bF4 (NZ rfl hil) rfl (.inl (by decide)) h0 rfl
theorem SD (k:FloatKind) (b e:Nat) (s:St):(EN w (n+1)).pcall 82 [.complex k b e] s=(EN w (n+1)).pcall 82 [.slice (some ⟨0,0,none⟩) 0 0] s:=rfl
theorem aA5 (s:Nat) (L:List o8) (hL:L.length≤1000000) (hk:s=1∨s=2∨s=0∨0<L.length):r9 (EN w (n+1)) 82 [tS s L] (tS 3 L) ⟨[],0,0⟩:=by
 by_cases h:s=2∨s=0∨0<L.length
 ·exact oI w n s L hL h
 have hs:s=1:=by omega
 have hl:L= []:=List.eq_nil_of_length_eq_zero (by omega)
 subst hs hl
 intro st F xsI h1 h2 h3
 simp only[j6] at h3
 obtain ⟨v,vs,rfl,hv,rfl⟩:=h3
 rcases hv with ⟨a,c,e1,e2,e3,e4,_⟩|⟨_,_,_,rfl|⟨_,k,b,e,rfl⟩⟩
 ·exact oI w n 0 [] hL (.inr (.inl rfl)) st F [v] h1 h2 (by simp only[j6];exact ⟨v,[],rfl,.inl ⟨a,c,e1,e2,e3,e4,fun h=>by cases h⟩,rfl⟩)
 ·exact oI w n 2 [] hL (.inl rfl) st F [_] h1 h2 (by simp only[j6];exact ⟨_,[],rfl,.inr ⟨by decide,rfl,rfl,.inl rfl⟩,rfl⟩)
 ·rw[SD]
  exact oI w n 0 [] hL (.inr (.inl rfl)) st F [_] h1 h2 (by simp only[j6];exact ⟨_,[],rfl,.inl ⟨⟨0,0,none⟩,0,rfl,trivial,Nat.zero_le _,trivial,fun h=>by cases h⟩,rfl⟩)
theorem aQ1 (s:Nat) (L:List B1) (hL:L.length≤1000000) (hk:0<L.length):r9 (EN w (n+1)) 75 [jS s L] (jS 3 L) ⟨[],0,0⟩:=by
 have hil:=x8 L
 have hok:=GO L
 refine T0 rfl rfl (fun _ _=>rfl) (Nat.le_of_ble_eq_true rfl) (o7 w) CR rfl fun C hC h0=>?_
 have hne:L.length ≠ 0:=by omega
 have hnl:C0 1 (jS s L)=some false:=by
  have h3:Nat.beq L.length 0=false:=qE.2 hne
  simp only[tS,jS,C0,h3]
  cases Nat.beq s 0<;>cases Nat.beq s 2<;>rfl
 repeat' (first|(simp (disch:=try exact m8) only[WA,b9,d9,Nat.reduceEqDiff,Nat.reduceLT,Nat.reduceAdd,Nat.reduceBEq,Int.reduceAdd,Int.reduceSub,Int.reduceLT,Int.reduceLE,Int.reduceEq,Int.reduceNeg,↓reduceIte,reduceCtorEq,List.replicate,c75,P4,hnl])|apply a8|((first|apply d7|apply c7|apply a9|apply d8|apply c8|apply b8)<;>intro _))
 exact bF4 (OA rfl hil) rfl (.inl (by decide)) h0 rfl
end
section
variable (w:World) (n:Nat)
end
abbrev zA (z:Int) (s k:Nat) (R:List (Bool × List o8)):Itp.Obj:= .box 24 1 [iN z,.sl s R.length (G3 k R)]
abbrev dC6 (z:Int) (s k:Nat) (R:List (Bool × List o8)) (e:Int):D5:= [(2,bH 0),(1,.box 28 1 [iN e]),(0,zA z s k R)]
section
variable (w:World) (n:Nat)
theorem YE (s k:Nat) (hs:s ≠ 1) (z:Int) (R:List (Bool × List o8)):r9 (EN w (n+1)) 122 [T6 s k (z,R)] (.fn 160 [] [.ptr 0 0]) ⟨[(0,zA z s k R)],1,0⟩:=by
 refine T0 rfl rfl (fun _ _=>rfl) (Nat.le_of_ble_eq_true rfl) (o7 w) ?_ rfl fun C hC hn=>?_
 ·have hc:Cl [(0,zA z s k R)] (.sl s R.length (G3 k R)):=by
   simp only[Cl,zK,Bool.or_eq_true,Bool.not_eq_true',qE];exact .inl hs
  refine ⟨?_,fun o t e L h=>?_,fun o ob h=>?_⟩
  ·simp only[Cl,IG,and_true,true_and]
   exact ⟨_,rfl,rfl⟩
  ·rw[m9,mP] at h
   split at h
   ·cases h;exact ⟨trivial,hc,trivial⟩
   ·cases h
  ·rw[m9,mP] at h
   split at h
   ·rename_i h1;subst h1
    exact fun _=>VR.root 0 (by simp[T2,bX])
   ·cases h
 ·repeat' (first|(simp (disch:=try exact m8) only[WA,b9,d9,Nat.reduceEqDiff,Nat.reduceLT,Nat.reduceAdd,Nat.reduceBEq,Int.reduceAdd,Int.reduceSub,Int.reduceLT,Int.reduceLE,Int.reduceEq,Int.reduceNeg,↓reduceIte,reduceCtorEq,List.replicate,cI9])|apply a8|((first|apply d7|apply c7|apply a9|apply d8|apply c8|apply b8)<;>intro _))
  exact s7 [(0,0)] 1 hn rfl rfl rfl (by simp[wY,m9,RV,dC,X6])
theorem pH {E:D3} (z:Int) (s k:Nat) (R:List (Bool × List o8)) (X:Itp.Obj) (j b a e:Int) (Q2:V→n5→Prop)
  (h0:e=0→Q2 (.sc (.bool true)) ⟨[(4,.box 186 1 [iN b,iN a,iN e]),(2,bH 0),(1,.box 28 1 [iN 0]),(0,zA z s k R)],5,0⟩)
  (h1:e ≠ 0→Q2 (.sc (.bool false)) ⟨[(4,.box 186 1 [iN b,iN a,iN e]),(2,bH 2),(1,.box 28 1 [iN e]),(0,zA z s k R)],5,0⟩):
  EP E TK JG [(2,.ptr 1 0)] [19,20] 2 [iN j,.agg [iN b,iN a,iN e]] ⟨[(4,.box 186 1 [iN b,iN a,iN e]),(3,X),(2,bH 0),(1,.box 28 1 [iN 0]),(0,zA z s k R)],5,0⟩ Q2:=by
 refine ⟨Nat.zero_le _,rfl,(by show (2:Nat)<5;decide),_,rfl,fun C4 h4c h4n=>?_⟩
 repeat' (first|(simp (disch:=try exact m8) only[WA,b9,d9,Nat.reduceEqDiff,Nat.reduceLT,Nat.reduceAdd,Nat.reduceBEq,Int.reduceAdd,Int.reduceSub,Int.reduceLT,Int.reduceLE,Int.reduceEq,Int.reduceNeg,↓reduceIte,reduceCtorEq,List.replicate,TK])|apply a8|((first|apply d7|apply c7|apply a9|apply d8|apply c8|apply b8)<;>intro _))
 refine ⟨trivial,Nat.zero_le _,trivial,?_⟩
 by_cases he:e=0
 ·subst he
  repeat' (first|(simp (disch:=try exact m8) only[WA,b9,d9,Nat.reduceEqDiff,Nat.reduceLT,Nat.reduceAdd,Nat.reduceBEq,Int.reduceAdd,Int.reduceSub,Int.reduceLT,Int.reduceLE,Int.reduceEq,Int.reduceNeg,↓reduceIte,reduceCtorEq,List.replicate,JG])|apply a8|((first|apply d7|apply c7|apply a9|apply d8|apply c8|apply b8)<;>intro _))
  refine ⟨Nat.zero_le _,trivial,_,bF [(4,4),(2,2),(1,1),(0,0)] 5 (by rw[h4n];exact Nat.le_refl _) rfl (by rw[h4n];rfl) rfl rfl,?_⟩
  exact h0 rfl
 ·repeat' (first|(simp (disch:=try exact m8) only[WA,b9,d9,Nat.reduceEqDiff,Nat.reduceLT,Nat.reduceAdd,Nat.reduceBEq,Int.reduceAdd,Int.reduceSub,Int.reduceLT,Int.reduceLE,Int.reduceEq,Int.reduceNeg,↓reduceIte,reduceCtorEq,List.replicate,JG])|apply a8|((first|apply d7|apply c7|apply a9|apply d8|apply c8|apply b8)<;>intro _))
  refine ⟨Nat.zero_le _,trivial,_,bF [(4,4),(2,2),(1,1),(0,0)] 5 (by rw[h4n];exact Nat.le_refl _) rfl (by rw[h4n];rfl) rfl rfl,?_⟩
  exact h1 he
end
section
variable (w:World) (n:Nat)
theorem pG (s k:Nat) (hs:s ≠ 1) (z:Int) (R:List (Bool × List o8)) (hc:R.length≤140737488351232) (hK:T1 R):r9 (EN w (n+9)) 76 [T6 s k (z,R)] (iN (O4 (z,R))) ⟨[],0,0⟩:=by
 have hil:=D1 k R
 unfold O4
 simp only
 refine m6 rfl rfl (fun _ _=>rfl) (Nat.le_of_ble_eq_true rfl) (o7 w) rfl fun C hC h0=>?_
 by_cases e1:100<R.length
 ·rw[if_pos e1]
  repeat' (first|(simp (disch:=try exact m8) only[WA,b9,d9,Nat.reduceEqDiff,Nat.reduceLT,Nat.reduceAdd,Nat.reduceBEq,Int.reduceAdd,Int.reduceSub,Int.reduceLT,Int.reduceLE,Int.reduceEq,Int.reduceNeg,↓reduceIte,reduceCtorEq,List.replicate,c76])|apply a8|((first|apply d7|apply c7|apply a9|apply d8|apply c8|apply b8)<;>intro _))
  all_goals try (exfalso;omega)
  exact i7 rfl h0 rfl
 rw[if_neg e1]
 by_cases e2:z<0
 ·rw[if_pos (Or.inl e2)]
  repeat' (first|(simp (disch:=try exact m8) only[WA,b9,d9,Nat.reduceEqDiff,Nat.reduceLT,Nat.reduceAdd,Nat.reduceBEq,Int.reduceAdd,Int.reduceSub,Int.reduceLT,Int.reduceLE,Int.reduceEq,Int.reduceNeg,↓reduceIte,reduceCtorEq,List.replicate,c76])|apply a8|((first|apply d7|apply c7|apply a9|apply d8|apply c8|apply b8)<;>intro _))
  all_goals try (exfalso;omega)
  exact i7 rfl h0 rfl
 by_cases e3:200<z
 ·rw[if_pos (Or.inr e3)]
  repeat' (first|(simp (disch:=try exact m8) only[WA,b9,d9,Nat.reduceEqDiff,Nat.reduceLT,Nat.reduceAdd,Nat.reduceBEq,Int.reduceAdd,Int.reduceSub,Int.reduceLT,Int.reduceLE,Int.reduceEq,Int.reduceNeg,↓reduceIte,reduceCtorEq,List.replicate,c76])|apply a8|((first|apply d7|apply c7|apply a9|apply d8|apply c8|apply b8)<;>intro _))
  all_goals try (exfalso;omega)
  exact i7 rfl h0 rfl
 rw[if_neg (fun h=>h.elim e2 e3)]
 have hct:=YE w (n+7) s k hs z R
 repeat' (first|(simp (disch:=try exact m8) only[WA,b9,d9,Nat.reduceEqDiff,Nat.reduceLT,Nat.reduceAdd,Nat.reduceBEq,Int.reduceAdd,Int.reduceSub,Int.reduceLT,Int.reduceLE,Int.reduceEq,Int.reduceNeg,↓reduceIte,reduceCtorEq,List.replicate,c76])|apply a8|((first|apply d7|apply c7|apply a9|apply d8|apply c8|apply b8)<;>intro _))
 all_goals try (exfalso;omega)
 refine aD (by rw[hC];exact hct) rfl rfl rfl ?_
 repeat' (first|(simp (disch:=try exact m8) only[WA,b9,d9,Nat.reduceEqDiff,Nat.reduceLT,Nat.reduceAdd,Nat.reduceBEq,Int.reduceAdd,Int.reduceSub,Int.reduceLT,Int.reduceLE,Int.reduceEq,Int.reduceNeg,↓reduceIte,reduceCtorEq,List.replicate,qY,sX,WT,kP,R6,bG])|apply a8|((first|apply d7|apply c7|apply a9|apply d8|apply c8|apply b8)<;>intro _))
 refine aO3 (fr':= [(2,.ptr 1 0),(18,.fn 160 [] [.ptr 0 0])]) (st':=⟨[(1,.box 28 1 [iN 0]),(0,zA z s k R)],2,0⟩) (s7 [(1,1),(2,0)] 2 h0 rfl rfl rfl rfl) ?_
 refine GD hC rfl rfl rfl (Nat.le_of_ble_eq_true rfl) rfl (Nat.zero_le _) fun C2 h2n h2r h2p h2o hT=>?_
 repeat' (first|(simp (disch:=try exact m8) only[WA,b9,d9,Nat.reduceEqDiff,Nat.reduceLT,Nat.reduceAdd,Nat.reduceBEq,Int.reduceAdd,Int.reduceSub,Int.reduceLT,Int.reduceLE,Int.reduceEq,Int.reduceNeg,↓reduceIte,reduceCtorEq,List.replicate,cJ2])|apply a8|((first|apply d7|apply c7|apply a9|apply d8|apply c8|apply b8)<;>intro _))
 refine x9 (fun m fr st=>∃ (j:Nat) (y:Int),m=R.length - j∧j≤R.length∧Q8 z R=Q8 y (R.drop j)∧fr= [(0,.tok 2),(3,iN y),(12,.sl s R.length (G3 k R)),(13,iN R.length),(14,iN j)]∧st=⟨dC6 z s k R 0,3,0⟩) R.length ?_ ⟨_,_,.refl _ _,0,z,by omega,Nat.zero_le _,rfl,rfl,rfl⟩ ?_
 ·rw[h2r];unfold C7;omega
 rintro m fr st ⟨j,y,rfl,hj,hinv,rfl,rfl⟩
 by_cases hlt:j<R.length
 case neg=>
  have:j=R.length:=by omega
  subst this
  rw[hinv,List.drop_length,Q8]
  repeat' (first|(simp (disch:=try exact m8) only[WA,b9,d9,Nat.reduceEqDiff,Nat.reduceLT,Nat.reduceAdd,Nat.reduceBEq,Int.reduceAdd,Int.reduceSub,Int.reduceLT,Int.reduceLE,Int.reduceEq,Int.reduceNeg,↓reduceIte,reduceCtorEq,List.replicate,pB])|apply a8|((first|apply d7|apply c7|apply a9|apply d8|apply c8|apply b8)<;>intro _))
  all_goals try (exfalso;omega)
  refine ⟨fun i h=>(by cases h),Nat.zero_le _,0,.normal,rfl,rfl,?_⟩
  repeat' (first|(simp (disch:=try exact m8) only[WA,b9,d9,Nat.reduceEqDiff,Nat.reduceLT,Nat.reduceAdd,Nat.reduceBEq,Int.reduceAdd,Int.reduceSub,Int.reduceLT,Int.reduceLE,Int.reduceEq,Int.reduceNeg,↓reduceIte,reduceCtorEq,List.replicate])|apply a8|((first|apply d7|apply c7|apply a9|apply d8|apply c8|apply b8)<;>intro _))
  exact i7 rfl h0 rfl
 have hag:=qN k R j hlt
 have hk:=hK.at hlt
 have hu:=bL4 w n k R[j]!.2 hk.2 hk.1
 have hm:=aY3 w n k R[j]!.2 hk.2 hk.1
 rw[fT hlt] at hinv
 unfold sO at hu
 unfold hI at hm
 generalize hr:R[j]! =r at*
 obtain ⟨b,L⟩:=r
 simp only at hu hm hk
 by_cases q1:I0 L=0
 case neg=>
  rw[hinv,kC q1]
  rw[if_neg q1] at hu
  simp only
  generalize I0 L=E at*
  repeat' (first|(simp (disch:=try exact m8) only[WA,b9,d9,Nat.reduceEqDiff,Nat.reduceLT,Nat.reduceAdd,Nat.reduceBEq,Int.reduceAdd,Int.reduceSub,Int.reduceLT,Int.reduceLE,Int.reduceEq,Int.reduceNeg,↓reduceIte,reduceCtorEq,List.replicate,pB,hag])|apply a8|((first|apply d7|apply c7|apply a9|apply d8|apply c8|apply b8)<;>intro _))
  all_goals try (exfalso;omega)
  refine g9 ((hu.flat rfl rfl).env h2p h2o) ?_
  repeat' (first|(simp (disch:=try exact m8) only[WA,b9,d9,Nat.reduceEqDiff,Nat.reduceLT,Nat.reduceAdd,Nat.reduceBEq,Int.reduceAdd,Int.reduceSub,Int.reduceLT,Int.reduceLE,Int.reduceEq,Int.reduceNeg,↓reduceIte,reduceCtorEq,List.replicate,q1])|apply a8|((first|apply d7|apply c7|apply a9|apply d8|apply c8|apply b8)<;>intro _))
  refine hT _ _ _ (pH z s k R _ j y 0 E _ (fun h=>absurd h q1) fun _=>?_)
  repeat' (first|(simp (disch:=try exact m8) only[WA,b9,d9,Nat.reduceEqDiff,Nat.reduceLT,Nat.reduceAdd,Nat.reduceBEq,Int.reduceAdd,Int.reduceSub,Int.reduceLT,Int.reduceLE,Int.reduceEq,Int.reduceNeg,↓reduceIte,reduceCtorEq,List.replicate])|apply a8|((first|apply d7|apply c7|apply a9|apply d8|apply c8|apply b8)<;>intro _))
  refine ⟨fun i h=>(by cases h),Nat.zero_le _,2,.ret,rfl,rfl,?_⟩
  repeat' (first|(simp (disch:=try exact m8) only[WA,b9,d9,Nat.reduceEqDiff,Nat.reduceLT,Nat.reduceAdd,Nat.reduceBEq,Int.reduceAdd,Int.reduceSub,Int.reduceLT,Int.reduceLE,Int.reduceEq,Int.reduceNeg,↓reduceIte,reduceCtorEq,List.replicate])|apply a8|((first|apply d7|apply c7|apply a9|apply d8|apply c8|apply b8)<;>intro _))
  exact i7 rfl h0 rfl
 rw[if_pos q1] at hu hm
 by_cases q2:E7 E3 L=y
 case neg=>
  rw[hinv,kD q1 q2]
  generalize E7 E3 L=U at*
  repeat' (first|(simp (disch:=try exact m8) only[WA,b9,d9,Nat.reduceEqDiff,Nat.reduceLT,Nat.reduceAdd,Nat.reduceBEq,Int.reduceAdd,Int.reduceSub,Int.reduceLT,Int.reduceLE,Int.reduceEq,Int.reduceNeg,↓reduceIte,reduceCtorEq,List.replicate,pB,hag])|apply a8|((first|apply d7|apply c7|apply a9|apply d8|apply c8|apply b8)<;>intro _))
  all_goals try (exfalso;omega)
  refine g9 ((hu.flat rfl rfl).env h2p h2o) ?_
  repeat' (first|(simp (disch:=try exact m8) only[WA,b9,d9,Nat.reduceEqDiff,Nat.reduceLT,Nat.reduceAdd,Nat.reduceBEq,Int.reduceAdd,Int.reduceSub,Int.reduceLT,Int.reduceLE,Int.reduceEq,Int.reduceNeg,↓reduceIte,reduceCtorEq,List.replicate,q2])|apply a8|((first|apply d7|apply c7|apply a9|apply d8|apply c8|apply b8)<;>intro _))
  refine hT _ _ _ (pH z s k R _ j y 0 26 _ (fun h=>absurd h (by decide)) fun _=>?_)
  repeat' (first|(simp (disch:=try exact m8) only[WA,b9,d9,Nat.reduceEqDiff,Nat.reduceLT,Nat.reduceAdd,Nat.reduceBEq,Int.reduceAdd,Int.reduceSub,Int.reduceLT,Int.reduceLE,Int.reduceEq,Int.reduceNeg,↓reduceIte,reduceCtorEq,List.replicate])|apply a8|((first|apply d7|apply c7|apply a9|apply d8|apply c8|apply b8)<;>intro _))
  refine ⟨fun i h=>(by cases h),Nat.zero_le _,2,.ret,rfl,rfl,?_⟩
  repeat' (first|(simp (disch:=try exact m8) only[WA,b9,d9,Nat.reduceEqDiff,Nat.reduceLT,Nat.reduceAdd,Nat.reduceBEq,Int.reduceAdd,Int.reduceSub,Int.reduceLT,Int.reduceLE,Int.reduceEq,Int.reduceNeg,↓reduceIte,reduceCtorEq,List.replicate])|apply a8|((first|apply d7|apply c7|apply a9|apply d8|apply c8|apply b8)<;>intro _))
  exact i7 rfl h0 rfl
 rw[iL q1 q2] at hinv
 generalize E7 E3 L=U at*
 subst q2
 repeat' (first|(simp (disch:=try exact m8) only[WA,b9,d9,Nat.reduceEqDiff,Nat.reduceLT,Nat.reduceAdd,Nat.reduceBEq,Int.reduceAdd,Int.reduceSub,Int.reduceLT,Int.reduceLE,Int.reduceEq,Int.reduceNeg,↓reduceIte,reduceCtorEq,List.replicate,pB,hag])|apply a8|((first|apply d7|apply c7|apply a9|apply d8|apply c8|apply b8)<;>intro _))
 all_goals try (exfalso;omega)
 refine g9 ((hu.flat rfl rfl).env h2p h2o) ?_
 repeat' (first|(simp (disch:=try exact m8) only[WA,b9,d9,Nat.reduceEqDiff,Nat.reduceLT,Nat.reduceAdd,Nat.reduceBEq,Int.reduceAdd,Int.reduceSub,Int.reduceLT,Int.reduceLE,Int.reduceEq,Int.reduceNeg,↓reduceIte,reduceCtorEq,List.replicate])|apply a8|((first|apply d7|apply c7|apply a9|apply d8|apply c8|apply b8)<;>intro _))
 refine g9 ((hm.flat rfl rfl).env h2p h2o) ?_
 repeat' (first|(simp (disch:=try exact m8) only[WA,b9,d9,Nat.reduceEqDiff,Nat.reduceLT,Nat.reduceAdd,Nat.reduceBEq,Int.reduceAdd,Int.reduceSub,Int.reduceLT,Int.reduceLE,Int.reduceEq,Int.reduceNeg,↓reduceIte,reduceCtorEq,List.replicate])|apply a8|((first|apply d7|apply c7|apply a9|apply d8|apply c8|apply b8)<;>intro _))
 refine hT _ _ _ (pH z s k R _ j U (E7 H1 L) 0 _ (fun _=>?_) (fun h=>absurd rfl h))
 repeat' (first|(simp (disch:=try exact m8) only[WA,b9,d9,Nat.reduceEqDiff,Nat.reduceLT,Nat.reduceAdd,Nat.reduceBEq,Int.reduceAdd,Int.reduceSub,Int.reduceLT,Int.reduceLE,Int.reduceEq,Int.reduceNeg,↓reduceIte,reduceCtorEq,List.replicate])|apply a8|((first|apply d7|apply c7|apply a9|apply d8|apply c8|apply b8)<;>intro _))
 exact ⟨R.length - (j+1),_,_,by omega,bF [(2,2),(1,1),(0,0)] 3 (by rw[h2n];exact Nat.le_refl _) rfl (by rw[h2n];rfl) rfl rfl,j+1,E7 H1 L,rfl,by omega,hinv,rfl,rfl⟩
end
theorem dO (nx t e b n c o k m:Nat) (base:Src) (new:List D) (fz:List Nat) (hm:m ≠ 0) (hc:n+m≤c):dN nx t e b n c o k base (some (m,new,fz))=none:=by
 have h:Nat.blt c (n+m)=false:=by rw[← Bool.not_eq_true,Nat.blt_eq];omega
 simp only[dN,h,Bool.and_false,Bool.false_and,Bool.false_eq_true,if_false]
 rw[if_neg (by rw[j7];exact hm)]
 split<;>rfl
theorem dP (H:D5) (nx ro t e b o k n c t' e' m:Nat) (g:Bool) (l new:List D) (hro:ro≤o) (he:e ≠ 0) (hm:m ≠ 0) (hok:M2 new=true) (hle:n+m≤c) (hc:c≤1099511627776) (h2:(n+m)*b≤1099511627776) (hl:k+n*e+new.length≤l.length):
  Y6 ⟨H,nx,ro⟩ t e b o k n c (some (.row t' e' g false l)) (some (m,new,[]))=some (.ref o k (n+m) c,⟨B8 H o (.row t' e' g false (l.take (k+n*e)++new++l.drop (k+n*e+new.length))),nx,ro⟩):=by
 simp only[Y6,hok]
 have hb:Nat.ble ro o=true:=by rw[Nat.ble_eq];exact hro
 have h3:Nat.ble (n+m) r7=true:=by rw[Nat.ble_eq];unfold r7;omega
 have h4:Nat.ble ((n+m)*b) r7=true:=by rw[Nat.ble_eq];exact h2
 have h5:Nat.blt c t8=true:=by rw[Nat.blt_eq];unfold t8;omega
 have h6:Nat.ble (n+m) c=true:=by rw[Nat.ble_eq];exact hle
 rw[if_pos (by simp[qE.2 he,A4]),if_neg (by simp[hb,h3,h4,qE.2 hm]),if_pos h5,if_pos (by rw[h6];simp[n4])]
 rw[aU _ _ _ hl,r8]
 rfl
def iS:o8:=⟨0,false,0,0⟩
abbrev z4:List Value:= [.int .u8 0,.bool false,.int .i64 0,.int .i64 0]
theorem aW3 (m:Nat):oS (rep z4 m)=s5 (List.replicate m iS):=by
 induction m with
 |zero=>rfl
 |succ m ih=>
  have e1:oS (rep z4 (m+1))=oS z4++oS (rep z4 m):=by simp[rep,oS]
  rw[e1,ih,List.replicate_succ]
  simp[s5,oS,iS]
theorem CO (m:Nat):(rep z4 m).all C3=true:=by
 induction m with
 |zero=>rfl
 |succ m ih=>
  have e:rep z4 (m+1)=z4++rep z4 m:=rfl
  rw[e,List.all_append,ih];rfl
theorem nS (nx t c:Nat) (hc:c≤1000000):aR nx t 4 24 z4 (.sc (.int .i64 0)) (.sc (.int .i64 c))=some (.ref nx 0 0 c,some (.row t 4 false false (s5 (List.replicate c iS))),[]):=by
 simp only[aR]
 rw[if_pos ⟨by omega,by omega,by unfold r7;omega,by unfold r7;omega,by rw[Int.toNat_natCast];exact CO c⟩,Int.toNat_natCast,aW3]
 rfl
theorem zH (nx t c:Nat) (hc:c≤1000000):aR nx t 4 24 z4 (.sc (.int .i64 c)) (.sc (.int .i64 c))=some (.ref nx 0 c c,some (.row t 4 false false (s5 (List.replicate c iS))),[]):=by
 simp only[aR]
 rw[if_pos ⟨by omega,by omega,by unfold r7;omega,by unfold r7;omega,by rw[Int.toNat_natCast];exact CO c⟩,Int.toNat_natCast,aW3]
theorem aS7 {x:o8} (h:W4 x):sU x=⟨x.kind,fS x.kind && !x.purl,if 0<YQ x.kind then x.b else x.a,if 0<YQ x.kind then x.a else x.b⟩:=by
 have hb:=h.bounds
 obtain ⟨k,p,a,b⟩:=x
 simp only at hb
 have hf:=(DK (x:=⟨k,p,a,b⟩) hb.1 hb.2.1).1 h
 simp only at hf
 unfold sU
 simp only
 rcases (by omega:k=1∨k=2∨k=3∨k=4∨k=5∨k=6∨k=7∨k=8∨k=9∨k=10) with rfl|rfl|rfl|rfl|rfl|rfl|rfl|rfl|rfl|rfl
 all_goals
  cases p<;>simp[fS,YQ] at hf ⊢
theorem YR (k:Nat):YQ k=0∨YQ k=6:=by
 unfold YQ
 split
 ·exact .inr rfl
 ·exact .inr rfl
 ·exact .inl rfl
abbrev bL9 (s:Nat) (L:List o8) (A:List D) (j c:Nat):D5:= [(3,bH 0),(2,.box 76 1 [tS s L]),(1,.box 76 1 [.ref 0 0 j c]),(0,.row 82 4 false false A)]
section
variable (w:World) (n:Nat)
theorem aE3 {C:B7} {Q:V→n5→Prop} (hC:C.E=EN w (n+1)) (s:Nat) (L:List o8) (H:D5) (nx:Nat) (hq:Q (.fn 169 [] [.ptr nx 0]) ⟨(nx,.box 76 1 [tS s L])::H,nx+1,0⟩):cF C 128 [tS s L] ⟨H,nx,0⟩ Q:=by
 refine FC hC rfl rfl (fun _ _=>rfl) (Nat.le_of_ble_eq_true rfl) hq fun C' hC' hn=>?_
 repeat' (first|(simp (disch:=try exact m8) only[WA,b9,d9,Nat.reduceEqDiff,Nat.reduceLT,Nat.reduceAdd,Nat.reduceBEq,Int.reduceAdd,Int.reduceSub,Int.reduceLT,Int.reduceLE,Int.reduceEq,Int.reduceNeg,↓reduceIte,reduceCtorEq,List.replicate,cJ0,K3])|apply a8|((first|apply d7|apply c7|apply a9|apply d8|apply c8|apply b8)<;>intro _))
 exact .refl _ _
theorem DQ {E:D3} (hE:E=EN w (n+2)) (s:Nat) (L:List o8) (A:List D) (j c:Nat) (i:Int) (x:o8) (hx:W4 x) (hA:A.length=c*4) (hj:j<c) (hc:c≤1000000) (v1 v2:V) (Q2:V→n5→Prop)
  (hgo:Q2 (.sc (.bool true)) ⟨bL9 s L (A.take (j*4)++ [.sc (.int .u8 (sU x).kind),.sc (.bool (sU x).purl),.sc (.int .i64 (sU x).a),.sc (.int .i64 (sU x).b)]++A.drop (j*4+4)) (j+1) c,4,0⟩):
  EP E TM TN [(2,v1),(3,v2),(5,.ptr 1 0)] [20,21] 3 [iN i,xU x] ⟨bL9 s L A j c,4,0⟩ Q2:=by
 refine ⟨Nat.zero_le _,rfl,(by show (3:Nat)<4;decide),_,rfl,fun C4 h4c h4n=>?_⟩
 have hb:=hx.bounds
 rw[aS7 hx] at hgo
 have hfm:=FY w (n+1) x.kind hb.1 hb.2.1
 obtain ⟨k,p,a,b⟩:=x
 simp only at hb hfm hgo
 unfold Y1 at hfm
 simp only[List.map_cons,List.map_nil] at hfm
 generalize fS k=fs at*
 generalize fL k=fl at*
 have hb1:=YR k
 generalize YQ k=fb at*
 repeat' (first|(simp (disch:=try exact m8) only[WA,b9,d9,Nat.reduceEqDiff,Nat.reduceLT,Nat.reduceAdd,Nat.reduceBEq,Int.reduceAdd,Int.reduceSub,Int.reduceLT,Int.reduceLE,Int.reduceEq,Int.reduceNeg,↓reduceIte,reduceCtorEq,List.replicate,TM])|apply a8|((first|apply d7|apply c7|apply a9|apply d8|apply c8|apply b8)<;>intro _))
 refine ⟨trivial,Nat.zero_le _,trivial,?_⟩
 repeat' (first|(simp (disch:=try exact m8) only[WA,b9,d9,Nat.reduceEqDiff,Nat.reduceLT,Nat.reduceAdd,Nat.reduceBEq,Int.reduceAdd,Int.reduceSub,Int.reduceLT,Int.reduceLE,Int.reduceEq,Int.reduceNeg,↓reduceIte,reduceCtorEq,List.replicate,TN])|apply a8|((first|apply d7|apply c7|apply a9|apply d8|apply c8|apply b8)<;>intro _))
 refine g9 (by rw[h4c,hE];exact hfm.flat rfl rfl) ?_
 rcases hb1 with rfl|rfl<;>cases fs
 ·repeat' (first|(simp (disch:=try exact m8) only[WA,b9,d9,Nat.reduceEqDiff,Nat.reduceLT,Nat.reduceAdd,Nat.reduceBEq,Int.reduceAdd,Int.reduceSub,Int.reduceLT,Int.reduceLE,Int.reduceEq,Int.reduceNeg,↓reduceIte,reduceCtorEq,List.replicate,jZ,dO,dP,Nat.zero_add,tn1,gt_iff_lt,Int.lt_irrefl,decide_false])|apply a8|((first|apply d7|apply c7|apply a9|apply d8|apply c8|apply b8)<;>intro _))
  all_goals try (exfalso;omega)
  refine ⟨Nat.zero_le _,trivial,_,bF [(3,3),(2,2),(1,1),(0,0)] 4 (by rw[h4n];exact Nat.le_refl _) rfl (by rw[h4n];rfl) rfl rfl,?_⟩
  exact hgo
 ·repeat' (first|(simp (disch:=try exact m8) only[WA,b9,d9,Nat.reduceEqDiff,Nat.reduceLT,Nat.reduceAdd,Nat.reduceBEq,Int.reduceAdd,Int.reduceSub,Int.reduceLT,Int.reduceLE,Int.reduceEq,Int.reduceNeg,↓reduceIte,reduceCtorEq,List.replicate,jZ,dO,dP,Nat.zero_add,tn1,gt_iff_lt,Int.lt_irrefl,decide_false])|apply a8|((first|apply d7|apply c7|apply a9|apply d8|apply c8|apply b8)<;>intro _))
  all_goals try (exfalso;omega)
  refine ⟨Nat.zero_le _,trivial,_,bF [(3,3),(2,2),(1,1),(0,0)] 4 (by rw[h4n];exact Nat.le_refl _) rfl (by rw[h4n];rfl) rfl rfl,?_⟩
  exact hgo
 ·repeat' (first|(simp (disch:=try exact m8) only[WA,b9,d9,Nat.reduceEqDiff,Nat.reduceLT,Nat.reduceAdd,Nat.reduceBEq,Int.reduceAdd,Int.reduceSub,Int.reduceLT,Int.reduceLE,Int.reduceEq,Int.reduceNeg,↓reduceIte,reduceCtorEq,List.replicate,jZ,dO,dP,Nat.zero_add,tn1,gt_iff_lt,Int.lt_irrefl,decide_false])|apply a8|((first|apply d7|apply c7|apply a9|apply d8|apply c8|apply b8)<;>intro _))
  all_goals try (exfalso;omega)
  refine ⟨Nat.zero_le _,trivial,_,bF [(3,3),(2,2),(1,1),(0,0)] 4 (by rw[h4n];exact Nat.le_refl _) rfl (by rw[h4n];rfl) rfl rfl,?_⟩
  exact hgo
 ·repeat' (first|(simp (disch:=try exact m8) only[WA,b9,d9,Nat.reduceEqDiff,Nat.reduceLT,Nat.reduceAdd,Nat.reduceBEq,Int.reduceAdd,Int.reduceSub,Int.reduceLT,Int.reduceLE,Int.reduceEq,Int.reduceNeg,↓reduceIte,reduceCtorEq,List.replicate,jZ,dO,dP,Nat.zero_add,tn1,gt_iff_lt,Int.lt_irrefl,decide_false])|apply a8|((first|apply d7|apply c7|apply a9|apply d8|apply c8|apply b8)<;>intro _))
  all_goals try (exfalso;omega)
  refine ⟨Nat.zero_le _,trivial,_,bF [(3,3),(2,2),(1,1),(0,0)] 4 (by rw[h4n];exact Nat.le_refl _) rfl (by rw[h4n];rfl) rfl rfl,?_⟩
  exact hgo
end
theorem DB {H:D5} {o c t n:Nat} {g z:Bool} {l:List D} (h:k8 H o=some (.row t 4 g z l)) (hl:l.length=n*4):A7 H (.ref o 0 n c)=some (.sl 0 n l):=by
 simp only[A7,bA,h,Nat.zero_add,List.drop_zero]
 rw[if_pos (by omega)]
 show some (V.sl 0 n (l.take (n*4)))=_
 rw[List.take_of_length_le (by omega)]
theorem OU (A:List o8) (y:o8) (c:Nat) (h:A.length<c):
  (s5 (A++List.replicate (c - A.length) iS)).take (A.length*4)++ [.sc (.int .u8 y.kind),.sc (.bool y.purl),.sc (.int .i64 y.a),.sc (.int .i64 y.b)]++(s5 (A++List.replicate (c - A.length) iS)).drop (A.length*4+4)=s5 ((A++ [y])++List.replicate (c - (A.length+1)) iS):=by
 have e:c - A.length=(c - (A.length+1))+1:=by omega
 rw[e,List.replicate_succ,aY,List.take_left' (v3 A),← List.drop_drop,List.drop_left' (v3 A),aY,DJ]
 rfl
def aZ5 (L:List o8):List o8 × Int:=if I0 L=0 then (K5 L,0) else ([],I0 L)
abbrev sfV (p:List o8 × Int):V:= .tup [tS 3 p.1,iN p.2]
section
variable (w:World) (n:Nat)
theorem cF2 (s:Nat) (L:List o8) (hL:L.length≤140737488351232) (hK:zQ L):r9 (EN w (n+7)) 81 [tS s L] (sfV (aZ5 L)) ⟨[],0,0⟩:=by
 have ha:=HM w n s L hL hK
 unfold aZ5
 refine T0 rfl rfl (fun _ _=>rfl) (Nat.le_of_ble_eq_true rfl) (o7 w) qI rfl fun C hC h0=>?_
 by_cases e:I0 L=0
 case neg=>
  rw[if_neg e]
  generalize I0 L=E at*
  repeat' (first|(simp (disch:=try exact m8) only[WA,b9,d9,Nat.reduceEqDiff,Nat.reduceLT,Nat.reduceAdd,Nat.reduceBEq,Int.reduceAdd,Int.reduceSub,Int.reduceLT,Int.reduceLE,Int.reduceEq,Int.reduceNeg,↓reduceIte,reduceCtorEq,List.replicate,c81])|apply a8|((first|apply d7|apply c7|apply a9|apply d8|apply c8|apply b8)<;>intro _))
  refine g9 (by rw[hC];exact ha.flat rfl rfl) ?_
  repeat' (first|(simp (disch:=try exact m8) only[WA,b9,d9,Nat.reduceEqDiff,Nat.reduceLT,Nat.reduceAdd,Nat.reduceBEq,Int.reduceAdd,Int.reduceSub,Int.reduceLT,Int.reduceLE,Int.reduceEq,Int.reduceNeg,↓reduceIte,reduceCtorEq,List.replicate,e])|apply a8|((first|apply d7|apply c7|apply a9|apply d8|apply c8|apply b8)<;>intro _))
  exact bY h0 rfl
 rw[if_pos e]
 rw[e] at ha
 obtain ⟨l1,l2,_⟩:=Y5 e
 have hmk:=fun nx t=>nS nx t L.length (by omega)
 have hil:=v3 L
 repeat' (first|(simp (disch:=try exact m8) only[WA,b9,d9,Nat.reduceEqDiff,Nat.reduceLT,Nat.reduceAdd,Nat.reduceBEq,Int.reduceAdd,Int.reduceSub,Int.reduceLT,Int.reduceLE,Int.reduceEq,Int.reduceNeg,↓reduceIte,reduceCtorEq,List.replicate,c81])|apply a8|((first|apply d7|apply c7|apply a9|apply d8|apply c8|apply b8)<;>intro _))
 refine g9 (by rw[hC];exact ha.flat rfl rfl) ?_
 repeat' (first|(simp (disch:=try exact m8) only[WA,b9,d9,Nat.reduceEqDiff,Nat.reduceLT,Nat.reduceAdd,Nat.reduceBEq,Int.reduceAdd,Int.reduceSub,Int.reduceLT,Int.reduceLE,Int.reduceEq,Int.reduceNeg,↓reduceIte,reduceCtorEq,List.replicate,hmk])|apply a8|((first|apply d7|apply c7|apply a9|apply d8|apply c8|apply b8)<;>intro _))
 refine aE3 w (n+5) hC s L _ _ ?_
 repeat' (first|(simp (disch:=try exact m8) only[WA,b9,d9,Nat.reduceEqDiff,Nat.reduceLT,Nat.reduceAdd,Nat.reduceBEq,Int.reduceAdd,Int.reduceSub,Int.reduceLT,Int.reduceLE,Int.reduceEq,Int.reduceNeg,↓reduceIte,reduceCtorEq,List.replicate])|apply a8|((first|apply d7|apply c7|apply a9|apply d8|apply c8|apply b8)<;>intro _))
 refine GD hC rfl rfl rfl (Nat.le_of_ble_eq_true rfl) rfl (Nat.zero_le _) fun C2 h2n h2r h2p h2o hT=>?_
 repeat' (first|(simp (disch:=try exact m8) only[WA,b9,d9,Nat.reduceEqDiff,Nat.reduceLT,Nat.reduceAdd,Nat.reduceBEq,Int.reduceAdd,Int.reduceSub,Int.reduceLT,Int.reduceLE,Int.reduceEq,Int.reduceNeg,↓reduceIte,reduceCtorEq,List.replicate,bZ5])|apply a8|((first|apply d7|apply c7|apply a9|apply d8|apply c8|apply b8)<;>intro _))
 refine x9 (fun m fr st=>∃ (j:Nat),m=L.length - j∧j≤L.length∧fr= [(0,.tok 3),(1,.ptr 2 0),(3,iN ((L.length:Int) - 1 - j))]∧st=⟨bL9 s L (s5 ((L.reverse.take j).map sU++List.replicate (L.length - j) iS)) j L.length,4,0⟩) L.length ?_ ⟨_,_,.refl _ _,0,by omega,Nat.zero_le _,?_,rfl⟩ ?_
 ·rw[h2r];unfold C7;omega
 ·simp
 rintro m fr st ⟨j,rfl,hj,rfl,rfl⟩
 by_cases hlt:j<L.length
 case neg=>
  have:j=L.length:=by omega
  subst this
  have e:(L.reverse.take L.length).map sU=K5 L:=by unfold K5;rw[List.take_of_length_le (by simp)]
  rw[e,Nat.sub_self,List.replicate_zero,List.append_nil]
  have hl:=v3 (K5 L)
  rw[X3] at hl
  have hl':=X3 L
  generalize K5 L=T at*
  repeat' (first|(simp (disch:=try exact m8) only[WA,b9,d9,Nat.reduceEqDiff,Nat.reduceLT,Nat.reduceAdd,Nat.reduceBEq,Int.reduceAdd,Int.reduceSub,Int.reduceLT,Int.reduceLE,Int.reduceEq,Int.reduceNeg,↓reduceIte,reduceCtorEq,List.replicate,pD])|apply a8|((first|apply d7|apply c7|apply a9|apply d8|apply c8|apply b8)<;>intro _))
  all_goals try (exfalso;omega)
  refine ⟨fun i h=>(by cases h),Nat.zero_le _,0,.normal,rfl,rfl,?_⟩
  repeat' (first|(simp (disch:=try exact m8) only[WA,b9,d9,Nat.reduceEqDiff,Nat.reduceLT,Nat.reduceAdd,Nat.reduceBEq,Int.reduceAdd,Int.reduceSub,Int.reduceLT,Int.reduceLE,Int.reduceEq,Int.reduceNeg,↓reduceIte,reduceCtorEq,List.replicate])|apply a8|((first|apply d7|apply c7|apply a9|apply d8|apply c8|apply b8)<;>intro _))
  show L4 _ _ _ [(0,.tup [.sl 3 T.length (s5 T),iN 0])] _
  rw[hl']
  exact yR (DB rfl hl) rfl (.inl (by decide)) h0 rfl
 have hst:=oN L j hlt
 have hag:=P1 L (L.length - 1 - j) (by omega)
 have hdl:((L.reverse.take j).map sU).length=j:=by rw[List.length_map,List.length_take,List.length_reverse];omega
 have hix:((L.length:Int) - 1 - j)=((L.length - 1 - j:Nat):Int):=by omega
 have hin:((L.length:Int) - 1 - ((j+1:Nat):Int))=((L.length - 1 - j:Nat):Int) - 1:=by omega
 have hx:W4 L[L.length - 1 - j]! :=I3.1 (List.all_eq_true.1 l2 _ (by rw[getElem!_pos L _ (by omega)];exact List.getElem_mem _))
 have hrm:=OU ((L.reverse.take j).map sU) (sU L[L.length - 1 - j]!) L.length (by omega)
 rw[← hst,hdl] at hrm
 have hAl:(s5 ((L.reverse.take j).map sU++List.replicate (L.length - j) iS)).length=L.length*4:=by rw[v3,List.length_append,hdl,List.length_replicate];congr 1;omega
 have hrd:=DQ w (n+4) (E:=C.E) hC s L (s5 ((L.reverse.take j).map sU++List.replicate (L.length - j) iS)) j L.length ((L.length - 1 - j:Nat):Int) L[L.length - 1 - j]! hx hAl hlt (by omega) (.sc (.slice none 0 0)) (iN 0)
 rw[hrm] at hrd
 rw[hix]
 have hi1:L.length - 1 - j<L.length:=by omega
 generalize L[L.length - 1 - j]! =x at*
 generalize hii:L.length - 1 - j=i at*
 repeat' (first|(simp (disch:=try exact m8) only[WA,b9,d9,Nat.reduceEqDiff,Nat.reduceLT,Nat.reduceAdd,Nat.reduceBEq,Int.reduceAdd,Int.reduceSub,Int.reduceLT,Int.reduceLE,Int.reduceEq,Int.reduceNeg,↓reduceIte,reduceCtorEq,List.replicate,pD,hag])|apply a8|((first|apply d7|apply c7|apply a9|apply d8|apply c8|apply b8)<;>intro _))
 all_goals try (exfalso;omega)
 refine hT _ _ _ (hrd _ ?_)
 repeat' (first|(simp (disch:=try exact m8) only[WA,b9,d9,Nat.reduceEqDiff,Nat.reduceLT,Nat.reduceAdd,Nat.reduceBEq,Int.reduceAdd,Int.reduceSub,Int.reduceLT,Int.reduceLE,Int.reduceEq,Int.reduceNeg,↓reduceIte,reduceCtorEq,List.replicate])|apply a8|((first|apply d7|apply c7|apply a9|apply d8|apply c8|apply b8)<;>intro _))
 exact ⟨L.length - (j+1),_,_,by omega,.refl _ _,j+1,rfl,by omega,by rw[hin],rfl⟩
end
theorem CU:∀ {R:List (Bool × List o8)} {z:Int},Q8 z R=0→∀ r ∈ R,I0 r.2=0
 | [],_,_,r,h=>by cases h
 |q::R,z,h,r,hr=>by
  by_cases h1:I0 q.2=0
  case neg=>rw[kC h1] at h;exact absurd h h1
  by_cases h2:E7 E3 q.2=z
  case neg=>rw[kD h1 h2] at h;cases h
  rw[iL h1 h2] at h
  rcases List.mem_cons.1 hr with rfl|h3
  ·exact h1
  ·exact CU h r h3
theorem L6 {c:PW} (h:O4 c=0):c.2.length≤100∧0≤c.1∧c.1≤200∧Q8 c.1 c.2=0:=by
 unfold O4 at h
 by_cases h1:100<c.2.length
 ·rw[if_pos h1] at h;cases h
 rw[if_neg h1] at h
 by_cases h2:c.1<0∨200<c.1
 ·rw[if_pos h2] at h;cases h
 rw[if_neg h2] at h
 exact ⟨by omega,by omega,by omega,h⟩
theorem uL {c:PW} (h:O4 c=0) {i:Nat} (hi:i<c.2.length):I0 c.2[i]!.2=0:=CU (L6 h).2.2.2 _ (by rw[getElem!_pos c.2 i hi];exact List.getElem_mem hi)
section
variable (w:World) (n:Nat)
theorem RC (s k:Nat) (hs:s ≠ 1) (z:Int) (R:List (Bool × List o8)) (hK:T1 R) (i:Nat) (hi:i<R.length) (hkk:k=1∨k=2∨k=0∨0<R[i]!.2.length) (hck:O4 (z,R)=0):r9 (EN w (n+10)) 32 [T6 s k (z,R),iN i] (sfV (u6 R[i]!,0)) ⟨[],0,0⟩:=by
 have hil:=D1 k R
 have hR:=(L6 hck).1
 simp only at hR
 have hcp:=pG w n s k hs z R (by omega) hK
 rw[hck] at hcp
 have h0r:=uL hck hi
 simp only at h0r
 obtain ⟨l1,l2,_⟩:=Y5 h0r
 have hkr:=hK.at hi
 have a0:=qO k R i hi
 have a1:=cX k R i hi
 generalize R[i]! =r at*
 obtain ⟨b,L⟩:=r
 simp only at*
 have ht:=cF2 w (n+2) k L hkr.2 hkr.1
 have hcl:=aA5 w (n+8) k L (by omega) hkk
 unfold aZ5 at ht
 rw[if_pos h0r] at ht
 refine T0 rfl rfl (fun _ _=>rfl) (Nat.le_of_ble_eq_true rfl) (o7 w) qI rfl fun C hC h0=>?_
 unfold u6
 cases b with
 |true=>
  rw[if_pos rfl]
  simp only
  repeat' (first|(simp (disch:=try exact m8) only[WA,b9,d9,Nat.reduceEqDiff,Nat.reduceLT,Nat.reduceAdd,Nat.reduceBEq,Int.reduceAdd,Int.reduceSub,Int.reduceLT,Int.reduceLE,Int.reduceEq,Int.reduceNeg,↓reduceIte,reduceCtorEq,List.replicate,c32,a0,a1])|apply a8|((first|apply d7|apply c7|apply a9|apply d8|apply c8|apply b8)<;>intro _))
  refine g9 (by rw[hC];exact hcp.flat rfl rfl) ?_
  repeat' (first|(simp (disch:=try exact m8) only[WA,b9,d9,Nat.reduceEqDiff,Nat.reduceLT,Nat.reduceAdd,Nat.reduceBEq,Int.reduceAdd,Int.reduceSub,Int.reduceLT,Int.reduceLE,Int.reduceEq,Int.reduceNeg,↓reduceIte,reduceCtorEq,List.replicate,a0,a1])|apply a8|((first|apply d7|apply c7|apply a9|apply d8|apply c8|apply b8)<;>intro _))
  all_goals try (exfalso;omega)
  refine D9 (by rw[hC];exact ht) rfl rfl (fun _=>rfl) ?_
  repeat' (first|(simp (disch:=try exact m8) only[WA,b9,d9,Nat.reduceEqDiff,Nat.reduceLT,Nat.reduceAdd,Nat.reduceBEq,Int.reduceAdd,Int.reduceSub,Int.reduceLT,Int.reduceLE,Int.reduceEq,Int.reduceNeg,↓reduceIte,reduceCtorEq,List.replicate])|apply a8|((first|apply d7|apply c7|apply a9|apply d8|apply c8|apply b8)<;>intro _))
  exact s7 [] 0 h0 rfl rfl rfl rfl
 |false=>
  rw[if_neg (fun h=>by cases h)]
  simp only
  repeat' (first|(simp (disch:=try exact m8) only[WA,b9,d9,Nat.reduceEqDiff,Nat.reduceLT,Nat.reduceAdd,Nat.reduceBEq,Int.reduceAdd,Int.reduceSub,Int.reduceLT,Int.reduceLE,Int.reduceEq,Int.reduceNeg,↓reduceIte,reduceCtorEq,List.replicate,c32,a0,a1])|apply a8|((first|apply d7|apply c7|apply a9|apply d8|apply c8|apply b8)<;>intro _))
  refine g9 (by rw[hC];exact hcp.flat rfl rfl) ?_
  repeat' (first|(simp (disch:=try exact m8) only[WA,b9,d9,Nat.reduceEqDiff,Nat.reduceLT,Nat.reduceAdd,Nat.reduceBEq,Int.reduceAdd,Int.reduceSub,Int.reduceLT,Int.reduceLE,Int.reduceEq,Int.reduceNeg,↓reduceIte,reduceCtorEq,List.replicate,a0,a1])|apply a8|((first|apply d7|apply c7|apply a9|apply d8|apply c8|apply b8)<;>intro _))
  all_goals try (exfalso;omega)
  refine D9 (by rw[hC];exact hcl) rfl rfl (fun _=>rfl) ?_
  repeat' (first|(simp (disch:=try exact m8) only[WA,b9,d9,Nat.reduceEqDiff,Nat.reduceLT,Nat.reduceAdd,Nat.reduceBEq,Int.reduceAdd,Int.reduceSub,Int.reduceLT,Int.reduceLE,Int.reduceEq,Int.reduceNeg,↓reduceIte,reduceCtorEq,List.replicate])|apply a8|((first|apply d7|apply c7|apply a9|apply d8|apply c8|apply b8)<;>intro _))
  exact s7 [] 0 h0 rfl rfl rfl rfl
end
theorem ZD (M:List B1) (k:Nat) (hk:k≤M.length):(B9 M).take (k*7)=B9 (M.take k):=by
 have h:B9 M=B9 (M.take k)++B9 (M.drop k):=by rw[← aP,List.take_append_drop]
 rw[h,List.take_left' (by rw[x8,List.length_take];congr 1;omega)]
theorem ZC (M:List B1) (k:Nat) (hk:k≤M.length):(B9 M).drop (k*7)=B9 (M.drop k):=by
 have h:B9 M=B9 (M.take k)++B9 (M.drop k):=by rw[← aP,List.take_append_drop]
 rw[h,List.drop_left' (by rw[x8,List.length_take];congr 1;omega)]
theorem LP (M:List B1) (k:Nat) (x:B1) (hk:k<M.length):(B9 M).take (k*7)++ [.sc (.int .u8 x.op),.sc (.bool x.right),.sc (.int .u8 x.bed),.sc (.int .i64 x.pos),.sc (.int .i64 x.to),.sc (.int .i64 x.car),.sc (.int .i64 x.rack)]++(B9 M).drop (k*7+7)=B9 (M.set k x):=by
 rw[ZD M k (by omega),show k*7+7=(k+1)*7 by omega,ZC M (k+1) (by omega),← cR,← aP,List.set_eq_take_append_cons_drop,if_pos hk]
 congr 1
 simp
def rv (L:List B1) (i:Nat):List B1:=(List.range L.length).map fun k=>if k<i∨L.length - i≤k then L[L.length - 1 - k]! else L[k]!
theorem U9 (L:List B1) (i:Nat):(rv L i).length=L.length:=by simp[rv]
theorem xK (L:List B1) (i k:Nat) (hk:k<L.length):(rv L i)[k]! =if k<i∨L.length - i≤k then L[L.length - 1 - k]! else L[k]! :=by
 rw[getElem!_pos _ k (by rw[U9];exact hk)]
 simp[rv]
theorem bK1 (L:List B1):rv L 0=L:=aG (U9 L 0) fun k hk=>by rw[xK L 0 k hk,if_neg (by omega)]
theorem bJ5 (L:List B1) (k:Nat) (hk:k<L.length):L.reverse[k]! =L[L.length - 1 - k]! :=by
 rw[getElem!_pos _ k (by simpa using hk),List.getElem_reverse,getElem!_pos L (L.length - 1 - k) (by omega)]
theorem cE3 (L:List B1) (i:Nat) (h:L.length≤2*i+1):rv L i=L.reverse:=aG (by rw[U9];simp) fun k hk=>by
 rw[List.length_reverse] at hk
 rw[xK L i k hk,bJ5 L k hk]
 by_cases h1:k<i∨L.length - i≤k
 ·rw[if_pos h1]
 ·rw[if_neg h1]
  congr 1
  omega
theorem bK0 (L:List B1) (i:Nat) (h:i+i+1<L.length):((rv L i).set i L[L.length - 1 - i]!).set (L.length - 1 - i) L[i]! =rv L (i+1):=aG (by simp[U9]) fun k hk=>by
 rw[U9] at hk
 rw[xK L (i+1) k hk,getElem!_pos _ k (by simp[U9];exact hk),List.getElem_set,List.getElem_set]
 by_cases h1:L.length - 1 - i=k
 ·rw[if_pos h1,if_pos (by omega)]
  congr 1
  omega
 rw[if_neg h1]
 by_cases h2:i=k
 ·subst h2
  rw[if_pos rfl,if_pos (by omega)]
 rw[if_neg h2]
 have:=xK L i k hk
 rw[getElem!_pos _ k (by rw[U9];exact hk)] at this
 rw[this]
 by_cases h3:k<i∨L.length - i≤k
 ·rw[if_pos h3,if_pos (by omega)]
 ·rw[if_neg h3,if_neg (by omega)]
section
variable (w:World) (n:Nat)
theorem ZX {C:B7} {Q:V→n5→Prop} (hC:C.E=EN w (n+1)) (L:List B1) (hL:L.length≤1000000) (H:D5) (o nx:Nat) (hq:Q (.tup []) ⟨(o,.gro 54 7 false (B9 L.reverse))::H,nx,0⟩):
  cF C 78 [.gr 2 o L.length] ⟨(o,.gro 54 7 false (B9 L))::H,nx,0⟩ Q:=by
 refine FC hC rfl rfl (fun _ _=>rfl) (Nat.le_of_ble_eq_true rfl) hq fun C' hC' hn=>?_
 repeat' (first|(simp (disch:=try exact m8) only[WA,b9,d9,Nat.reduceEqDiff,Nat.reduceLT,Nat.reduceAdd,Nat.reduceBEq,Int.reduceAdd,Int.reduceSub,Int.reduceLT,Int.reduceLE,Int.reduceEq,Int.reduceNeg,↓reduceIte,reduceCtorEq,List.replicate,c78])|apply a8|((first|apply d7|apply c7|apply a9|apply d8|apply c8|apply b8)<;>intro _))
 refine x9 (fun m fr st=>∃ (i:Nat),m=L.length - i∧i≤L.length∧fr= [(0,.gr 2 o L.length),(2,iN i),(3,iN ((L.length:Int) - 1 - i))]∧st=⟨(o,.gro 54 7 false (B9 (rv L i)))::H,nx,0⟩) L.length ?_ ⟨_,_,.refl _ _,0,by omega,Nat.zero_le _,by simp,by rw[bK1]⟩ ?_
 ·rw[hC',n7];unfold C7;omega
 rintro m fr st ⟨i,rfl,hi,rfl,rfl⟩
 by_cases hlt:i+i+1<L.length
 case neg=>
  rw[cE3 L i (by omega)]
  repeat' (first|(simp (disch:=try exact m8) only[WA,b9,d9,Nat.reduceEqDiff,Nat.reduceLT,Nat.reduceAdd,Nat.reduceBEq,Int.reduceAdd,Int.reduceSub,Int.reduceLT,Int.reduceLE,Int.reduceEq,Int.reduceNeg,↓reduceIte,reduceCtorEq,List.replicate,JI])|apply a8|((first|apply d7|apply c7|apply a9|apply d8|apply c8|apply b8)<;>intro _))
  all_goals try (exfalso;omega)
  exact .refl _ _
 have hst:=bK0 L i hlt
 have hil:=x8 (rv L i)
 have a1:=aO (rv L i) i (by rw[U9];omega)
 have a2:=aO (rv L i) (L.length - 1 - i) (by rw[U9];omega)
 rw[xK L i _ (by omega),if_neg (by omega)] at a1 a2
 have p1:=LP (rv L i) i L[L.length - 1 - i]! (by rw[U9];omega)
 have p2:=LP ((rv L i).set i L[L.length - 1 - i]!) (L.length - 1 - i) L[i]! (by simp[U9];omega)
 have hil2:=x8 ((rv L i).set i L[L.length - 1 - i]!)
 rw[hst] at p2
 rw[U9] at hil
 rw[List.length_set,U9] at hil2
 have hix:((L.length:Int) - 1 - i)=((L.length - 1 - i:Nat):Int):=by omega
 have hin:((L.length:Int) - 1 - ((i+1:Nat):Int))=((L.length - 1 - i:Nat):Int) - 1:=by omega
 rw[hix]
 have hj1:L.length - 1 - i<L.length:=by omega
 have hj2:i<L.length - 1 - i:=by omega
 unfold ZE at a1 a2
 generalize B9 ((rv L i).set i L[L.length - 1 - i]!)=B at*
 generalize B9 (rv L i)=A at*
 generalize L[L.length - 1 - i]! =y at*
 generalize L[i]! =x at*
 obtain ⟨xo,xr,xb,xp,xt,xc,xk⟩:=x
 obtain ⟨yo,yr,yb,yp,yt,yc,yk⟩:=y
 simp only[kN,List.map_cons,List.map_nil] at a1 a2 p1 p2
 generalize hjj:L.length - 1 - i=j at*
 repeat' (first|(simp (disch:=try exact m8) only[WA,b9,d9,Nat.reduceEqDiff,Nat.reduceLT,Nat.reduceAdd,Nat.reduceBEq,Int.reduceAdd,Int.reduceSub,Int.reduceLT,Int.reduceLE,Int.reduceEq,Int.reduceNeg,↓reduceIte,reduceCtorEq,List.replicate,JI,a1,a2,aB7,QW,QV,p1,aY6,p2])|apply a8|((first|apply d7|apply c7|apply a9|apply d8|apply c8|apply b8)<;>intro _))
 all_goals try (exfalso;omega)
 exact ⟨L.length - (i+1),_,_,by omega,.refl _ _,i+1,rfl,by omega,by rw[hin];rfl,rfl⟩
end
def bN (b:Bool):Nat:=if b then 1 else 0
def M9 (B:List Bool):List D:=B.map fun b=> .sc (.int .u8 (bN b))
def A0 (B:List Bool) (F:List o8) (j:Nat):List Bool:=(List.range B.length).map fun k=>if k<j∧F[k]!.kind=1 then F[k]!.purl else B[k]!
def xfP (B:List Bool) (F:List o8) (k:Nat):Bool:=decide (F[k]!.kind=1) && (B[k]! !=F[k]!.purl)
def xfI (B:List Bool) (k:Nat):B1:=⟨7,false,bN B[k]!,k,k,0,0⟩
def xf (B:List Bool) (F:List o8) (j:Nat):List B1:=((List.range j).filter (xfP B F)).map (xfI B)
def QC (odd:Bool) (B:List Bool) (F:List o8) (k:Nat):B1:=⟨if F[k]!.kind=1 then 3 else 5,odd,bN B[k]!,k,0,1,0⟩
def iQ (odd:Bool) (B:List Bool) (F:List o8) (j:Nat):List B1:=(List.range j).map (QC odd B F)
def dW (i:Nat) (L:List B1):List B1:=if i % 2=0 then L.reverse else L
def aV (i:Nat) (B:List Bool) (F:List o8):List B1:=xf B F F.length++dW i (iQ (decide (i % 2=1)) (A0 B F F.length) F F.length)
def Q9:Nat→List Bool→List (Bool × List o8)→List B1
 |_,_,[]=> []
 |i,B,r::R=>aV i B (u6 r)++Q9 (i+1) (A0 B (u6 r) (u6 r).length) R
def aJ0 (k:Nat):B1:=⟨3,true,0,k,0,1,0⟩
def in1:B1:=⟨1,false,0,0,0,1,0⟩
def Q5 (k:Nat):List B1:=in1::(List.range k).map aJ0
def G7 (z:Nat) (R:List (Bool × List o8)):List B1:=Q5 z++Q9 0 (List.replicate z false) R
def L7 (c:PW):List B1 × Int:=if O4 c ≠ 0 then ([],O4 c) else if nZ c=true then (if 2000<(G7 c.1.toNat c.2).length then ([],4) else (G7 c.1.toNat c.2,0)) else ([],2)
theorem J1 (B:List Bool) (F:List o8) (j:Nat):(A0 B F j).length=B.length:=by simp[A0]
theorem O3 (B:List Bool) (F:List o8) (j k:Nat) (hk:k<B.length):(A0 B F j)[k]! =if k<j∧F[k]!.kind=1 then F[k]!.purl else B[k]! :=by
 rw[getElem!_pos _ k (by rw[J1];exact hk)]
 simp[A0]
theorem lO {a l:List Bool} (h:a.length=l.length) (ha:∀ j,j<l.length→a[j]! =l[j]!):a=l:=by
 apply List.ext_getElem h
 intro j h1 h2
 have:=ha j h2
 rwa [getElem!_pos a j h1,getElem!_pos l j h2] at this
theorem XZ (B:List Bool) (F:List o8):A0 B F 0=B:=lO (J1 B F 0) fun k hk=>by rw[O3 B F 0 k hk,if_neg (by omega)]
theorem bK6 (B:List Bool) (j k:Nat) (b:Bool) (hk:k<B.length):(B.set j b)[k]! =if j=k then b else B[k]! :=by
 rw[getElem!_pos _ k (by simpa using hk),List.getElem_set,getElem!_pos B k hk]
theorem XY (B:List Bool) (F:List o8) (j:Nat) (hj:j<B.length) (h:F[j]!.kind=1):A0 B F (j+1)=(A0 B F j).set j F[j]!.purl:=lO (by simp[J1]) fun k hk=>by
 have hk':k<B.length:=by simpa [J1] using hk
 rw[O3 B F (j+1) k hk',bK6 _ _ _ _ (by rw[J1];exact hk'),O3 B F j k hk']
 by_cases e:j=k
 ·subst e;rw[if_pos rfl,if_pos ⟨by omega,h⟩]
 ·rw[if_neg e]
  by_cases h2:k<j∧F[k]!.kind=1
  ·rw[if_pos h2,if_pos ⟨by omega,h2.2⟩]
  ·rw[if_neg h2,if_neg (fun h3=>h2 ⟨by omega,h3.2⟩)]
theorem zY (B:List Bool) (F:List o8) (j:Nat) (hj:j<B.length) (h:F[j]!.kind ≠ 1):A0 B F (j+1)=A0 B F j:=lO (by simp[J1]) fun k hk=>by
 have hk':k<B.length:=by simpa [J1] using hk
 rw[O3 B F (j+1) k hk',O3 B F j k hk']
 by_cases h2:k<j∧F[k]!.kind=1
 ·rw[if_pos h2,if_pos ⟨by omega,h2.2⟩]
 ·rw[if_neg h2,if_neg (fun h3=>h2 ⟨by rcases Nat.lt_succ_iff_lt_or_eq.1 h3.1 with h4|rfl;exact h4;exact absurd h3.2 h,h3.2⟩)]
theorem bD7 (B:List Bool) (F:List o8) (j:Nat) (hj:j<B.length):(A0 B F j)[j]! =B[j]! :=by rw[O3 B F j j hj,if_neg (by omega)]
theorem aE6 (B:List Bool) (F:List o8) (j m:Nat) (hj:j<B.length) (hm:j<m):(A0 B F (j+1))[j]! =(A0 B F m)[j]! :=by
 rw[O3 B F (j+1) j hj,O3 B F m j hj]
 by_cases h:F[j]!.kind=1
 ·rw[if_pos ⟨by omega,h⟩,if_pos ⟨hm,h⟩]
 ·rw[if_neg (fun x=>h x.2),if_neg (fun x=>h x.2)]
theorem cH5 (B:List Bool) (F:List o8) (j:Nat) (h:xfP B F j=true):xf B F (j+1)=xf B F j++ [xfI B j]:=by
 unfold xf
 rw[List.range_succ,List.filter_append,List.map_append]
 simp[h]
theorem cR7 (B:List Bool) (F:List o8) (j:Nat) (h:xfP B F j=false):xf B F (j+1)=xf B F j:=by
 unfold xf
 rw[List.range_succ,List.filter_append,List.map_append]
 simp[h]
theorem aX4 (odd:Bool) (B:List Bool) (F:List o8) (j:Nat):iQ odd B F (j+1)=iQ odd B F j++ [QC odd B F j]:=by
 unfold iQ
 rw[List.range_succ,List.map_append];rfl
theorem V9 (odd:Bool) (B:List Bool) (F:List o8) (j:Nat):(iQ odd B F j).length=j:=by simp[iQ]
theorem SZ (B:List Bool) (F:List o8) (j:Nat):(xf B F j).length≤j:=by
 unfold xf
 rw[List.length_map]
 exact Nat.le_trans (List.length_filter_le _ _) (by simp)
theorem uU (i:Nat) (L:List B1):(dW i L).length=L.length:=by unfold dW;split<;>simp
theorem aW8 (i:Nat) (B:List Bool) (F:List o8):(aV i B F).length≤F.length+F.length:=by
 unfold aV
 rw[List.length_append,uU,V9]
 have:=SZ B F F.length
 omega
theorem pF (k:Nat):(Q5 k).length=k+1:=by simp[Q5]
theorem QP (k:Nat):Q5 (k+1)=Q5 k++ [aJ0 k]:=by
 unfold Q5
 rw[List.range_succ,List.map_append];rfl
theorem IY (B:List Bool):(M9 B).length=B.length:=by simp[M9]
theorem aE5 (B:List Bool) (j:Nat) (b:Bool):(M9 B).set j (.sc (.int .u8 (bN b)))=M9 (B.set j b):=by simp[M9,List.map_set]
theorem TH (B:List Bool) (j:Nat) (hj:j<B.length):C9 (M9 B) j none=some (.sc (.int .u8 (bN B[j]!))):=by
 unfold M9
 rw[pM _ _ _ hj,getElem!_pos B j hj]
 rfl
theorem R0 (r:Bool × List o8):(u6 r).length=r.2.length:=by unfold u6;split;exact X3 _;rfl
theorem oJ:∀ {L:List o8},L.all G5=true→E7 E3 L=L.length∧E7 H1 L=L.length
 | [],_=>⟨rfl,rfl⟩
 |x::L,h=>by
  rw[List.all_cons,Bool.and_eq_true] at h
  obtain ⟨i1,i2⟩:=oJ h.2
  have hx:E3 x=1∧H1 x=1:=by
   obtain ⟨k,p,a,b⟩:=x
   have:=h.1
   unfold G5 at this
   simp only[decide_eq_true_eq] at this
   rcases this with rfl|rfl<;>simp[E3,H1]
  simp only[E7,hx.1,hx.2,i1,i2,List.length_cons]
  constructor<;>omega
theorem qL:∀ {R:List (Bool × List o8)} {z:Int},Q8 z R=0→P6 R=true→∀ r ∈ R,(r.2.length:Int)=z
 | [],_,_,_,r,h=>by cases h
 |q::R,z,h,hp,r,hr=>by
  by_cases h1:I0 q.2=0
  case neg=>rw[kC h1] at h;exact absurd h h1
  by_cases h2:E7 E3 q.2=z
  case neg=>rw[kD h1 h2] at h;cases h
  rw[iL h1 h2] at h
  have hp':q.2.all G5=true∧P6 R=true:=by
   have:(q.2.all G5 && P6 R)=true:=hp
   simpa using this
  obtain ⟨s1,s2⟩:=oJ hp'.1
  rcases List.mem_cons.1 hr with rfl|h3
  ·rw[← h2,s1]
  ·rw[qL h hp'.2 r h3,s2,← s1,h2]
theorem qS {r:Bool × List o8} (h:r.2.all G5=true):(u6 r).all G5=true:=by
 unfold u6
 split
 ·unfold K5
  rw[List.all_map,List.all_reverse]
  rw[List.all_eq_true] at h ⊢
  intro x hx
  exact h x hx
 ·exact h
theorem SA {R:List (Bool × List o8)} {i:Nat} {B:List Bool} (hi:i<R.length):Q9 i B (R.drop i)=aV i B (u6 R[i]!)++Q9 (i+1) (A0 B (u6 R[i]!) (u6 R[i]!).length) (R.drop (i+1)):=by
 rw[fT hi];rfl
theorem oX (i:Nat) (h:i<1000000) (r:Int) (hr:((i % 2:Nat):Int)=r):J2 .and (.int .i64 i) (.int .i64 1)=some (.int .i64 r):=by
 subst hr
 have h1:(BitVec.ofInt 64 (i:Int) &&& BitVec.ofInt 64 1).toNat=i % 2:=by
  rw[BitVec.toNat_and,BitVec.toNat_ofInt,BitVec.toNat_ofInt]
  rw[show ((1:Int) % ((2 ^ 64:Nat):Int)).toNat=2 ^ 1 - 1 by decide,Nat.and_two_pow_sub_one_eq_mod]
  rw[show ((i:Int) % ((2 ^ 64:Nat):Int)).toNat=i by omega]
 simp only[J2,if_true]
 show some (Value.int .i64 (IntKind.i64.wrap ((BitVec.ofInt 64 (i:Int) &&& BitVec.ofInt 64 1).toNat:Int)))=_
 rw[h1]
 congr 2
 simp[IntKind.wrap,IntKind.bits,IntKind.signed]
 omega
abbrev U1 (L:List B1):Itp.Obj:= .gro 54 7 false (B9 L)
abbrev XX (B:List Bool):Itp.Obj:= .row 5 1 false false (M9 B)
section
variable (w:World) (n:Nat)
theorem bE7 {C:B7} (hC:C.E=EN w (n+1)) (h0:C.w0.nx=0) (z:Int) (s k:Nat) (R:List (Bool × List o8)) (rl:Int) (i:Nat) (hi:i<1000000) (B:List Bool) (F:List o8) (acc:List B1) (hF:F.length=B.length) (hp:F.all G5=true) (hFl:F.length≤1000) (hacc:acc.length≤1000000) (v55:V) (h55:v55= .sc (.bool false)) (zB:Nat) (hzB:B.length=zB) {K:List KF} {P:z9}
  (hgo:gK C K (.exit 4) [(1,.ptr 0 0),(5,.gr 2 1 (acc++xf B F F.length).length),(7,.ref 2 0 zB zB),(8,iN i),(11,.gr 2 3 F.length),(42,iN rl),(43,iN i),(52,tS 3 F),(53,iN F.length),(54,iN F.length),(55,v55)]
   ⟨[(3,U1 (iQ (decide (i % 2=1)) (A0 B F F.length) F F.length)),(2,XX (A0 B F F.length)),(1,U1 (acc++xf B F F.length)),(0,zA z s k R)],4,0⟩ P):
  gL C [1,5,7,8,11,42,43,52,53,54] R8 K [(1,.ptr 0 0),(5,.gr 2 1 acc.length),(7,.ref 2 0 zB zB),(8,iN i),(11,.gr 2 3 0),(42,iN rl),(43,iN i),(52,tS 3 F),(53,iN F.length),(54,iN 0)]
   ⟨[(3,U1 []),(2,XX B),(1,U1 acc),(0,zA z s k R)],4,0⟩ P:=by
 subst hzB
 have hrn:C.E.rounds=C7:=by rw[hC,n7]
 have hfl:=v3 F
 have hpar:∃ od:Bool,decide (i % 2=1)=od∧J2 .and (.int .i64 i) (.int .i64 1)=some (.int .i64 (if od then 1 else 0)):=by
  rcases Nat.mod_two_eq_zero_or_one i with h|h
  ·exact ⟨false,by rw[h];rfl,oX i hi 0 (by rw[h];rfl)⟩
  ·exact ⟨true,by rw[h];rfl,oX i hi 1 (by rw[h];rfl)⟩
 obtain ⟨od,hod,hbn⟩:=hpar
 rw[hod] at hgo
 clear hod
 refine x9 (fun m fr st=>∃ j:Nat,m=F.length - j∧j≤F.length∧fr= [(1,.ptr 0 0),(5,.gr 2 1 (acc++xf B F j).length),(7,.ref 2 0 B.length B.length),(8,iN i),(11,.gr 2 3 j),(42,iN rl),(43,iN i),(52,tS 3 F),(53,iN F.length),(54,iN j)]∧
  st=⟨[(3,U1 (iQ od (A0 B F F.length) F j)),(2,XX (A0 B F j)),(1,U1 (acc++xf B F j)),(0,zA z s k R)],4,0⟩) F.length ?_ ⟨_,_,.refl _ _,0,by omega,Nat.zero_le _,by simp[xf],by simp[xf,iQ,XZ]⟩ ?_
 ·rw[hrn];unfold C7;omega
 rintro mm fr st ⟨j,rfl,hj,rfl,rfl⟩
 by_cases hlt:j<F.length
 case neg=>
  have:j=F.length:=by omega
  subst this
  subst h55
  repeat' (first|(simp (disch:=try exact m8) only[WA,b9,d9,Nat.reduceEqDiff,Nat.reduceLT,Nat.reduceAdd,Nat.reduceBEq,Int.reduceAdd,Int.reduceSub,Int.reduceLT,Int.reduceLE,Int.reduceEq,Int.reduceNeg,↓reduceIte,reduceCtorEq,List.replicate,R8])|apply a8|((first|apply d7|apply c7|apply a9|apply d8|apply c8|apply b8)<;>intro _))
  exact hgo
 have hjB:j<B.length:=by omega
 have hag:=P1 F j hlt
 have hb1:=TH (A0 B F j) j (by rw[J1];exact hjB)
 rw[bD7 B F j hjB] at hb1
 have hbl:=IY (A0 B F j)
 rw[J1] at hbl
 have hend:=aE6 B F j F.length hjB hlt
 have hb2:=TH (A0 B F (j+1)) j (by rw[J1];exact hjB)
 rw[hend] at hb2
 have hbl2:=IY (A0 B F (j+1))
 rw[J1] at hbl2
 have hrs:=aX4 od (A0 B F F.length) F j
 have hrd:=cR (iQ od (A0 B F F.length) F j) (QC od (A0 B F F.length) F j)
 rw[← hrs] at hrd
 have hrl:=x8 (iQ od (A0 B F F.length) F j)
 rw[V9] at hrl
 have hal:=x8 (acc++xf B F j)
 have hxl:=SZ B F j
 have hxs:(acc++xf B F j).length≤1001000:=by rw[List.length_append];omega
 have had:=cR (acc++xf B F j) (xfI B j)
 have hbset:=fun b=>aE5 (A0 B F j) j b
 have hkn:=XY B F j hjB
 have hsl:=zY B F j hjB
 have hxy:=cH5 B F j
 have hxn:=cR7 B F j
 have hpj:G5 F[j]! =true:=List.all_eq_true.1 hp _ (by rw[getElem!_pos F j hlt];exact List.getElem_mem hlt)
 unfold xfP at hxy hxn
 unfold QC at hrd hrs
 unfold xfI at had
 have hfin:(A0 B F F.length)[j]! =if F[j]!.kind=1 then F[j]!.purl else B[j]! :=by rw[O3 _ _ _ _ hjB];simp[hlt]
 clear hgo hsl
 rw[hfin] at hrd hrs hb2
 generalize hxx:F[j]! =x at*
 obtain ⟨xk,xp,xa,xb⟩:=x
 have hk:xk=1∨xk=8:=by simpa [G5] using hpj
 have hslp:=zY B F j hjB
 rw[hxx] at hslp
 generalize hbb:B[j]! =b0 at*
 rcases hk with rfl|rfl
 ·have hkn':=hkn rfl
  simp only[if_true] at hrd hrs hfin hxy hxn hb2
  simp only[decide_true,Bool.true_and] at hxy hxn
  have hst:=hbset xp
  rw[← hkn'] at hst
  have hadd:(bne b0 xp)=true→B9 (acc++xf B F (j+1))=B9 (acc++xf B F j)++ [.sc (.int .u8 7),.sc (.bool false),.sc (.int .u8 (bN b0)),.sc (.int .i64 j),.sc (.int .i64 j),.sc (.int .i64 0),.sc (.int .i64 0)]:=fun h=>by
   rw[hxy h,← List.append_assoc,cR]
   unfold xfI
   rw[hbb]
   rfl
  cases xp<;>cases b0<;>cases od
  ·have hs0:(M9 (A0 B F j)).set j (.sc (.int .u8 0))=M9 (A0 B F (j+1)):=hst
   have hb0:C9 (M9 (A0 B F (j+1))) j none=some (.sc (.int .u8 0)):=hb2
   have hx0:=hxn rfl
   repeat' (first|(simp (disch:=try exact m8) only[WA,b9,d9,Nat.reduceEqDiff,Nat.reduceLT,Nat.reduceAdd,Nat.reduceBEq,Int.reduceAdd,Int.reduceSub,Int.reduceLT,Int.reduceLE,Int.reduceEq,Int.reduceNeg,↓reduceIte,reduceCtorEq,List.replicate,R8,hag,hb1,bN,E0,hbn,hs0,hb0])|apply a8|((first|apply d7|apply c7|apply a9|apply d8|apply c8|apply b8)<;>intro _))
   all_goals try (exfalso;omega)
   refine ⟨F.length - (j+1),_,_,by omega,s7 [(6,3),(2,2),(1,1),(0,0)] 4 h0 rfl rfl rfl rfl,j+1,rfl,by omega,?_,?_⟩
   ·rw[hx0];rfl
   ·simp only[U1];rw[hrd,hx0];rfl
  ·have hs0:(M9 (A0 B F j)).set j (.sc (.int .u8 0))=M9 (A0 B F (j+1)):=hst
   have hb0:C9 (M9 (A0 B F (j+1))) j none=some (.sc (.int .u8 0)):=hb2
   have hx0:=hxn rfl
   repeat' (first|(simp (disch:=try exact m8) only[WA,b9,d9,Nat.reduceEqDiff,Nat.reduceLT,Nat.reduceAdd,Nat.reduceBEq,Int.reduceAdd,Int.reduceSub,Int.reduceLT,Int.reduceLE,Int.reduceEq,Int.reduceNeg,↓reduceIte,reduceCtorEq,List.replicate,R8,hag,hb1,bN,E0,hbn,hs0,hb0])|apply a8|((first|apply d7|apply c7|apply a9|apply d8|apply c8|apply b8)<;>intro _))
   all_goals try (exfalso;omega)
   refine ⟨F.length - (j+1),_,_,by omega,s7 [(6,3),(2,2),(1,1),(0,0)] 4 h0 rfl rfl rfl rfl,j+1,rfl,by omega,?_,?_⟩
   ·rw[hx0];rfl
   ·simp only[U1];rw[hrd,hx0];rfl
  ·have hs0:(M9 (A0 B F j)).set j (.sc (.int .u8 0))=M9 (A0 B F (j+1)):=hst
   have hb0:C9 (M9 (A0 B F (j+1))) j none=some (.sc (.int .u8 0)):=hb2
   have hx0:=hxy rfl
   have hxl1:(acc++xf B F (j+1)).length=(acc++xf B F j).length+1:=by rw[hx0,← List.append_assoc,List.length_append];rfl
   repeat' (first|(simp (disch:=try exact m8) only[WA,b9,d9,Nat.reduceEqDiff,Nat.reduceLT,Nat.reduceAdd,Nat.reduceBEq,Int.reduceAdd,Int.reduceSub,Int.reduceLT,Int.reduceLE,Int.reduceEq,Int.reduceNeg,↓reduceIte,reduceCtorEq,List.replicate,R8,hag,hb1,bN,E0,hbn,hs0,hb0])|apply a8|((first|apply d7|apply c7|apply a9|apply d8|apply c8|apply b8)<;>intro _))
   all_goals try (exfalso;omega)
   refine ⟨F.length - (j+1),_,_,by omega,s7 [(8,3),(2,2),(6,1),(0,0)] 4 h0 rfl rfl rfl rfl,j+1,rfl,by omega,?_,?_⟩
   ·rw[hxl1];rfl
   ·simp only[U1];rw[hrd,hadd rfl];rfl
  ·have hs0:(M9 (A0 B F j)).set j (.sc (.int .u8 0))=M9 (A0 B F (j+1)):=hst
   have hb0:C9 (M9 (A0 B F (j+1))) j none=some (.sc (.int .u8 0)):=hb2
   have hx0:=hxy rfl
   have hxl1:(acc++xf B F (j+1)).length=(acc++xf B F j).length+1:=by rw[hx0,← List.append_assoc,List.length_append];rfl
   repeat' (first|(simp (disch:=try exact m8) only[WA,b9,d9,Nat.reduceEqDiff,Nat.reduceLT,Nat.reduceAdd,Nat.reduceBEq,Int.reduceAdd,Int.reduceSub,Int.reduceLT,Int.reduceLE,Int.reduceEq,Int.reduceNeg,↓reduceIte,reduceCtorEq,List.replicate,R8,hag,hb1,bN,E0,hbn,hs0,hb0])|apply a8|((first|apply d7|apply c7|apply a9|apply d8|apply c8|apply b8)<;>intro _))
   all_goals try (exfalso;omega)
   refine ⟨F.length - (j+1),_,_,by omega,s7 [(8,3),(2,2),(6,1),(0,0)] 4 h0 rfl rfl rfl rfl,j+1,rfl,by omega,?_,?_⟩
   ·rw[hxl1];rfl
   ·simp only[U1];rw[hrd,hadd rfl];rfl
  ·have hs0:(M9 (A0 B F j)).set j (.sc (.int .u8 1))=M9 (A0 B F (j+1)):=hst
   have hb0:C9 (M9 (A0 B F (j+1))) j none=some (.sc (.int .u8 1)):=hb2
   have hx0:=hxy rfl
   have hxl1:(acc++xf B F (j+1)).length=(acc++xf B F j).length+1:=by rw[hx0,← List.append_assoc,List.length_append];rfl
   repeat' (first|(simp (disch:=try exact m8) only[WA,b9,d9,Nat.reduceEqDiff,Nat.reduceLT,Nat.reduceAdd,Nat.reduceBEq,Int.reduceAdd,Int.reduceSub,Int.reduceLT,Int.reduceLE,Int.reduceEq,Int.reduceNeg,↓reduceIte,reduceCtorEq,List.replicate,R8,hag,hb1,bN,E0,hbn,hs0,hb0])|apply a8|((first|apply d7|apply c7|apply a9|apply d8|apply c8|apply b8)<;>intro _))
   all_goals try (exfalso;omega)
   refine ⟨F.length - (j+1),_,_,by omega,s7 [(8,3),(2,2),(6,1),(0,0)] 4 h0 rfl rfl rfl rfl,j+1,rfl,by omega,?_,?_⟩
   ·rw[hxl1];rfl
   ·simp only[U1];rw[hrd,hadd rfl];rfl
  ·have hs0:(M9 (A0 B F j)).set j (.sc (.int .u8 1))=M9 (A0 B F (j+1)):=hst
   have hb0:C9 (M9 (A0 B F (j+1))) j none=some (.sc (.int .u8 1)):=hb2
   have hx0:=hxy rfl
   have hxl1:(acc++xf B F (j+1)).length=(acc++xf B F j).length+1:=by rw[hx0,← List.append_assoc,List.length_append];rfl
   repeat' (first|(simp (disch:=try exact m8) only[WA,b9,d9,Nat.reduceEqDiff,Nat.reduceLT,Nat.reduceAdd,Nat.reduceBEq,Int.reduceAdd,Int.reduceSub,Int.reduceLT,Int.reduceLE,Int.reduceEq,Int.reduceNeg,↓reduceIte,reduceCtorEq,List.replicate,R8,hag,hb1,bN,E0,hbn,hs0,hb0])|apply a8|((first|apply d7|apply c7|apply a9|apply d8|apply c8|apply b8)<;>intro _))
   all_goals try (exfalso;omega)
   refine ⟨F.length - (j+1),_,_,by omega,s7 [(8,3),(2,2),(6,1),(0,0)] 4 h0 rfl rfl rfl rfl,j+1,rfl,by omega,?_,?_⟩
   ·rw[hxl1];rfl
   ·simp only[U1];rw[hrd,hadd rfl];rfl
  ·have hs0:(M9 (A0 B F j)).set j (.sc (.int .u8 1))=M9 (A0 B F (j+1)):=hst
   have hb0:C9 (M9 (A0 B F (j+1))) j none=some (.sc (.int .u8 1)):=hb2
   have hx0:=hxn rfl
   repeat' (first|(simp (disch:=try exact m8) only[WA,b9,d9,Nat.reduceEqDiff,Nat.reduceLT,Nat.reduceAdd,Nat.reduceBEq,Int.reduceAdd,Int.reduceSub,Int.reduceLT,Int.reduceLE,Int.reduceEq,Int.reduceNeg,↓reduceIte,reduceCtorEq,List.replicate,R8,hag,hb1,bN,E0,hbn,hs0,hb0])|apply a8|((first|apply d7|apply c7|apply a9|apply d8|apply c8|apply b8)<;>intro _))
   all_goals try (exfalso;omega)
   refine ⟨F.length - (j+1),_,_,by omega,s7 [(6,3),(2,2),(1,1),(0,0)] 4 h0 rfl rfl rfl rfl,j+1,rfl,by omega,?_,?_⟩
   ·rw[hx0];rfl
   ·simp only[U1];rw[hrd,hx0];rfl
  ·have hs0:(M9 (A0 B F j)).set j (.sc (.int .u8 1))=M9 (A0 B F (j+1)):=hst
   have hb0:C9 (M9 (A0 B F (j+1))) j none=some (.sc (.int .u8 1)):=hb2
   have hx0:=hxn rfl
   repeat' (first|(simp (disch:=try exact m8) only[WA,b9,d9,Nat.reduceEqDiff,Nat.reduceLT,Nat.reduceAdd,Nat.reduceBEq,Int.reduceAdd,Int.reduceSub,Int.reduceLT,Int.reduceLE,Int.reduceEq,Int.reduceNeg,↓reduceIte,reduceCtorEq,List.replicate,R8,hag,hb1,bN,E0,hbn,hs0,hb0])|apply a8|((first|apply d7|apply c7|apply a9|apply d8|apply c8|apply b8)<;>intro _))
   all_goals try (exfalso;omega)
   refine ⟨F.length - (j+1),_,_,by omega,s7 [(6,3),(2,2),(1,1),(0,0)] 4 h0 rfl rfl rfl rfl,j+1,rfl,by omega,?_,?_⟩
   ·rw[hx0];rfl
   ·simp only[U1];rw[hrd,hx0];rfl
 ·have hkn':=hslp (fun h=>by cases h)
  simp only[show ¬ (8:Nat)=1 by decide,if_false] at hrd hrs hfin hb2
  have hx0:=hxn (by simp)
  cases xp<;>cases od
  ·repeat' (first|(simp (disch:=try exact m8) only[WA,b9,d9,Nat.reduceEqDiff,Nat.reduceLT,Nat.reduceAdd,Nat.reduceBEq,Int.reduceAdd,Int.reduceSub,Int.reduceLT,Int.reduceLE,Int.reduceEq,Int.reduceNeg,↓reduceIte,reduceCtorEq,List.replicate,R8,hag,hb1,E0,hbn])|apply a8|((first|apply d7|apply c7|apply a9|apply d8|apply c8|apply b8)<;>intro _))
   all_goals try (exfalso;omega)
   refine ⟨F.length - (j+1),_,_,by omega,s7 [(6,3),(2,2),(1,1),(0,0)] 4 h0 rfl rfl rfl rfl,j+1,rfl,by omega,?_,?_⟩
   ·rw[hx0];rfl
   ·simp only[U1];rw[hrd,hx0,hkn'];rfl
  ·repeat' (first|(simp (disch:=try exact m8) only[WA,b9,d9,Nat.reduceEqDiff,Nat.reduceLT,Nat.reduceAdd,Nat.reduceBEq,Int.reduceAdd,Int.reduceSub,Int.reduceLT,Int.reduceLE,Int.reduceEq,Int.reduceNeg,↓reduceIte,reduceCtorEq,List.replicate,R8,hag,hb1,E0,hbn])|apply a8|((first|apply d7|apply c7|apply a9|apply d8|apply c8|apply b8)<;>intro _))
   all_goals try (exfalso;omega)
   refine ⟨F.length - (j+1),_,_,by omega,s7 [(6,3),(2,2),(1,1),(0,0)] 4 h0 rfl rfl rfl rfl,j+1,rfl,by omega,?_,?_⟩
   ·rw[hx0];rfl
   ·simp only[U1];rw[hrd,hx0,hkn'];rfl
  ·repeat' (first|(simp (disch:=try exact m8) only[WA,b9,d9,Nat.reduceEqDiff,Nat.reduceLT,Nat.reduceAdd,Nat.reduceBEq,Int.reduceAdd,Int.reduceSub,Int.reduceLT,Int.reduceLE,Int.reduceEq,Int.reduceNeg,↓reduceIte,reduceCtorEq,List.replicate,R8,hag,hb1,E0,hbn])|apply a8|((first|apply d7|apply c7|apply a9|apply d8|apply c8|apply b8)<;>intro _))
   all_goals try (exfalso;omega)
   refine ⟨F.length - (j+1),_,_,by omega,s7 [(6,3),(2,2),(1,1),(0,0)] 4 h0 rfl rfl rfl rfl,j+1,rfl,by omega,?_,?_⟩
   ·rw[hx0];rfl
   ·simp only[U1];rw[hrd,hx0,hkn'];rfl
  ·repeat' (first|(simp (disch:=try exact m8) only[WA,b9,d9,Nat.reduceEqDiff,Nat.reduceLT,Nat.reduceAdd,Nat.reduceBEq,Int.reduceAdd,Int.reduceSub,Int.reduceLT,Int.reduceLE,Int.reduceEq,Int.reduceNeg,↓reduceIte,reduceCtorEq,List.replicate,R8,hag,hb1,E0,hbn])|apply a8|((first|apply d7|apply c7|apply a9|apply d8|apply c8|apply b8)<;>intro _))
   all_goals try (exfalso;omega)
   refine ⟨F.length - (j+1),_,_,by omega,s7 [(6,3),(2,2),(1,1),(0,0)] 4 h0 rfl rfl rfl rfl,j+1,rfl,by omega,?_,?_⟩
   ·rw[hx0];rfl
   ·simp only[U1];rw[hrd,hx0,hkn'];rfl
end
theorem GC {C:B7} {ks:List Nat} {b:AC} {K:List KF} {fr fr':A9} {st st':n5} {P:z9} (hw:L4 C fr st fr' st') (h:gL C ks b K fr' st' P):gL C ks b K fr st P:=fun frI s hr=>h frI s (hw s frI hr)
theorem xF {z:Nat} {R:List (Bool × List o8)} (hck:O4 ((z:Int),R)=0) (hpl:P6 R=true) {i:Nat} (hi:i<R.length):R[i]!.2.length=z:=by
 have:=qL (L6 hck).2.2.2 hpl R[i]! (by rw[getElem!_pos R i hi];exact List.getElem_mem hi)
 simp only at this
 omega
theorem aX1 {R:List (Bool × List o8)} (hpl:P6 R=true) {i:Nat} (hi:i<R.length):R[i]!.2.all G5=true:=List.all_eq_true.1 hpl R[i]! (by rw[getElem!_pos R i hi];exact List.getElem_mem hi)
section
variable (w:World) (n:Nat)
theorem aJ4 {C:B7} (hC:C.E=EN w (n+10)) (h0:C.w0.nx=0) (z:Nat) (hz:0<z) (hz2:z≤101) (s k:Nat) (hs:s ≠ 1) (R:List (Bool × List o8)) (hK:T1 R) (hck:O4 ((z:Int),R)=0) (hpl:P6 R=true) {K:List KF} {P:z9}
  (hgo:∀ B:List Bool,gK C K (.exit 2) [(1,.ptr 0 0),(5,.gr 2 1 (G7 z R).length),(7,.ref 2 0 z z),(42,iN R.length),(43,iN R.length),(44,.sc (.bool false))] ⟨[(2,XX B),(1,U1 (G7 z R)),(0,zA z s k R)],3,0⟩ P):
  gL C [1,5,7,42,43] uE K [(1,.ptr 0 0),(5,.gr 2 1 (Q5 z).length),(7,.ref 2 0 z z),(42,iN R.length),(43,iN 0)] ⟨[(2,XX (List.replicate z false)),(1,U1 (Q5 z)),(0,zA z s k R)],3,0⟩ P:=by
 have hrn:C.E.rounds=C7:=by rw[hC,n7]
 have hR:=(L6 hck).1
 simp only at hR
 have hrl:=D1 k R
 refine x9 (fun m fr st=>∃ (i:Nat) (B:List Bool) (acc:List B1),m=R.length - i∧i≤R.length∧B.length=z∧G7 z R=acc++Q9 i B (R.drop i)∧acc.length≤102+i*202∧
  fr= [(1,.ptr 0 0),(5,.gr 2 1 acc.length),(7,.ref 2 0 z z),(42,iN R.length),(43,iN i)]∧st=⟨[(2,XX B),(1,U1 acc),(0,zA z s k R)],3,0⟩) R.length ?_ ⟨_,_,.refl _ _,0,List.replicate z false,Q5 z,by omega,Nat.zero_le _,by simp,rfl,by rw[pF];omega,rfl,rfl⟩ ?_
 ·rw[hrn];unfold C7;omega
 rintro mm fr st ⟨i,B,acc,rfl,hi,hB,hinv,hacc,rfl,rfl⟩
 by_cases hlt:i<R.length
 case neg=>
  have:i=R.length:=by omega
  subst this
  have e:G7 z R=acc:=by rw[hinv,List.drop_length,Q9,List.append_nil]
  have hgo:=hgo B
  rw[e] at hgo
  repeat' (first|(simp (disch:=try exact m8) only[WA,b9,d9,Nat.reduceEqDiff,Nat.reduceLT,Nat.reduceAdd,Nat.reduceBEq,Int.reduceAdd,Int.reduceSub,Int.reduceLT,Int.reduceLE,Int.reduceEq,Int.reduceNeg,↓reduceIte,reduceCtorEq,List.replicate,uE])|apply a8|((first|apply d7|apply c7|apply a9|apply d8|apply c8|apply b8)<;>intro _))
  exact hgo
 have hlen:=xF hck hpl hlt
 have hfc:=RC w n s k hs z R hK i hlt (.inr (.inr (.inr (by omega)))) hck
 have hFl:=R0 R[i]!
 rw[hlen] at hFl
 have hFp:=qS (aX1 hpl hlt)
 rw[SA hlt,← List.append_assoc] at hinv
 have hrw:=aW8 i B (u6 R[i]!)
 have hri:aV i B (u6 R[i]!)=xf B (u6 R[i]!) (u6 R[i]!).length++dW i (iQ (decide (i % 2=1)) (A0 B (u6 R[i]!) (u6 R[i]!).length) (u6 R[i]!) (u6 R[i]!).length):=rfl
 generalize u6 R[i]! =F at*
 repeat' (first|(simp (disch:=try exact m8) only[WA,b9,d9,Nat.reduceEqDiff,Nat.reduceLT,Nat.reduceAdd,Nat.reduceBEq,Int.reduceAdd,Int.reduceSub,Int.reduceLT,Int.reduceLE,Int.reduceEq,Int.reduceNeg,↓reduceIte,reduceCtorEq,List.replicate,uE])|apply a8|((first|apply d7|apply c7|apply a9|apply d8|apply c8|apply b8)<;>intro _))
 all_goals try (exfalso;omega)
 refine D9 (by rw[hC];exact hfc) rfl rfl (fun _=>rfl) ?_
 repeat' (first|(simp (disch:=try exact m8) only[WA,b9,d9,Nat.reduceEqDiff,Nat.reduceLT,Nat.reduceAdd,Nat.reduceBEq,Int.reduceAdd,Int.reduceSub,Int.reduceLT,Int.reduceLE,Int.reduceEq,Int.reduceNeg,↓reduceIte,reduceCtorEq,List.replicate])|apply a8|((first|apply d7|apply c7|apply a9|apply d8|apply c8|apply b8)<;>intro _))
 refine GC (oP 11 54 7 rfl) ?_
 refine bE7 w (n+9) hC h0 z s k R R.length i (by omega) B F acc (by omega) hFp (by omega) (by omega) _ rfl z hB ?_
 have hpar:(∃ x:Unit,i % 2=0∧decide (i % 2=1)=false∧J2 .and (.int .i64 i) (.int .i64 1)=some (.int .i64 0))∨(∃ x:Unit,i % 2=1∧decide (i % 2=1)=true∧J2 .and (.int .i64 i) (.int .i64 1)=some (.int .i64 1)):=by
  rcases Nat.mod_two_eq_zero_or_one i with h|h
  ·exact .inl ⟨(),h,by rw[h];rfl,oX i (by omega) 0 (by rw[h];rfl)⟩
  ·exact .inr ⟨(),h,by rw[h];rfl,oX i (by omega) 1 (by rw[h];rfl)⟩
 have hal:=x8 (acc++xf B F F.length)
 have hxl:=SZ B F F.length
 have hal2:(acc++xf B F F.length).length≤21000:=by rw[List.length_append];omega
 have hbq:=J1 B F F.length
 rw[hB] at hbq
 rcases hpar with ⟨_,h2,hod,hbn⟩|⟨_,h2,hod,hbn⟩
 ·rw[hod] at hri ⊢
  unfold dW at hri
  rw[if_pos h2] at hri
  have hrv:=fun {Q}=>@ZX w (n+9) C Q hC (iQ false (A0 B F F.length) F F.length) (by rw[V9];omega)
  rw[V9] at hrv
  have hrr:=x8 (iQ false (A0 B F F.length) F F.length).reverse
  rw[List.length_reverse,V9] at hrr
  have hok:=GO (iQ false (A0 B F F.length) F F.length).reverse
  have happ:=aP (acc++xf B F F.length) (iQ false (A0 B F F.length) F F.length).reverse
  rw[List.append_assoc acc,← hri] at happ
  have hll:(acc++aV i B F).length=(acc++xf B F F.length).length+F.length:=by rw[hri,← List.append_assoc,List.length_append,List.length_reverse,V9]
  repeat' (first|(simp (disch:=try exact m8) only[WA,b9,d9,Nat.reduceEqDiff,Nat.reduceLT,Nat.reduceAdd,Nat.reduceBEq,Int.reduceAdd,Int.reduceSub,Int.reduceLT,Int.reduceLE,Int.reduceEq,Int.reduceNeg,↓reduceIte,reduceCtorEq,List.replicate,hbn])|apply a8|((first|apply d7|apply c7|apply a9|apply d8|apply c8|apply b8)<;>intro _))
  refine hrv _ _ _ ?_
  repeat' (first|(simp (disch:=try exact m8) only[WA,b9,d9,Nat.reduceEqDiff,Nat.reduceLT,Nat.reduceAdd,Nat.reduceBEq,Int.reduceAdd,Int.reduceSub,Int.reduceLT,Int.reduceLE,Int.reduceEq,Int.reduceNeg,↓reduceIte,reduceCtorEq,List.replicate])|apply a8|((first|apply d7|apply c7|apply a9|apply d8|apply c8|apply b8)<;>intro _))
  all_goals try (exfalso;omega)
  exact ⟨R.length - (i+1),_,_,by omega,s7 [(2,2),(4,1),(0,0)] 3 h0 rfl rfl rfl rfl,i+1,A0 B F F.length,acc++aV i B F,rfl,by omega,hbq,hinv,by rw[List.length_append];omega,by rw[hll];rfl,by simp only[U1];rw[happ];rfl⟩
 ·rw[hod] at hri ⊢
  unfold dW at hri
  rw[if_neg (by omega)] at hri
  have hrr:=x8 (iQ true (A0 B F F.length) F F.length)
  rw[V9] at hrr
  have hok:=GO (iQ true (A0 B F F.length) F F.length)
  have happ:=aP (acc++xf B F F.length) (iQ true (A0 B F F.length) F F.length)
  rw[List.append_assoc acc,← hri] at happ
  have hll:(acc++aV i B F).length=(acc++xf B F F.length).length+F.length:=by rw[hri,← List.append_assoc,List.length_append,V9]
  repeat' (first|(simp (disch:=try exact m8) only[WA,b9,d9,Nat.reduceEqDiff,Nat.reduceLT,Nat.reduceAdd,Nat.reduceBEq,Int.reduceAdd,Int.reduceSub,Int.reduceLT,Int.reduceLE,Int.reduceEq,Int.reduceNeg,↓reduceIte,reduceCtorEq,List.replicate,hbn])|apply a8|((first|apply d7|apply c7|apply a9|apply d8|apply c8|apply b8)<;>intro _))
  all_goals try (exfalso;omega)
  exact ⟨R.length - (i+1),_,_,by omega,s7 [(2,2),(4,1),(0,0)] 3 h0 rfl rfl rfl rfl,i+1,A0 B F F.length,acc++aV i B F,rfl,by omega,hbq,hinv,by rw[List.length_append];omega,by rw[hll];rfl,by simp only[U1];rw[happ];rfl⟩
end
theorem uJ (k:Nat):B9 (Q5 (k+1))=B9 (Q5 k)++ [.sc (.int .u8 3),.sc (.bool true),.sc (.int .u8 0),.sc (.int .i64 k),.sc (.int .i64 0),.sc (.int .i64 1),.sc (.int .i64 0)]:=by rw[QP,cR];rfl
theorem aP8:B9 (Q5 0)= [.sc (.int .u8 1),.sc (.bool false),.sc (.int .u8 0),.sc (.int .i64 0),.sc (.int .i64 0),.sc (.int .i64 1),.sc (.int .i64 0)]:=rfl
theorem aE4 (z:Nat):List.replicate z (D.sc (.int .u8 0))=M9 (List.replicate z false):=by
 unfold M9
 rw[List.map_replicate];rfl
theorem SG {H:D5} {o c t n:Nat} {g z:Bool} {l:List D} (h:k8 H o=some (.row t 7 g z l)) (hl:l.length=n*7):A7 H (.ref o 0 n c)=some (.sl 0 n l):=by
 simp only[A7,bA,h,Nat.zero_add,List.drop_zero]
 rw[if_pos (by omega)]
 show some (V.sl 0 n (l.take (n*7)))=_
 rw[List.take_of_length_le (by omega)]
abbrev jfV (p:List B1 × Int):V:= .tup [jS 3 p.1,iN p.2]
theorem qP:∀ (R:List (Bool × List o8)) (i:Nat),(∀ r ∈ R,r.2= [])→Q9 i [] R= []
 | [],_,_=>rfl
 |r::R,i,h=>by
  have h1:u6 r= []:=List.eq_nil_of_length_eq_zero (by rw[R0,h r (List.mem_cons_self ..)];rfl)
  have h2:aV i [] []= []:=by unfold aV dW;split<;>rfl
  rw[Q9,h1,h2]
  exact qP R (i+1) fun x hx=>h x (List.mem_cons_of_mem _ hx)
section
variable (w:World) (n:Nat)
theorem aJ3 {C:B7} (hC:C.E=EN w (n+1)) (h0:C.w0.nx=0) (z:Nat) (hz:0<z) (hz2:z≤1000) (s k:Nat) (R:List (Bool × List o8)) {K:List KF} {P:z9}
  (hgo:gK C K (.exit 0) [(1,.ptr 0 0),(5,.gr 2 1 (Q5 z).length),(27,iN z),(28,iN z),(29,.sc (.bool false))] ⟨[(1,U1 (Q5 z)),(0,zA z s k R)],2,0⟩ P):
  gL C [1,5,27,28] uF K [(1,.ptr 0 0),(5,.ref 1 0 1 1),(27,iN z),(28,iN 0)] ⟨[(1,.row 54 7 false false (B9 (Q5 0))),(0,zA z s k R)],2,0⟩ P:=by
 have hrn:C.E.rounds=C7:=by rw[hC,n7]
 refine x9 (fun m fr st=>(m=z∧fr= [(1,.ptr 0 0),(5,.ref 1 0 1 1),(27,iN z),(28,iN 0)]∧st=⟨[(1,.row 54 7 false false (B9 (Q5 0))),(0,zA z s k R)],2,0⟩)∨
  ∃ j:Nat,m=z - j∧0<j∧j≤z∧fr= [(1,.ptr 0 0),(5,.gr 2 1 (Q5 j).length),(27,iN z),(28,iN j)]∧st=⟨[(1,U1 (Q5 j)),(0,zA z s k R)],2,0⟩) z ?_ ⟨_,_,.refl _ _,.inl ⟨rfl,rfl,rfl⟩⟩ ?_
 ·rw[hrn];unfold C7;omega
 rintro mm fr st (⟨rfl,rfl,rfl⟩|⟨j,rfl,hj0,hj,rfl,rfl⟩)
 ·rw[aP8]
  have h1:=uJ 0
  rw[aP8] at h1
  repeat' (first|(simp (disch:=try exact m8) only[WA,b9,d9,Nat.reduceEqDiff,Nat.reduceLT,Nat.reduceAdd,Nat.reduceBEq,Int.reduceAdd,Int.reduceSub,Int.reduceLT,Int.reduceLE,Int.reduceEq,Int.reduceNeg,↓reduceIte,reduceCtorEq,List.replicate,uF,E0])|apply a8|((first|apply d7|apply c7|apply a9|apply d8|apply c8|apply b8)<;>intro _))
  all_goals try (exfalso;omega)
  exact ⟨mm - 1,_,_,by omega,s7 [(3,1),(0,0)] 2 h0 rfl rfl rfl rfl,.inr ⟨1,rfl,by omega,by omega,rfl,by simp only[U1];rw[h1];rfl⟩⟩
 by_cases hlt:j<z
 case neg=>
  have:j=z:=by omega
  subst this
  repeat' (first|(simp (disch:=try exact m8) only[WA,b9,d9,Nat.reduceEqDiff,Nat.reduceLT,Nat.reduceAdd,Nat.reduceBEq,Int.reduceAdd,Int.reduceSub,Int.reduceLT,Int.reduceLE,Int.reduceEq,Int.reduceNeg,↓reduceIte,reduceCtorEq,List.replicate,uF])|apply a8|((first|apply d7|apply c7|apply a9|apply d8|apply c8|apply b8)<;>intro _))
  exact hgo
 have h1:=uJ j
 have hl:=x8 (Q5 j)
 have hcl:=pF j
 have hcl1:=pF (j+1)
 generalize Q5 j=A at*
 repeat' (first|(simp (disch:=try exact m8) only[WA,b9,d9,Nat.reduceEqDiff,Nat.reduceLT,Nat.reduceAdd,Nat.reduceBEq,Int.reduceAdd,Int.reduceSub,Int.reduceLT,Int.reduceLE,Int.reduceEq,Int.reduceNeg,↓reduceIte,reduceCtorEq,List.replicate,uF,E0])|apply a8|((first|apply d7|apply c7|apply a9|apply d8|apply c8|apply b8)<;>intro _))
 all_goals try (exfalso;omega)
 exact ⟨z - (j+1),_,_,by omega,s7 [(3,1),(0,0)] 2 h0 rfl rfl rfl rfl,.inr ⟨j+1,rfl,by omega,by omega,by rw[hcl1,hcl];rfl,by simp only[U1];rw[h1];rfl⟩⟩
theorem RY {C:B7} {Q:V→n5→Prop} (hC:C.E=EN w (n+1)) (H:D5) (nx:Nat) (hq:Q (.tup []) ⟨H,nx,0⟩):cF C 78 [.sc (.slice none 0 0)] ⟨H,nx,0⟩ Q:=by
 refine FC hC rfl rfl (fun _ _=>rfl) (Nat.le_of_ble_eq_true rfl) hq fun C' hC' hn=>?_
 repeat' (first|(simp (disch:=try exact m8) only[WA,b9,d9,Nat.reduceEqDiff,Nat.reduceLT,Nat.reduceAdd,Nat.reduceBEq,Int.reduceAdd,Int.reduceSub,Int.reduceLT,Int.reduceLE,Int.reduceEq,Int.reduceNeg,↓reduceIte,reduceCtorEq,List.replicate,c78])|apply a8|((first|apply d7|apply c7|apply a9|apply d8|apply c8|apply b8)<;>intro _))
 refine x9 (fun m fr st=>m=0∧fr= [(0,.sc (.slice none 0 0)),(2,iN 0),(3,iN (-1))]∧st=⟨H,nx,0⟩) 0 ?_ ⟨_,_,.refl _ _,rfl,rfl,rfl⟩ ?_
 ·rw[hC',n7];unfold C7;omega
 rintro m fr st ⟨rfl,rfl,rfl⟩
 repeat' (first|(simp (disch:=try exact m8) only[WA,b9,d9,Nat.reduceEqDiff,Nat.reduceLT,Nat.reduceAdd,Nat.reduceBEq,Int.reduceAdd,Int.reduceSub,Int.reduceLT,Int.reduceLE,Int.reduceEq,Int.reduceNeg,↓reduceIte,reduceCtorEq,List.replicate,JI])|apply a8|((first|apply d7|apply c7|apply a9|apply d8|apply c8|apply b8)<;>intro _))
 exact .refl _ _
theorem jI (s k:Nat) (hs:s ≠ 1) (hk:k=1∨k=2∨k=0) (zi:Int) (R:List (Bool × List o8)) (hR:R.length≤140737488351232) (hK:T1 R):r9 (EN w (n+11)) 30 [T6 s k (zi,R)] (jfV (L7 (zi,R))) ⟨[],0,0⟩:=by
 have hrl:=D1 k R
 have hck:=pG w (n+1) s k hs zi R hR hK
 have hpl:=bI9 w (n+6) s k zi R hR hK
 unfold L7
 refine T0 rfl rfl (fun _ _=>rfl) (Nat.le_of_ble_eq_true rfl) (o7 w) qI rfl fun C hC h0=>?_
 by_cases e1:O4 (zi,R)=0
 case neg=>
  rw[if_pos e1]
  generalize O4 (zi,R)=E at*
  repeat' (first|(simp (disch:=try exact m8) only[WA,b9,d9,Nat.reduceEqDiff,Nat.reduceLT,Nat.reduceAdd,Nat.reduceBEq,Int.reduceAdd,Int.reduceSub,Int.reduceLT,Int.reduceLE,Int.reduceEq,Int.reduceNeg,↓reduceIte,reduceCtorEq,List.replicate,c30])|apply a8|((first|apply d7|apply c7|apply a9|apply d8|apply c8|apply b8)<;>intro _))
  refine g9 (by rw[hC];exact hck.flat rfl rfl) ?_
  repeat' (first|(simp (disch:=try exact m8) only[WA,b9,d9,Nat.reduceEqDiff,Nat.reduceLT,Nat.reduceAdd,Nat.reduceBEq,Int.reduceAdd,Int.reduceSub,Int.reduceLT,Int.reduceLE,Int.reduceEq,Int.reduceNeg,↓reduceIte,reduceCtorEq,List.replicate,e1])|apply a8|((first|apply d7|apply c7|apply a9|apply d8|apply c8|apply b8)<;>intro _))
  exact bY h0 rfl
 rw[if_neg (fun h=>h e1)]
 rw[e1] at hck
 by_cases e2:nZ (zi,R)=true
 case neg=>
  rw[if_neg e2]
  rw[Bool.not_eq_true] at e2
  rw[e2] at hpl
  repeat' (first|(simp (disch:=try exact m8) only[WA,b9,d9,Nat.reduceEqDiff,Nat.reduceLT,Nat.reduceAdd,Nat.reduceBEq,Int.reduceAdd,Int.reduceSub,Int.reduceLT,Int.reduceLE,Int.reduceEq,Int.reduceNeg,↓reduceIte,reduceCtorEq,List.replicate,c30])|apply a8|((first|apply d7|apply c7|apply a9|apply d8|apply c8|apply b8)<;>intro _))
  refine g9 (by rw[hC];exact hck.flat rfl rfl) ?_
  repeat' (first|(simp (disch:=try exact m8) only[WA,b9,d9,Nat.reduceEqDiff,Nat.reduceLT,Nat.reduceAdd,Nat.reduceBEq,Int.reduceAdd,Int.reduceSub,Int.reduceLT,Int.reduceLE,Int.reduceEq,Int.reduceNeg,↓reduceIte,reduceCtorEq,List.replicate])|apply a8|((first|apply d7|apply c7|apply a9|apply d8|apply c8|apply b8)<;>intro _))
  refine g9 (by rw[hC];exact hpl.flat rfl rfl) ?_
  repeat' (first|(simp (disch:=try exact m8) only[WA,b9,d9,Nat.reduceEqDiff,Nat.reduceLT,Nat.reduceAdd,Nat.reduceBEq,Int.reduceAdd,Int.reduceSub,Int.reduceLT,Int.reduceLE,Int.reduceEq,Int.reduceNeg,↓reduceIte,reduceCtorEq,List.replicate])|apply a8|((first|apply d7|apply c7|apply a9|apply d8|apply c8|apply b8)<;>intro _))
  exact bY h0 rfl
 rw[if_pos e2]
 rw[e2] at hpl
 have hz0:=L6 e1
 simp only at hz0
 obtain ⟨z,rfl⟩:∃ z:Nat,zi=z:=⟨zi.toNat,by omega⟩
 have hpz:P6 R=true∧z≤101:=by
  unfold nZ at e2
  simp only[Bool.and_eq_true,decide_eq_true_eq] at e2
  exact ⟨e2.1,by omega⟩
 simp only[Int.toNat_natCast]
 have h1:=aP8
 by_cases hz:z=0
 ·subst hz
  have hem:∀ i,i<R.length→R[i]!.2= []:=fun i hi=>List.eq_nil_of_length_eq_zero (xF e1 hpz.1 hi)
  have hcl:G7 0 R= [in1]:=by
   unfold G7
   rw[show List.replicate 0 false= [] from rfl,qP R 0 fun r hr=>by
    obtain ⟨i,hi,rfl⟩:=List.getElem_of_mem hr
    have:=hem i hi
    rwa [getElem!_pos R i hi] at this]
   rfl
  rw[if_neg (by rw[hcl];decide),hcl]
  repeat' (first|(simp (disch:=try exact m8) only[WA,b9,d9,Nat.reduceEqDiff,Nat.reduceLT,Nat.reduceAdd,Nat.reduceBEq,Int.reduceAdd,Int.reduceSub,Int.reduceLT,Int.reduceLE,Int.reduceEq,Int.reduceNeg,↓reduceIte,reduceCtorEq,List.replicate,c30])|apply a8|((first|apply d7|apply c7|apply a9|apply d8|apply c8|apply b8)<;>intro _))
  refine g9 (by rw[hC];exact hck.flat rfl rfl) ?_
  repeat' (first|(simp (disch:=try exact m8) only[WA,b9,d9,Nat.reduceEqDiff,Nat.reduceLT,Nat.reduceAdd,Nat.reduceBEq,Int.reduceAdd,Int.reduceSub,Int.reduceLT,Int.reduceLE,Int.reduceEq,Int.reduceNeg,↓reduceIte,reduceCtorEq,List.replicate])|apply a8|((first|apply d7|apply c7|apply a9|apply d8|apply c8|apply b8)<;>intro _))
  refine g9 (by rw[hC];exact hpl.flat rfl rfl) ?_
  repeat' (first|(simp (disch:=try exact m8) only[WA,b9,d9,Nat.reduceEqDiff,Nat.reduceLT,Nat.reduceAdd,Nat.reduceBEq,Int.reduceAdd,Int.reduceSub,Int.reduceLT,Int.reduceLE,Int.reduceEq,Int.reduceNeg,↓reduceIte,reduceCtorEq,List.replicate,E0])|apply a8|((first|apply d7|apply c7|apply a9|apply d8|apply c8|apply b8)<;>intro _))
  refine x9 (fun m fr st=>m=0∧fr= [(1,.ptr 0 0),(5,.ref 1 0 1 1),(27,iN 0),(28,iN 0)]∧st=⟨[(1,.row 54 7 false false (B9 [in1])),(0,zA 0 s k R)],2,0⟩) 0 ?_ ⟨_,_,.refl _ _,rfl,rfl,rfl⟩ ?_
  ·rw[hC,n7];unfold C7;omega
  rintro m fr st ⟨rfl,rfl,rfl⟩
  repeat' (first|(simp (disch:=try exact m8) only[WA,b9,d9,Nat.reduceEqDiff,Nat.reduceLT,Nat.reduceAdd,Nat.reduceBEq,Int.reduceAdd,Int.reduceSub,Int.reduceLT,Int.reduceLE,Int.reduceEq,Int.reduceNeg,↓reduceIte,reduceCtorEq,List.replicate,uF])|apply a8|((first|apply d7|apply c7|apply a9|apply d8|apply c8|apply b8)<;>intro _))
  refine x9 (fun m fr st=>∃ i:Nat,m=R.length - i∧i≤R.length∧fr= [(1,.ptr 0 0),(5,.ref 1 0 1 1),(7,.ref 2 0 0 0),(42,iN R.length),(43,iN i)]∧st=⟨[(2,.row 5 1 false false []),(1,.row 54 7 false false (B9 [in1])),(0,zA 0 s k R)],3,0⟩) R.length ?_ ⟨_,_,.refl _ _,0,by omega,Nat.zero_le _,rfl,rfl⟩ ?_
  ·rw[hC,n7];unfold C7;omega
  rintro m fr st ⟨i,rfl,hi,rfl,rfl⟩
  by_cases hlt:i<R.length
  case neg=>
   repeat' (first|(simp (disch:=try exact m8) only[WA,b9,d9,Nat.reduceEqDiff,Nat.reduceLT,Nat.reduceAdd,Nat.reduceBEq,Int.reduceAdd,Int.reduceSub,Int.reduceLT,Int.reduceLE,Int.reduceEq,Int.reduceNeg,↓reduceIte,reduceCtorEq,List.replicate,uE])|apply a8|((first|apply d7|apply c7|apply a9|apply d8|apply c8|apply b8)<;>intro _))
   all_goals try (exfalso;omega)
   exact yR (SG rfl rfl) rfl (.inl (by decide)) h0 rfl
  have hfc:=RC w n s k hs 0 R hK i hlt (by omega) e1
  have hsn:u6 R[i]! = []:=List.eq_nil_of_length_eq_zero (by rw[R0,hem i hlt];rfl)
  rw[hsn] at hfc
  repeat' (first|(simp (disch:=try exact m8) only[WA,b9,d9,Nat.reduceEqDiff,Nat.reduceLT,Nat.reduceAdd,Nat.reduceBEq,Int.reduceAdd,Int.reduceSub,Int.reduceLT,Int.reduceLE,Int.reduceEq,Int.reduceNeg,↓reduceIte,reduceCtorEq,List.replicate,uE])|apply a8|((first|apply d7|apply c7|apply a9|apply d8|apply c8|apply b8)<;>intro _))
  all_goals try (exfalso;omega)
  refine D9 (by rw[hC];exact hfc) rfl rfl (fun _=>rfl) ?_
  repeat' (first|(simp (disch:=try exact m8) only[WA,b9,d9,Nat.reduceEqDiff,Nat.reduceLT,Nat.reduceAdd,Nat.reduceBEq,Int.reduceAdd,Int.reduceSub,Int.reduceLT,Int.reduceLE,Int.reduceEq,Int.reduceNeg,↓reduceIte,reduceCtorEq,List.replicate])|apply a8|((first|apply d7|apply c7|apply a9|apply d8|apply c8|apply b8)<;>intro _))
  refine x9 (fun m fr st=>m=0∧fr= [(1,.ptr 0 0),(5,.ref 1 0 1 1),(7,.ref 2 0 0 0),(8,iN i),(11,.sc (.slice none 0 0)),(42,iN R.length),(43,iN i),(52,tS 3 []),(53,iN 0),(54,iN 0)]∧st=⟨[(2,.row 5 1 false false []),(1,.row 54 7 false false (B9 [in1])),(0,zA 0 s k R)],3,0⟩) 0 ?_ ⟨_,_,.refl _ _,rfl,rfl,rfl⟩ ?_
  ·rw[hC,n7];unfold C7;omega
  rintro m fr st ⟨rfl,rfl,rfl⟩
  have hR1:=(L6 e1).1
  simp only at hR1
  rcases Nat.mod_two_eq_zero_or_one i with h2|h2
  ·have hbn:=oX i (by omega) 0 (by rw[h2];rfl)
   repeat' (first|(simp (disch:=try exact m8) only[WA,b9,d9,Nat.reduceEqDiff,Nat.reduceLT,Nat.reduceAdd,Nat.reduceBEq,Int.reduceAdd,Int.reduceSub,Int.reduceLT,Int.reduceLE,Int.reduceEq,Int.reduceNeg,↓reduceIte,reduceCtorEq,List.replicate,R8,hbn])|apply a8|((first|apply d7|apply c7|apply a9|apply d8|apply c8|apply b8)<;>intro _))
   refine RY w (n+9) hC _ _ ?_
   repeat' (first|(simp (disch:=try exact m8) only[WA,b9,d9,Nat.reduceEqDiff,Nat.reduceLT,Nat.reduceAdd,Nat.reduceBEq,Int.reduceAdd,Int.reduceSub,Int.reduceLT,Int.reduceLE,Int.reduceEq,Int.reduceNeg,↓reduceIte,reduceCtorEq,List.replicate])|apply a8|((first|apply d7|apply c7|apply a9|apply d8|apply c8|apply b8)<;>intro _))
   all_goals try (exfalso;omega)
   exact ⟨R.length - (i+1),_,_,by omega,.refl _ _,i+1,rfl,by omega,rfl,rfl⟩
  ·have hbn:=oX i (by omega) 1 (by rw[h2];rfl)
   repeat' (first|(simp (disch:=try exact m8) only[WA,b9,d9,Nat.reduceEqDiff,Nat.reduceLT,Nat.reduceAdd,Nat.reduceBEq,Int.reduceAdd,Int.reduceSub,Int.reduceLT,Int.reduceLE,Int.reduceEq,Int.reduceNeg,↓reduceIte,reduceCtorEq,List.replicate,R8,hbn])|apply a8|((first|apply d7|apply c7|apply a9|apply d8|apply c8|apply b8)<;>intro _))
   all_goals try (exfalso;omega)
   exact ⟨R.length - (i+1),_,_,by omega,.refl _ _,i+1,rfl,by omega,rfl,rfl⟩
 ·have hmk:=fun nx t=>eF nx t 1 (.int .u8 0) rfl .i64 .i64 (z:Int) (z:Int) (by omega) (by omega) (by omega) (by omega)
  rw[Int.toNat_natCast,aE4] at hmk
  have hlc:=x8 (G7 z R)
  repeat' (first|(simp (disch:=try exact m8) only[WA,b9,d9,Nat.reduceEqDiff,Nat.reduceLT,Nat.reduceAdd,Nat.reduceBEq,Int.reduceAdd,Int.reduceSub,Int.reduceLT,Int.reduceLE,Int.reduceEq,Int.reduceNeg,↓reduceIte,reduceCtorEq,List.replicate,c30])|apply a8|((first|apply d7|apply c7|apply a9|apply d8|apply c8|apply b8)<;>intro _))
  refine g9 (by rw[hC];exact hck.flat rfl rfl) ?_
  repeat' (first|(simp (disch:=try exact m8) only[WA,b9,d9,Nat.reduceEqDiff,Nat.reduceLT,Nat.reduceAdd,Nat.reduceBEq,Int.reduceAdd,Int.reduceSub,Int.reduceLT,Int.reduceLE,Int.reduceEq,Int.reduceNeg,↓reduceIte,reduceCtorEq,List.replicate])|apply a8|((first|apply d7|apply c7|apply a9|apply d8|apply c8|apply b8)<;>intro _))
  refine g9 (by rw[hC];exact hpl.flat rfl rfl) ?_
  repeat' (first|(simp (disch:=try exact m8) only[WA,b9,d9,Nat.reduceEqDiff,Nat.reduceLT,Nat.reduceAdd,Nat.reduceBEq,Int.reduceAdd,Int.reduceSub,Int.reduceLT,Int.reduceLE,Int.reduceEq,Int.reduceNeg,↓reduceIte,reduceCtorEq,List.replicate,E0])|apply a8|((first|apply d7|apply c7|apply a9|apply d8|apply c8|apply b8)<;>intro _))
  refine aJ3 w (n+9) hC h0 z (by omega) (by omega) s k R ?_
  repeat' (first|(simp (disch:=try exact m8) only[WA,b9,d9,Nat.reduceEqDiff,Nat.reduceLT,Nat.reduceAdd,Nat.reduceBEq,Int.reduceAdd,Int.reduceSub,Int.reduceLT,Int.reduceLE,Int.reduceEq,Int.reduceNeg,↓reduceIte,reduceCtorEq,List.replicate,hmk])|apply a8|((first|apply d7|apply c7|apply a9|apply d8|apply c8|apply b8)<;>intro _))
  refine aJ4 w n hC h0 z (by omega) hpz.2 s k hs R hK e1 hpz.1 fun B=>?_
  by_cases hb:2000<(G7 z R).length
  ·rw[if_pos hb]
   repeat' (first|(simp (disch:=try exact m8) only[WA,b9,d9,Nat.reduceEqDiff,Nat.reduceLT,Nat.reduceAdd,Nat.reduceBEq,Int.reduceAdd,Int.reduceSub,Int.reduceLT,Int.reduceLE,Int.reduceEq,Int.reduceNeg,↓reduceIte,reduceCtorEq,List.replicate])|apply a8|((first|apply d7|apply c7|apply a9|apply d8|apply c8|apply b8)<;>intro _))
   all_goals try (exfalso;omega)
   exact bY h0 rfl
  ·rw[if_neg hb]
   repeat' (first|(simp (disch:=try exact m8) only[WA,b9,d9,Nat.reduceEqDiff,Nat.reduceLT,Nat.reduceAdd,Nat.reduceBEq,Int.reduceAdd,Int.reduceSub,Int.reduceLT,Int.reduceLE,Int.reduceEq,Int.reduceNeg,↓reduceIte,reduceCtorEq,List.replicate])|apply a8|((first|apply d7|apply c7|apply a9|apply d8|apply c8|apply b8)<;>intro _))
   all_goals try (exfalso;omega)
   exact yR (OA rfl hlc) rfl (.inl (by decide)) h0 rfl
end
theorem aB6 {L:List B1} {m:Nat} (h:m<L.length):L.take (m+1)=L.take m++ [L[m]!]:=by rw[List.take_succ_eq_append_getElem h,getElem!_pos L m h]
section
variable (w:World) (n:Nat)
end
theorem wr1:IntKind.u8.wrap 1=1:=rfl
section
variable (w:World) (n:Nat)
end
def eZ (i:B1):o8:=if i.op=5 then ⟨8,false,0,0⟩ else ⟨1,decide (i.bed=1),0,0⟩
def okI (n:Nat) (i:B1):Bool:=decide (0≤i.pos) && decide (i.pos<n)
def knR (i:B1):Bool:=decide (i.op=3) && i.right
def rZ (i:B1):Bool:=decide (i.op=7)
def P9 (n:Nat) (A:List B1):List o8:=A.foldl (fun r i=>r.set i.pos.toNat (eZ i)) (List.replicate n iS)
def nxt (n:Nat) (rest:List B1):Option (List o8 × List B1):=
 if (rest.dropWhile rZ).length<n then none else if ((rest.dropWhile rZ).take n).all (okI n)=true then some (P9 n ((rest.dropWhile rZ).take n),(rest.dropWhile rZ).drop n) else none
def QA (n:Nat):Nat→List B1→List (Bool × List o8)→Option (List (Bool × List o8))
 |0,_,acc=>some acc
 |f+1,rest,acc=>if rest= [] then some acc else match nxt n rest with
  |none=>none
  |some p=>QA n f p.2 (acc++ [(false,p.1)])
def kO (l:List B1):Nat:=((l.drop 1).takeWhile knR).length
def U4 (l:List B1):Option (List (Bool × List o8)):=if kO l=0 then some [] else QA (kO l) l.length (l.drop (1+kO l)) []
noncomputable def Y2 (l:List B1):PW × Int:=if 2000<l.length then ((0,[]),4) else match U4 l with
 |none=>((0,[]),12)
 |some R=>if L7 ((kO l:Int),R)=(l,0) then (((kO l:Int),R),0) else ((0,[]),12)
abbrev WO (p:PW × Int):V:= .tup [.agg [iN p.1.1,.sl 3 p.1.2.length (G3 0 p.1.2)],iN p.2]
theorem WM (n f:Nat) (acc:List (Bool × List o8)):QA n f [] acc=some acc:=by cases f<;>simp[QA]
theorem NA {n f:Nat} {rest:List B1} {acc:List (Bool × List o8)} (h:rest ≠ []) (hf:rest.length≤f) (hn:nxt n rest=none):QA n f rest acc=none:=by
 obtain ⟨g,rfl⟩:∃ g,f=g+1:=⟨f - 1,by have:=List.length_pos_iff.2 h;omega⟩
 simp only[QA,hn]
 rw[if_neg h]
theorem ND {n f:Nat} {rest:List B1} {acc:List (Bool × List o8)} {p:List o8 × List B1} (h:rest ≠ []) (hf:rest.length≤f) (hn:nxt n rest=some p):∃ g,f=g+1∧QA n f rest acc=QA n g p.2 (acc++ [(false,p.1)]):=by
 obtain ⟨g,rfl⟩:∃ g,f=g+1:=⟨f - 1,by have:=List.length_pos_iff.2 h;omega⟩
 refine ⟨g,rfl,?_⟩
 simp only[QA,hn]
 rw[if_neg h]
theorem aW (n:Nat) (A:List B1):(P9 n A).length=n:=by
 unfold P9
 have:∀ (A:List B1) (r:List o8),(A.foldl (fun r i=>r.set i.pos.toNat (eZ i)) r).length=r.length:=by
  intro A
  induction A with
  |nil=>intro r;rfl
  |cons x A ih=>intro r;rw[List.foldl_cons,ih,List.length_set]
 rw[this];simp
theorem ZY (n:Nat) (A:List B1) (x:B1):P9 n (A++ [x])=(P9 n A).set x.pos.toNat (eZ x):=by simp[P9]
theorem QQ (i:B1):(eZ i).kind<256:=by
 unfold eZ
 split
 ·show (8:Nat)<256;decide
 ·show (1:Nat)<256;decide
theorem aW9 (n:Nat) (A:List B1):zQ (P9 n A):=by
 unfold P9
 have:∀ (A:List B1) (r:List o8),zQ r→zQ (A.foldl (fun r i=>r.set i.pos.toNat (eZ i)) r):=by
  intro A
  induction A with
  |nil=>intro r h;exact h
  |cons x A ih=>
   intro r h
   rw[List.foldl_cons]
   refine ih _ fun y hy=>?_
   rcases List.mem_or_eq_of_mem_set hy with h1|rfl
   ·exact h y h1
   ·exact QQ x
 exact this A _ fun y hy=>by rw[List.eq_of_mem_replicate hy];decide
theorem aB2 (M:List o8) (k:Nat) (hk:k≤M.length):(s5 M).take (k*4)=s5 (M.take k):=by
 have h:s5 M=s5 (M.take k)++s5 (M.drop k):=by rw[← aY,List.take_append_drop]
 rw[h,List.take_left' (by rw[v3,List.length_take];congr 1;omega)]
theorem aB0 (M:List o8) (k:Nat) (hk:k≤M.length):(s5 M).drop (k*4)=s5 (M.drop k):=by
 have h:s5 M=s5 (M.take k)++s5 (M.drop k):=by rw[← aY,List.take_append_drop]
 rw[h,List.drop_left' (by rw[v3,List.length_take];congr 1;omega)]
theorem aY8 (M:List o8) (k:Nat) (x:o8) (hk:k<M.length):(s5 M).take (k*4)++ [.sc (.int .u8 x.kind),.sc (.bool x.purl),.sc (.int .i64 x.a),.sc (.int .i64 x.b)]++(s5 M).drop (k*4+4)=s5 (M.set k x):=by
 rw[aB2 M k (by omega),show k*4+4=(k+1)*4 by omega,aB0 M (k+1) (by omega),← DJ,← aY,List.set_eq_take_append_cons_drop,if_pos hk]
 congr 1
 simp
theorem xR (st:n5) (o k t:Nat) (g:Bool) (l:List D) (a b c d:Value) (hro:st.ro≤o) (hk:k+4≤l.length):
  SI st 4 o k (.agg [.sc a,.sc b,.sc c,.sc d]) (some (.row t 4 g false l))=some (.tup [],⟨B8 st.own o (.row t 4 g false (l.take k++ [.sc a,.sc b,.sc c,.sc d]++l.drop (k+4))),st.next,st.ro⟩):=by
 have hv:J4 (.agg [.sc a,.sc b,.sc c,.sc d])=some [.sc a,.sc b,.sc c,.sc d]:=rfl
 simp only[SI,hv,Option.bind_some]
 rw[if_pos (show Nat.beq _ 4=true from rfl),if_neg (by simp only[Bool.not_eq_true,yZ];exact hro)]
 simp only[jL,sT,List.append_nil,n4,A4,Bool.not_true,Bool.or_false]
 rw[if_neg (by simp)]
 simp only[X2,bA,Option.bind_some,Option.map_some]
 rw[aU _ _ _ (by simpa using hk),r8]
 rfl
theorem NY {H:D5} {o t n:Nat} {z:Bool} {l:List D} (h:k8 H o=some (.gro t 2 z l)) (hl:l.length=n*2):A7 H (.gr 2 o n)=some (.sl 2 n l):=by
 simp only[A7,bA,h]
 rw[if_pos ⟨hl,by decide,by decide,by decide⟩]
 rfl
theorem RZ (k:Nat) (R:List (Bool × List o8)) (b:Bool) (L:List o8):G3 k (R++ [(b,L)])=G3 k R++ [.sc (.bool b),.sl k L.length (s5 L)]:=by simp[G3,zN]
theorem aW6 (nx t o:Nat) (n c:Nat) (b:Value):P5 nx t 2 1 [.bool false,.slice none 0 0] [(0,2,.agg [.sc b,.ref o 0 n c])]=some (.ref nx 0 1 1,some (.box t 2 [.sc b,.ref o 0 n c]),[]):=(rfl)
theorem aY5 {H:D5} {o n c t e t':Nat} {b:Value} {g z:Bool} {l:List D} (h:k8 H o=some (.row t' 4 g z l)) (hl:l.length=n*4):cZ H 2 0 1 (some (.box t e [.sc b,.ref o 0 n c]))=some (1,[.sc b,.sl 0 n l],[o]):=by
 have e1:bA H (.ref o 0 n c)=some (.sl 0 n l):=by
  simp only[bA,h,Nat.zero_add,List.drop_zero]
  rw[if_pos (by omega),List.take_of_length_le (by omega)]
 simp only[cZ]
 rw[if_pos (by simp)]
 simp only[List.drop_zero,Nat.one_mul,List.take_succ_cons,List.take_zero,X2,SK,e1,Option.bind_some,Option.map_some]
 rfl
theorem aA1 (R:List (Bool × List o8)):M2 (G3 0 R)=true:=by
 simp only[M2,List.all_eq_true]
 intro d hd
 simp only[G3,zN,List.mem_flatMap] at hd
 obtain ⟨x,_,hc⟩:=hd
 simp at hc
 rcases hc with rfl|rfl<;>rfl
theorem WY {L:List B1} {k:Nat} (hk:k<L.length) (p:B1→Bool) (h:p L[k]! =true):(L.drop k).dropWhile p=(L.drop (k+1)).dropWhile p∧((L.drop k).takeWhile p).length=((L.drop (k+1)).takeWhile p).length+1:=by
 have e:L.drop k=L[k]! ::L.drop (k+1):=by rw[List.drop_eq_getElem_cons hk,getElem!_pos L k hk]
 rw[e,List.dropWhile_cons,List.takeWhile_cons,h]
 exact ⟨rfl,rfl⟩
theorem WZ {L:List B1} {k:Nat} (hk:k<L.length) (p:B1→Bool) (h:p L[k]! =false):(L.drop k).dropWhile p=L.drop k∧((L.drop k).takeWhile p).length=0:=by
 have e:L.drop k=L[k]! ::L.drop (k+1):=by rw[List.drop_eq_getElem_cons hk,getElem!_pos L k hk]
 rw[e,List.dropWhile_cons,List.takeWhile_cons,h]
 exact ⟨rfl,rfl⟩
theorem aZ6 {L:List B1} {k:Nat} (hk:L.length≤k) (p:B1→Bool):(L.drop k).dropWhile p=L.drop k∧((L.drop k).takeWhile p).length=0:=by
 rw[List.drop_eq_nil_of_le hk]
 exact ⟨rfl,rfl⟩
theorem GN (L:List B1) (k i:Nat) (hk:k<L.length) (hi:i<7):C9 (B9 L) (k*7+i) none=(kN L[k]!)[i]?.map V.sc:=by
 have:=bL (fun a:B1=>(kN a).map D.sc) 7 L (fun _=>rfl) k i hk hi
 unfold B9
 rw[this]
 rcases (by omega:i=0∨i=1∨i=2∨i=3∨i=4∨i=5∨i=6) with rfl|rfl|rfl|rfl|rfl|rfl|rfl<;>rfl
abbrev oD:Itp.Obj:= .box 24 1 [iN 0,.sc (.slice none 0 0)]
abbrev sJ (R:List (Bool × List o8)):Itp.Obj:= .gro 80 2 false (G3 0 R)
abbrev bL3 (L:List o8):Itp.Obj:= .row 82 4 false false (s5 L)
theorem jQ:sB 3=3:=rfl
section
variable (w:World) (n:Nat)
theorem bJ3 {C:B7} (hC:C.E=EN w (n+1)) (h0:C.w0.nx=0) (L:List B1) (z:Nat) (st:n5) (rest:List B1) (hl:rest.length≤100000) {K:List KF} {P:z9}
  (hgo:∀ v65,gK C K (.exit 4) [(0,jS 3 L),(2,.ptr 0 0),(4,.ptr 1 0),(5,jS 3 (rest.dropWhile rZ)),(6,.ref 3 0 z z),(65,v65)] st P):
  gL C [0,2,4,5,6] uB K [(0,jS 3 L),(2,.ptr 0 0),(4,.ptr 1 0),(5,jS 3 rest),(6,.ref 3 0 z z)] st P:=by
 have hrn:C.E.rounds=C7:=by rw[hC,n7]
 refine x9 (fun m fr s=>∃ k:Nat,m=rest.length - k∧k≤rest.length∧(rest.drop k).dropWhile rZ=rest.dropWhile rZ∧fr= [(0,jS 3 L),(2,.ptr 0 0),(4,.ptr 1 0),(5,jS 3 (rest.drop k)),(6,.ref 3 0 z z)]∧s=st) rest.length ?_ ⟨_,_,.refl _ _,0,by omega,Nat.zero_le _,rfl,rfl,rfl⟩ ?_
 ·rw[hrn];unfold C7;omega
 rintro m fr s ⟨k,rfl,hk,hinv,rfl,rfl⟩
 by_cases hlt:k<rest.length
 case neg=>
  have e:=(aZ6 (L:=rest) (k:=k) (by omega) rZ).1
  rw[hinv] at e
  rw[← e]
  have hd:(rest.dropWhile rZ).length=0:=by rw[e,List.length_drop];omega
  generalize rest.dropWhile rZ=T at*
  obtain rfl:=List.eq_nil_of_length_eq_zero hd
  repeat' (first|(simp (disch:=try exact m8) only[WA,b9,d9,Nat.reduceEqDiff,Nat.reduceLT,Nat.reduceAdd,Nat.reduceBEq,Int.reduceAdd,Int.reduceSub,Int.reduceLT,Int.reduceLE,Int.reduceEq,Int.reduceNeg,↓reduceIte,reduceCtorEq,List.replicate,uB])|apply a8|((first|apply d7|apply c7|apply a9|apply d8|apply c8|apply b8)<;>intro _))
  exact hgo _
 have hdl:(rest.drop k).length=rest.length - k:=List.length_drop
 have hil:=x8 (rest.drop k)
 have a0:=GN (rest.drop k) 0 0 (by rw[hdl];omega) (by decide)
 have hg0:(rest.drop k)[0]! =rest[k]! :=TG rest k 0 (by omega)
 rw[hg0] at a0
 have hpb:=eG (rest.drop k) 1 (by rw[hdl];omega)
 rw[List.drop_drop,hdl] at hpb
 have hdl1:(rest.drop (k+1)).length=rest.length - k - 1:=by rw[List.length_drop];omega
 rw[hdl] at hil
 by_cases h7:rest[k]!.op=7
 ·have hs:=(WY hlt rZ (decide_eq_true h7)).1
  generalize rest[k]! =x at*
  obtain ⟨xo,xr,xb,xp,xt,xc,xk⟩:=x
  simp only[kN,Nat.zero_mul,Nat.zero_add,List.getElem?_cons_zero,Option.map_some] at a0
  simp only at h7
  subst h7
  unfold jS
  rw[hdl]
  repeat' (first|(simp (disch:=try exact m8) only[WA,b9,d9,Nat.reduceEqDiff,Nat.reduceLT,Nat.reduceAdd,Nat.reduceBEq,Int.reduceAdd,Int.reduceSub,Int.reduceLT,Int.reduceLE,Int.reduceEq,Int.reduceNeg,↓reduceIte,reduceCtorEq,List.replicate,uB,tn0,a0,hpb,Nat.zero_mul,Nat.zero_add,Nat.one_mul,jQ,tn1])|apply a8|((first|apply d7|apply c7|apply a9|apply d8|apply c8|apply b8)<;>intro _))
  all_goals try (exfalso;omega)
  exact ⟨rest.length - (k+1),_,_,by omega,.refl _ _,k+1,rfl,by omega,by rw[← hs];exact hinv,by rw[hdl1],rfl⟩
 ·have hs:=(WZ hlt rZ (decide_eq_false h7)).1
  rw[hinv] at hs
  rw[hs] at hgo
  generalize rest[k]! =x at*
  obtain ⟨xo,xr,xb,xp,xt,xc,xk⟩:=x
  simp only[kN,Nat.zero_mul,Nat.zero_add,List.getElem?_cons_zero,Option.map_some] at a0
  simp only at h7
  have h7':((xo:Nat):Int) ≠ 7:=by omega
  unfold jS at hgo ⊢
  rw[hdl] at hgo ⊢
  repeat' (first|(simp (disch:=try exact m8) only[WA,b9,d9,Nat.reduceEqDiff,Nat.reduceLT,Nat.reduceAdd,Nat.reduceBEq,Int.reduceAdd,Int.reduceSub,Int.reduceLT,Int.reduceLE,Int.reduceEq,Int.reduceNeg,↓reduceIte,reduceCtorEq,List.replicate,uB,tn0,a0,Nat.zero_mul,Nat.zero_add])|apply a8|((first|apply d7|apply c7|apply a9|apply d8|apply c8|apply b8)<;>intro _))
  all_goals try (exfalso;omega)
  exact hgo _
theorem cE1 {C:B7} (hC:C.E=EN w (n+1)) (h0:C.w0.nx=0) (L:List B1) (z:Nat) (hz:z≤2000) (rest A:List B1) (hA:A.length=z) (rows:List (Bool × List o8)) {K:List KF} {P:z9}
  (hbad:¬ A.all (okI z)=true→∀ st,k8 st.own 0=some oD→st.ro=0→gK C K .ret [(2,.ptr 0 0),(3,iN 12)] st P)
  (hgo:A.all (okI z)=true→∀ v80,gK C K (.exit 6) [(0,jS 3 L),(2,.ptr 0 0),(4,.ptr 1 0),(5,jS 3 rest),(6,.ref 3 0 z z),(77,jS 3 A),(78,iN z),(79,iN z),(80,v80)] ⟨[(3,bL3 (P9 z A)),(2,sJ rows),(1,.box 24 1 [iN z,.gr 2 2 rows.length]),(0,oD)],4,0⟩ P):
  gL C [0,2,4,5,6,77,78,79] kT K [(0,jS 3 L),(2,.ptr 0 0),(4,.ptr 1 0),(5,jS 3 rest),(6,.ref 3 0 z z),(77,jS 3 A),(78,iN z),(79,iN 0)] ⟨[(3,bL3 (P9 z [])),(2,sJ rows),(1,.box 24 1 [iN z,.gr 2 2 rows.length]),(0,oD)],4,0⟩ P:=by
 have hrn:C.E.rounds=C7:=by rw[hC,n7]
 have hil:=x8 A
 refine x9 (fun m fr s=>∃ k:Nat,m=z - k∧k≤z∧(A.take k).all (okI z)=true∧fr= [(0,jS 3 L),(2,.ptr 0 0),(4,.ptr 1 0),(5,jS 3 rest),(6,.ref 3 0 z z),(77,jS 3 A),(78,iN z),(79,iN k)]∧s=⟨[(3,bL3 (P9 z (A.take k))),(2,sJ rows),(1,.box 24 1 [iN z,.gr 2 2 rows.length]),(0,oD)],4,0⟩) z ?_ ⟨_,_,.refl _ _,0,by omega,Nat.zero_le _,rfl,rfl,rfl⟩ ?_
 ·rw[hrn];unfold C7;omega
 rintro m fr s ⟨k,rfl,hk,hall,rfl,rfl⟩
 by_cases hlt:k<A.length
 case neg=>
  have:k=z:=by omega
  subst this
  rw[List.take_of_length_le (by omega)] at hall ⊢
  have hgo:=hgo hall
  repeat' (first|(simp (disch:=try exact m8) only[WA,b9,d9,Nat.reduceEqDiff,Nat.reduceLT,Nat.reduceAdd,Nat.reduceBEq,Int.reduceAdd,Int.reduceSub,Int.reduceLT,Int.reduceLE,Int.reduceEq,Int.reduceNeg,↓reduceIte,reduceCtorEq,List.replicate,kT])|apply a8|((first|apply d7|apply c7|apply a9|apply d8|apply c8|apply b8)<;>intro _))
  exact hgo _
 have hag:=aO A k hlt
 have hts:=aB6 hlt
 have hrs:=ZY z (A.take k) A[k]!
 rw[← hts] at hrs
 have D4:=aY8 (P9 z (A.take k)) A[k]!.pos.toNat (eZ A[k]!)
 rw[aW] at D4
 have hrl:=v3 (P9 z (A.take k))
 rw[aW] at hrl
 rw[← hrs] at D4
 have hb2:okI z A[k]! =false→¬ A.all (okI z)=true:=fun h=>by rw[aE1 hlt h];decide
 have hn2:okI z A[k]! =true→(A.take (k+1)).all (okI z)=true:=fun h=>aB5 hlt hall h
 unfold okI at hb2 hn2
 generalize A[k]! =x at*
 obtain ⟨xo,xr,xb,xp,xt,xc,xk⟩:=x
 unfold ZE at hag
 simp only[kN,List.map_cons,List.map_nil] at hag
 simp only at D4 hb2 hn2
 by_cases p1:xp<0
 ·have hbad:=hbad (hb2 (by rw[decide_eq_false (by omega)];rfl))
  repeat' (first|(simp (disch:=try exact m8) only[WA,b9,d9,Nat.reduceEqDiff,Nat.reduceLT,Nat.reduceAdd,Nat.reduceBEq,Int.reduceAdd,Int.reduceSub,Int.reduceLT,Int.reduceLE,Int.reduceEq,Int.reduceNeg,↓reduceIte,reduceCtorEq,List.replicate,kT,hag])|apply a8|((first|apply d7|apply c7|apply a9|apply d8|apply c8|apply b8)<;>intro _))
  all_goals try (exfalso;omega)
  exact hbad _ rfl rfl
 by_cases p2:xp<z
 case neg=>
  have hbad:=hbad (hb2 (by rw[decide_eq_false p2];simp))
  repeat' (first|(simp (disch:=try exact m8) only[WA,b9,d9,Nat.reduceEqDiff,Nat.reduceLT,Nat.reduceAdd,Nat.reduceBEq,Int.reduceAdd,Int.reduceSub,Int.reduceLT,Int.reduceLE,Int.reduceEq,Int.reduceNeg,↓reduceIte,reduceCtorEq,List.replicate,kT,hag])|apply a8|((first|apply d7|apply c7|apply a9|apply d8|apply c8|apply b8)<;>intro _))
  all_goals try (exfalso;omega)
  exact hbad _ rfl rfl
 have hall2:=hn2 (by rw[decide_eq_true p2,decide_eq_true (by omega)];rfl)
 obtain ⟨q,rfl⟩:∃ q:Nat,xp=q:=⟨xp.toNat,by omega⟩
 have D4:=D4 (by omega)
 simp only[Int.toNat_natCast] at D4
 clear hgo hbad hb2 hn2
 unfold eZ at D4
 simp only at D4
 by_cases o5:xo=5
 ·subst o5
  rw[if_pos rfl] at D4
  simp only at D4
  have hset':List.take (q*4) (s5 (P9 z (A.take k)))++ [D.sc (.int .u8 8),.sc (.bool false),.sc (.int .i64 0),.sc (.int .i64 0)]++List.drop (q*4+4) (s5 (P9 z (A.take k)))=s5 (P9 z (A.take (k+1))):=D4
  repeat' (first|(simp (disch:=try exact m8) only[WA,b9,d9,Nat.reduceEqDiff,Nat.reduceLT,Nat.reduceAdd,Nat.reduceBEq,Int.reduceAdd,Int.reduceSub,Int.reduceLT,Int.reduceLE,Int.reduceEq,Int.reduceNeg,↓reduceIte,reduceCtorEq,List.replicate,kT,hag,xR,hset'])|apply a8|((first|apply d7|apply c7|apply a9|apply d8|apply c8|apply b8)<;>intro _))
  all_goals try (exfalso;omega)
  exact ⟨z - (k+1),_,_,by omega,s7 [(3,3),(2,2),(1,1),(0,0)] 4 h0 rfl rfl rfl rfl,k+1,rfl,by omega,hall2,rfl,rfl⟩
 have o5':((xo:Nat):Int) ≠ 5:=by omega
 rw[if_neg o5] at D4
 by_cases b1:xb=1
 ·subst b1
  have hset':List.take (q*4) (s5 (P9 z (A.take k)))++ [D.sc (.int .u8 1),.sc (.bool true),.sc (.int .i64 0),.sc (.int .i64 0)]++List.drop (q*4+4) (s5 (P9 z (A.take k)))=s5 (P9 z (A.take (k+1))):=D4
  repeat' (first|(simp (disch:=try exact m8) only[WA,b9,d9,Nat.reduceEqDiff,Nat.reduceLT,Nat.reduceAdd,Nat.reduceBEq,Int.reduceAdd,Int.reduceSub,Int.reduceLT,Int.reduceLE,Int.reduceEq,Int.reduceNeg,↓reduceIte,reduceCtorEq,List.replicate,kT,hag,xR,hset'])|apply a8|((first|apply d7|apply c7|apply a9|apply d8|apply c8|apply b8)<;>intro _))
  all_goals try (exfalso;omega)
  exact ⟨z - (k+1),_,_,by omega,s7 [(3,3),(2,2),(1,1),(0,0)] 4 h0 rfl rfl rfl rfl,k+1,rfl,by omega,hall2,rfl,rfl⟩
 ·have b1':((xb:Nat):Int) ≠ 1:=by omega
  rw[decide_eq_false b1] at D4
  have hset':List.take (q*4) (s5 (P9 z (A.take k)))++ [D.sc (.int .u8 1),.sc (.bool false),.sc (.int .i64 0),.sc (.int .i64 0)]++List.drop (q*4+4) (s5 (P9 z (A.take k)))=s5 (P9 z (A.take (k+1))):=D4
  repeat' (first|(simp (disch:=try exact m8) only[WA,b9,d9,Nat.reduceEqDiff,Nat.reduceLT,Nat.reduceAdd,Nat.reduceBEq,Int.reduceAdd,Int.reduceSub,Int.reduceLT,Int.reduceLE,Int.reduceEq,Int.reduceNeg,↓reduceIte,reduceCtorEq,List.replicate,kT,hag,xR,hset'])|apply a8|((first|apply d7|apply c7|apply a9|apply d8|apply c8|apply b8)<;>intro _))
  all_goals try (exfalso;omega)
  exact ⟨z - (k+1),_,_,by omega,s7 [(3,3),(2,2),(1,1),(0,0)] 4 h0 rfl rfl rfl rfl,k+1,rfl,by omega,hall2,rfl,rfl⟩
theorem cE0 {C:B7} (hC:C.E=EN w (n+1)) (h0:C.w0.nx=0) (L:List B1) (hL:L.length≤2000) {K:List KF} {P:z9}
  (hgo:∀ v36,gK C K (.exit 0) [(0,jS 3 L),(2,.ptr 0 0),(4,.ptr 1 0),(5,jS 3 (L.drop (1+kO L))),(36,v36)] ⟨[(1,.box 24 1 [iN (kO L),.sc (.slice none 0 0)]),(0,oD)],2,0⟩ P):
  gL C [0,2,4,5] uD K [(0,jS 3 L),(2,.ptr 0 0),(4,.ptr 1 0),(5,jS 3 (L.drop 1))] ⟨[(1,.box 24 1 [iN 0,.sc (.slice none 0 0)]),(0,oD)],2,0⟩ P:=by
 have hrn:C.E.rounds=C7:=by rw[hC,n7]
 refine x9 (fun m fr s=>∃ k:Nat,m=L.length - k∧k≤L.length∧kO L=k+((L.drop (1+k)).takeWhile knR).length∧fr= [(0,jS 3 L),(2,.ptr 0 0),(4,.ptr 1 0),(5,jS 3 (L.drop (1+k)))]∧s=⟨[(1,.box 24 1 [iN k,.sc (.slice none 0 0)]),(0,oD)],2,0⟩) L.length ?_ ⟨_,_,.refl _ _,0,by omega,Nat.zero_le _,by unfold kO;rw[Nat.zero_add],rfl,rfl⟩ ?_
 ·rw[hrn];unfold C7;omega
 rintro m fr s ⟨k,rfl,hk,hinv,rfl,rfl⟩
 have hdl:(L.drop (1+k)).length=L.length - (1+k):=List.length_drop
 by_cases hlt:1+k<L.length
 case neg=>
  rw[(aZ6 (L:=L) (k:=1+k) (by omega) knR).2,Nat.add_zero] at hinv
  rw[hinv] at hgo
  have hd:(L.drop (1+k)).length=0:=by omega
  generalize L.drop (1+k)=T at*
  obtain rfl:=List.eq_nil_of_length_eq_zero hd
  repeat' (first|(simp (disch:=try exact m8) only[WA,b9,d9,Nat.reduceEqDiff,Nat.reduceLT,Nat.reduceAdd,Nat.reduceBEq,Int.reduceAdd,Int.reduceSub,Int.reduceLT,Int.reduceLE,Int.reduceEq,Int.reduceNeg,↓reduceIte,reduceCtorEq,List.replicate,uD])|apply a8|((first|apply d7|apply c7|apply a9|apply d8|apply c8|apply b8)<;>intro _))
  exact hgo _
 have hil:=x8 (L.drop (1+k))
 have a0:=GN (L.drop (1+k)) 0 0 (by rw[hdl];omega) (by decide)
 have a1:=GN (L.drop (1+k)) 0 1 (by rw[hdl];omega) (by decide)
 have hg0:(L.drop (1+k))[0]! =L[1+k]! :=TG L (1+k) 0 (by omega)
 rw[hg0] at a0 a1
 have hpb:=eG (L.drop (1+k)) 1 (by rw[hdl];omega)
 rw[List.drop_drop,hdl] at hpb
 have hdl1:(L.drop (1+k+1)).length=L.length - (1+k) - 1:=by rw[List.length_drop];omega
 rw[hdl] at hil
 have hs1:=fun h=>(WY hlt knR h).2
 have hs2:=fun h=>(WZ hlt knR h).2
 have hkn:knR L[1+k]! =(decide (L[1+k]!.op=3) && L[1+k]!.right):=rfl
 rw[hkn] at hs1 hs2
 generalize L[1+k]! =x at*
 obtain ⟨xo,xr,xb,xp,xt,xc,xk⟩:=x
 simp only[kN,Nat.zero_mul,Nat.zero_add,List.getElem?_cons_zero,List.getElem?_cons_succ,Option.map_some] at a0 a1
 simp only at hs1 hs2
 by_cases h3:xo=3
 ·subst h3
  cases xr with
  |true=>
   have hs:=hs1 rfl
   unfold jS
   rw[hdl]
   repeat' (first|(simp (disch:=try exact m8) only[WA,b9,d9,Nat.reduceEqDiff,Nat.reduceLT,Nat.reduceAdd,Nat.reduceBEq,Int.reduceAdd,Int.reduceSub,Int.reduceLT,Int.reduceLE,Int.reduceEq,Int.reduceNeg,↓reduceIte,reduceCtorEq,List.replicate,uD,tn0,a0,a1,hpb,Nat.zero_mul,Nat.zero_add,Nat.one_mul,jQ,tn1])|apply a8|((first|apply d7|apply c7|apply a9|apply d8|apply c8|apply b8)<;>intro _))
   all_goals try (exfalso;omega)
   exact ⟨L.length - (k+1),_,_,by omega,.refl _ _,k+1,rfl,by omega,by rw[hinv,hs,show 1+(k+1)=1+k+1 by omega];omega,by rw[show 1+(k+1)=1+k+1 by omega,hdl1],rfl⟩
  |false=>
   have hs:=hs2 rfl
   rw[hs,Nat.add_zero] at hinv
   rw[hinv] at hgo
   unfold jS at hgo ⊢
   rw[hdl] at hgo ⊢
   repeat' (first|(simp (disch:=try exact m8) only[WA,b9,d9,Nat.reduceEqDiff,Nat.reduceLT,Nat.reduceAdd,Nat.reduceBEq,Int.reduceAdd,Int.reduceSub,Int.reduceLT,Int.reduceLE,Int.reduceEq,Int.reduceNeg,↓reduceIte,reduceCtorEq,List.replicate,uD,tn0,a0,a1,Nat.zero_mul,Nat.zero_add])|apply a8|((first|apply d7|apply c7|apply a9|apply d8|apply c8|apply b8)<;>intro _))
   all_goals try (exfalso;omega)
   exact hgo _
 ·have hs:=hs2 (by rw[decide_eq_false h3];rfl)
  rw[hs,Nat.add_zero] at hinv
  rw[hinv] at hgo
  have h3':((xo:Nat):Int) ≠ 3:=by omega
  unfold jS at hgo ⊢
  rw[hdl] at hgo ⊢
  repeat' (first|(simp (disch:=try exact m8) only[WA,b9,d9,Nat.reduceEqDiff,Nat.reduceLT,Nat.reduceAdd,Nat.reduceBEq,Int.reduceAdd,Int.reduceSub,Int.reduceLT,Int.reduceLE,Int.reduceEq,Int.reduceNeg,↓reduceIte,reduceCtorEq,List.replicate,uD,tn0,a0,a1,Nat.zero_mul,Nat.zero_add])|apply a8|((first|apply d7|apply c7|apply a9|apply d8|apply c8|apply b8)<;>intro _))
  all_goals try (exfalso;omega)
  exact hgo _
end
theorem ZL {z:Nat} {rest:List B1} (h:(rest.dropWhile rZ).length<z):nxt z rest=none:=by unfold nxt;rw[if_pos h]
theorem bH2 {z:Nat} {rest:List B1} (h:¬ ((rest.dropWhile rZ).take z).all (okI z)=true):nxt z rest=none:=by
 unfold nxt
 rw[if_neg h]
 split<;>rfl
theorem cC3 {z:Nat} {rest:List B1} (h1:¬ (rest.dropWhile rZ).length<z) (h:((rest.dropWhile rZ).take z).all (okI z)=true):nxt z rest=some (P9 z ((rest.dropWhile rZ).take z),(rest.dropWhile rZ).drop z):=by unfold nxt;rw[if_neg h1,if_pos h]
theorem cA6 (rest:List B1):(rest.dropWhile rZ).length≤rest.length:=by
 induction rest with
 |nil=>exact Nat.le_refl _
 |cons x r ih=>
  rw[List.dropWhile_cons]
  split
  ·exact Nat.le_trans ih (by simp)
  ·exact Nat.le_refl _
theorem XQ {z:Nat} (hz:z≤2000) {R:List (Bool × List o8)} (h:T1 R) (A:List B1):T1 (R++ [(false,P9 z A)]):=fun r hr=>by
 rcases List.mem_append.1 hr with h1|h1
 ·exact h r h1
 ·rw[List.mem_singleton.1 h1]
  exact ⟨aW9 z A,by rw[aW];omega⟩
theorem YD (c:PW):(L7 c).1.length≤2000:=by
 unfold L7
 split
 ·simp
 split
 ·split
  ·simp
  ·simp only;omega
 ·simp
theorem aY4 {H:D5} {o t n:Nat} {z:Bool} {l:List D} {a:Value} (h:k8 H o=some (.gro t 2 z l)) (hl:l.length=n*2):R1 H [.agg [.sc a,.gr 2 o n]]=some [.agg [.sc a,.sl 2 n l]]:=by
 have h1:=NY h hl
 generalize V.gr 2 o n=v at*
 simp[A7,R1,h1]
section
variable (w:World) (n:Nat)
theorem WN {C:B7} (hC:C.E=EN w (n+4)) (h0:C.w0.nx=0) (L:List B1) (hL:L.length≤2000) {K:List KF} {P:z9}
  (hbad:U4 L=none→∀ st,k8 st.own 0=some oD→st.ro=0→gK C K .ret [(2,.ptr 0 0),(3,iN 12)] st P)
  (hgo:∀ R,U4 L=some R→T1 R→R.length≤2000→∀ v5 v50,gK C K (.exit 2) [(0,jS 3 L),(2,.ptr 0 0),(4,.ptr 1 0),(5,v5),(50,v50)] ⟨[(2,sJ R),(1,.box 24 1 [iN (kO L),.gr 2 2 R.length]),(0,oD)],3,0⟩ P):
  gL C [0,2,4,5] uC K [(0,jS 3 L),(2,.ptr 0 0),(4,.ptr 1 0),(5,jS 3 (L.drop (1+kO L)))] ⟨[(1,.box 24 1 [iN (kO L),.sc (.slice none 0 0)]),(0,oD)],2,0⟩ P:=by
 have hrn:C.E.rounds=C7:=by rw[hC,n7]
 have hz2:kO L≤2000:=by
  unfold kO
  have:=(List.takeWhile_sublist knR (l:=L.drop 1)).length_le
  rw[List.length_drop] at this
  omega
 have hrd:kO L ≠ 0→U4 L=QA (kO L) L.length (L.drop (1+kO L)) []:=fun h=>by unfold U4;rw[if_neg h]
 have hrd0:kO L=0→U4 L=some []:=fun h=>by unfold U4;rw[if_pos h]
 generalize kO L=z at*
 refine GC (ID (C:=C) (st:=⟨[(1,.box 24 1 [iN z,.sc (.slice none 0 0)]),(0,oD)],2,0⟩) (l:= [iN z,.sc (.slice none 0 0)]) 1 24 1 1 80 2 rfl rfl (fun h=>absurd (show (1:Nat)=2 from h) (by decide))) ?_
 by_cases hz:z=0
 ·subst hz
  have hgo:=hgo [] (hrd0 rfl) (fun r h=>by cases h) (by simp)
  generalize L.drop (1+0)=T at*
  refine x9 (fun m fr s=>m=0∧fr= [(0,jS 3 L),(2,.ptr 0 0),(4,.ptr 1 0),(5,jS 3 T)]∧s=⟨[(2,sJ []),(1,.box 24 1 [iN 0,.gr 2 2 0]),(0,oD)],3,0⟩) 0 ?_ ⟨_,_,.refl _ _,rfl,rfl,rfl⟩ ?_
  ·rw[hrn];unfold C7;omega
  rintro m fr s ⟨rfl,rfl,rfl⟩
  by_cases hT:T.length=0
  ·obtain rfl:=List.eq_nil_of_length_eq_zero hT
   repeat' (first|(simp (disch:=try exact m8) only[WA,b9,d9,Nat.reduceEqDiff,Nat.reduceLT,Nat.reduceAdd,Nat.reduceBEq,Int.reduceAdd,Int.reduceSub,Int.reduceLT,Int.reduceLE,Int.reduceEq,Int.reduceNeg,↓reduceIte,reduceCtorEq,List.replicate,uC])|apply a8|((first|apply d7|apply c7|apply a9|apply d8|apply c8|apply b8)<;>intro _))
   exact hgo _ _
  ·repeat' (first|(simp (disch:=try exact m8) only[WA,b9,d9,Nat.reduceEqDiff,Nat.reduceLT,Nat.reduceAdd,Nat.reduceBEq,Int.reduceAdd,Int.reduceSub,Int.reduceLT,Int.reduceLE,Int.reduceEq,Int.reduceNeg,↓reduceIte,reduceCtorEq,List.replicate,uC])|apply a8|((first|apply d7|apply c7|apply a9|apply d8|apply c8|apply b8)<;>intro _))
   all_goals try (exfalso;omega)
   exact hgo _ _
 have hrd:=hrd hz
 rw[hrd] at hgo hbad
 clear hrd0
 refine x9 (fun m fr s=>∃ (rest:List B1) (acc:List (Bool × List o8)),rest.length≤m∧QA z L.length (L.drop (1+z)) []=QA z m rest acc∧acc.length+m≤2000∧T1 acc∧fr= [(0,jS 3 L),(2,.ptr 0 0),(4,.ptr 1 0),(5,jS 3 rest)]∧s=⟨[(2,sJ acc),(1,.box 24 1 [iN z,.gr 2 2 acc.length]),(0,oD)],3,0⟩) L.length ?_ ⟨_,_,.refl _ _,L.drop (1+z),[],by rw[List.length_drop];omega,rfl,by simp;omega,(fun r h=>by cases h),rfl,rfl⟩ ?_
 ·rw[hrn];unfold C7;omega
 rintro m fr s ⟨rest,acc,hm,hinv,hal,hK,rfl,rfl⟩
 by_cases hT:rest= []
 ·subst hT
  rw[WM] at hinv
  have hgo:=hgo acc hinv hK (by omega)
  repeat' (first|(simp (disch:=try exact m8) only[WA,b9,d9,Nat.reduceEqDiff,Nat.reduceLT,Nat.reduceAdd,Nat.reduceBEq,Int.reduceAdd,Int.reduceSub,Int.reduceLT,Int.reduceLE,Int.reduceEq,Int.reduceNeg,↓reduceIte,reduceCtorEq,List.replicate,uC])|apply a8|((first|apply d7|apply c7|apply a9|apply d8|apply c8|apply b8)<;>intro _))
  exact hgo _ _
 have hT0:rest.length ≠ 0:=fun h=>hT (List.eq_nil_of_length_eq_zero h)
 have hcl:=aQ1 w (n+3) 3 rest (by omega) (by omega)
 have hmk:=fun nx t=>zH nx t z (by omega)
 have hil:=x8 rest
 repeat' (first|(simp (disch:=try exact m8) only[WA,b9,d9,Nat.reduceEqDiff,Nat.reduceLT,Nat.reduceAdd,Nat.reduceBEq,Int.reduceAdd,Int.reduceSub,Int.reduceLT,Int.reduceLE,Int.reduceEq,Int.reduceNeg,↓reduceIte,reduceCtorEq,List.replicate,uC,hmk])|apply a8|((first|apply d7|apply c7|apply a9|apply d8|apply c8|apply b8)<;>intro _))
 all_goals try (exfalso;omega)
 refine D9 (by rw[hC];exact hcl) rfl rfl (fun _=>rfl) ?_
 repeat' (first|(simp (disch:=try exact m8) only[WA,b9,d9,Nat.reduceEqDiff,Nat.reduceLT,Nat.reduceAdd,Nat.reduceBEq,Int.reduceAdd,Int.reduceSub,Int.reduceLT,Int.reduceLE,Int.reduceEq,Int.reduceNeg,↓reduceIte,reduceCtorEq,List.replicate])|apply a8|((first|apply d7|apply c7|apply a9|apply d8|apply c8|apply b8)<;>intro _))
 refine bJ3 w (n+3) hC h0 L z _ rest (by omega) fun v65=>?_
 have hdw:=cA6 rest
 have hrl:=x8 (rest.dropWhile rZ)
 by_cases hs:(rest.dropWhile rZ).length<z
 ·have hbad:=hbad (by rw[hinv];exact NA hT hm (ZL hs))
  generalize rest.dropWhile rZ=T at*
  repeat' (first|(simp (disch:=try exact m8) only[WA,b9,d9,Nat.reduceEqDiff,Nat.reduceLT,Nat.reduceAdd,Nat.reduceBEq,Int.reduceAdd,Int.reduceSub,Int.reduceLT,Int.reduceLE,Int.reduceEq,Int.reduceNeg,↓reduceIte,reduceCtorEq,List.replicate])|apply a8|((first|apply d7|apply c7|apply a9|apply d8|apply c8|apply b8)<;>intro _))
  all_goals try (exfalso;omega)
  exact hbad _ rfl rfl
 have hnb:=@bH2 z rest
 have hno:=@cC3 z rest hs
 generalize rest.dropWhile rZ=T at*
 have hpf:=MJ T z (by omega)
 have hpb:=eG T z (by omega)
 have hAl:(T.take z).length=z:=by rw[List.length_take];omega
 have hBl:(T.drop z).length=T.length - z:=List.length_drop
 have hal7:=x8 (T.take z)
 rw[hAl] at hal7
 have hrow:=@cE1 w (n+3) C hC h0 L z hz2 T (T.take z) hAl acc
 unfold jS at hrow
 rw[hAl] at hrow
 repeat' (first|(simp (disch:=try exact m8) only[WA,b9,d9,Nat.reduceEqDiff,Nat.reduceLT,Nat.reduceAdd,Nat.reduceBEq,Int.reduceAdd,Int.reduceSub,Int.reduceLT,Int.reduceLE,Int.reduceEq,Int.reduceNeg,↓reduceIte,reduceCtorEq,List.replicate,hpf])|apply a8|((first|apply d7|apply c7|apply a9|apply d8|apply c8|apply b8)<;>intro _))
 all_goals try (exfalso;omega)
 refine hrow (fun hb st e1 e2=>hbad (by rw[hinv];exact NA hT hm (hnb hb)) st e1 e2) (fun ho v80=>?_)
 obtain ⟨g,rfl,hg⟩:=ND (acc:=acc) hT hm (hno ho)
 rw[hg] at hinv
 simp only at hinv
 have hsl:=v3 (P9 z (T.take z))
 rw[aW] at hsl
 have hsb:cZ [(4,.box 80 2 [.sc (.bool false),.ref 3 0 z z]),(3,bL3 (P9 z (T.take z))),(2,sJ acc),(1,.box 24 1 [iN z,.gr 2 2 acc.length]),(0,oD)] 2 0 1 (some (.box 80 2 [.sc (.bool false),.ref 3 0 z z]))=some (1,[.sc (.bool false),.sl 0 z (s5 (P9 z (T.take z)))],[3]):=aY5 rfl hsl
 have hsn:=RZ 0 acc false (P9 z (T.take z))
 rw[aW] at hsn
 have hrL:=D1 0 acc
 have hok:=aA1 acc
 have hKs:=XQ hz2 hK (T.take z)
 repeat' (first|(simp (disch:=try exact m8) only[WA,b9,d9,Nat.reduceEqDiff,Nat.reduceLT,Nat.reduceAdd,Nat.reduceBEq,Int.reduceAdd,Int.reduceSub,Int.reduceLT,Int.reduceLE,Int.reduceEq,Int.reduceNeg,↓reduceIte,reduceCtorEq,List.replicate,hpb,aW6,hsb])|apply a8|((first|apply d7|apply c7|apply a9|apply d8|apply c8|apply b8)<;>intro _))
 all_goals try (exfalso;omega)
 exact ⟨g,_,_,by omega,s7 [(5,2),(1,1),(0,0)] 3 h0 rfl rfl rfl rfl,T.drop z,acc++ [(false,P9 z (T.take z))],by rw[hBl];omega,hinv,by rw[List.length_append];simp only[List.length_cons,List.length_nil];omega,hKs,(by show _= [(0,V.sl 3 L.length (B9 L)),(2,.ptr 0 0),(4,.ptr 1 0),(5,.sl 3 (T.drop z).length (B9 (T.drop z)))];rw[hBl];rfl),by rw[List.length_append];simp only[sJ];rw[hsn];rfl⟩
theorem RU (L:List B1) (hLL:L.length≤140737488351232):r9 (EN w (n+12)) 29 [jS 3 L] (WO (Y2 L)) ⟨[],0,0⟩:=by
 have hil:=x8 L
 unfold Y2
 refine T0 rfl rfl (fun _ _=>rfl) (Nat.le_of_ble_eq_true rfl) (o7 w) NM rfl fun C hC h0=>?_
 by_cases h2:2000<L.length
 ·rw[if_pos h2]
  repeat' (first|(simp (disch:=try exact m8) only[WA,b9,d9,Nat.reduceEqDiff,Nat.reduceLT,Nat.reduceAdd,Nat.reduceBEq,Int.reduceAdd,Int.reduceSub,Int.reduceLT,Int.reduceLE,Int.reduceEq,Int.reduceNeg,↓reduceIte,reduceCtorEq,List.replicate,c29])|apply a8|((first|apply d7|apply c7|apply a9|apply d8|apply c8|apply b8)<;>intro _))
  all_goals try (exfalso;omega)
  exact W2 h0 rfl
 rw[if_neg h2]
 have hz2:kO L≤2000:=by
  unfold kO
  have:=(List.takeWhile_sublist knR (l:=L.drop 1)).length_le
  rw[List.length_drop] at this
  omega
 have hmin:∃ a:Nat,min 1 (L.length:Int)=a∧a≤L.length∧L.drop a=L.drop 1∧(L.drop a).length=L.length - a:=by
  by_cases hl:L= []
  ·subst hl;exact ⟨0,rfl,Nat.zero_le _,rfl,rfl⟩
  ·have:=List.length_pos_iff.2 hl
   exact ⟨1,by omega,this,rfl,List.length_drop⟩
 obtain ⟨a,hm,ha,hd,hdl⟩:=hmin
 have hpb:=eG L a ha
 rw[hd] at hpb
 have hcnt:=@cE0 w (n+10) C hC h0 L (by omega)
 unfold jS at hcnt
 rw[← hd,hdl,hd] at hcnt
 repeat' (first|(simp (disch:=try exact m8) only[WA,b9,d9,Nat.reduceEqDiff,Nat.reduceLT,Nat.reduceAdd,Nat.reduceBEq,Int.reduceAdd,Int.reduceSub,Int.reduceLT,Int.reduceLE,Int.reduceEq,Int.reduceNeg,↓reduceIte,reduceCtorEq,List.replicate,c29,GW,hm,hpb,jQ])|apply a8|((first|apply d7|apply c7|apply a9|apply d8|apply c8|apply b8)<;>intro _))
 all_goals try (exfalso;omega)
 refine hcnt fun v36=>?_
 repeat' (first|(simp (disch:=try exact m8) only[WA,b9,d9,Nat.reduceEqDiff,Nat.reduceLT,Nat.reduceAdd,Nat.reduceBEq,Int.reduceAdd,Int.reduceSub,Int.reduceLT,Int.reduceLE,Int.reduceEq,Int.reduceNeg,↓reduceIte,reduceCtorEq,List.replicate])|apply a8|((first|apply d7|apply c7|apply a9|apply d8|apply c8|apply b8)<;>intro _))
 refine GC (SU [0,2,4,5] rfl) ?_
 refine WN w (n+7) hC h0 L (by omega) (fun hr st e1 e2=>?_) (fun R hr hKR hRl v5 v50=>?_)
 ·rw[hr]
  repeat' (first|(simp (disch:=try exact m8) only[WA,b9,d9,Nat.reduceEqDiff,Nat.reduceLT,Nat.reduceAdd,Nat.reduceBEq,Int.reduceAdd,Int.reduceSub,Int.reduceLT,Int.reduceLE,Int.reduceEq,Int.reduceNeg,↓reduceIte,reduceCtorEq,List.replicate,e1])|apply a8|((first|apply d7|apply c7|apply a9|apply d8|apply c8|apply b8)<;>intro _))
  exact W2 h0 e2
 rw[hr]
 simp only
 have h0R:(kO L:Int)=0→R= []:=fun h=>by
  unfold U4 at hr
  rw[if_pos (by omega)] at hr
  exact (Option.some.inj hr).symm
 have hcm:=jI w n 2 0 (by decide) (by decide) (kO L) R (by omega) hKR
 have hcl:=YD ((kO L:Int),R)
 have hrL:=D1 0 R
 generalize L7 ((kO L:Int),R)=pe at*
 obtain ⟨p,e⟩:=pe
 simp only at hcl
 have hje:=aQ2 w (n+10) 3 3 p L (by omega) hLL
 repeat' (first|(simp (disch:=try exact m8) only[WA,b9,d9,Nat.reduceEqDiff,Nat.reduceLT,Nat.reduceAdd,Nat.reduceBEq,Int.reduceAdd,Int.reduceSub,Int.reduceLT,Int.reduceLE,Int.reduceEq,Int.reduceNeg,↓reduceIte,reduceCtorEq,List.replicate])|apply a8|((first|apply d7|apply c7|apply a9|apply d8|apply c8|apply b8)<;>intro _))
 refine aD (by rw[hC];exact hcm) (aY4 rfl hrL) rfl rfl ?_
 simp only[Prod.mk.injEq]
 by_cases he:e=0
 ·subst he
  repeat' (first|(simp (disch:=try exact m8) only[WA,b9,d9,Nat.reduceEqDiff,Nat.reduceLT,Nat.reduceAdd,Nat.reduceBEq,Int.reduceAdd,Int.reduceSub,Int.reduceLT,Int.reduceLE,Int.reduceEq,Int.reduceNeg,↓reduceIte,reduceCtorEq,List.replicate,qY,sX,WT,kP,R6,bG])|apply a8|((first|apply d7|apply c7|apply a9|apply d8|apply c8|apply b8)<;>intro _))
  refine g9 (by rw[hC];exact hje.flat rfl rfl) ?_
  by_cases hp:p=L
  ·rw[if_pos ⟨hp,trivial⟩,decide_eq_true hp]
   repeat' (first|(simp (disch:=try exact m8) only[WA,b9,d9,Nat.reduceEqDiff,Nat.reduceLT,Nat.reduceAdd,Nat.reduceBEq,Int.reduceAdd,Int.reduceSub,Int.reduceLT,Int.reduceLE,Int.reduceEq,Int.reduceNeg,↓reduceIte,reduceCtorEq,List.replicate])|apply a8|((first|apply d7|apply c7|apply a9|apply d8|apply c8|apply b8)<;>intro _))
   exact SV (NY rfl hrL) rfl (.inl (by decide)) h0 rfl
  ·rw[if_neg (fun h=>hp h.1),decide_eq_false hp]
   repeat' (first|(simp (disch:=try exact m8) only[WA,b9,d9,Nat.reduceEqDiff,Nat.reduceLT,Nat.reduceAdd,Nat.reduceBEq,Int.reduceAdd,Int.reduceSub,Int.reduceLT,Int.reduceLE,Int.reduceEq,Int.reduceNeg,↓reduceIte,reduceCtorEq,List.replicate])|apply a8|((first|apply d7|apply c7|apply a9|apply d8|apply c8|apply b8)<;>intro _))
   exact W2 h0 rfl
 ·rw[if_neg (fun h=>he h.2)]
  repeat' (first|(simp (disch:=try exact m8) only[WA,b9,d9,Nat.reduceEqDiff,Nat.reduceLT,Nat.reduceAdd,Nat.reduceBEq,Int.reduceAdd,Int.reduceSub,Int.reduceLT,Int.reduceLE,Int.reduceEq,Int.reduceNeg,↓reduceIte,reduceCtorEq,List.replicate,qY,sX,WT,kP,R6,bG])|apply a8|((first|apply d7|apply c7|apply a9|apply d8|apply c8|apply b8)<;>intro _))
  all_goals try (exfalso;omega)
  all_goals exact W2 h0 rfl
end
abbrev z2:List Value:= [.bool false,.slice none 0 0]
section
variable (w:World) (n:Nat)
end
section
variable (w:World) (n:Nat)
theorem YU (s:Nat) (L:List o8) (hL:L.length≤140737488351232):r9 (EN w (n+1)) 38 [tS s L] (.sc (.bool (GF L.length))) ⟨[],0,0⟩:=by
 unfold GF
 refine m6 rfl rfl (fun _ _=>rfl) (Nat.le_of_ble_eq_true rfl) (o7 w) rfl fun C hC h0=>?_
 by_cases h1:60<L.length
 ·by_cases h2:L.length≤200
  ·rw[decide_eq_true (.inl ⟨h1,h2⟩)]
   repeat' (first|(simp (disch:=try exact m8) only[WA,b9,d9,Nat.reduceEqDiff,Nat.reduceLT,Nat.reduceAdd,Nat.reduceBEq,Int.reduceAdd,Int.reduceSub,Int.reduceLT,Int.reduceLE,Int.reduceEq,Int.reduceNeg,↓reduceIte,reduceCtorEq,List.replicate,c38])|apply a8|((first|apply d7|apply c7|apply a9|apply d8|apply c8|apply b8)<;>intro _))
   all_goals try (exfalso;omega)
   exact i7 rfl h0 rfl
  ·by_cases h3:300<L.length
   ·rw[decide_eq_true (.inr h3)]
    repeat' (first|(simp (disch:=try exact m8) only[WA,b9,d9,Nat.reduceEqDiff,Nat.reduceLT,Nat.reduceAdd,Nat.reduceBEq,Int.reduceAdd,Int.reduceSub,Int.reduceLT,Int.reduceLE,Int.reduceEq,Int.reduceNeg,↓reduceIte,reduceCtorEq,List.replicate,c38])|apply a8|((first|apply d7|apply c7|apply a9|apply d8|apply c8|apply b8)<;>intro _))
    all_goals try (exfalso;omega)
    exact i7 rfl h0 rfl
   ·rw[decide_eq_false (by omega)]
    repeat' (first|(simp (disch:=try exact m8) only[WA,b9,d9,Nat.reduceEqDiff,Nat.reduceLT,Nat.reduceAdd,Nat.reduceBEq,Int.reduceAdd,Int.reduceSub,Int.reduceLT,Int.reduceLE,Int.reduceEq,Int.reduceNeg,↓reduceIte,reduceCtorEq,List.replicate,c38])|apply a8|((first|apply d7|apply c7|apply a9|apply d8|apply c8|apply b8)<;>intro _))
    all_goals try (exfalso;omega)
    exact i7 rfl h0 rfl
 ·rw[decide_eq_false (by omega)]
  repeat' (first|(simp (disch:=try exact m8) only[WA,b9,d9,Nat.reduceEqDiff,Nat.reduceLT,Nat.reduceAdd,Nat.reduceBEq,Int.reduceAdd,Int.reduceSub,Int.reduceLT,Int.reduceLE,Int.reduceEq,Int.reduceNeg,↓reduceIte,reduceCtorEq,List.replicate,c38])|apply a8|((first|apply d7|apply c7|apply a9|apply d8|apply c8|apply b8)<;>intro _))
  all_goals try (exfalso;omega)
  exact i7 rfl h0 rfl
def pV:Nat→List (Bool × List o8)→Bool
 |0,_=>false
 |_,[]=>false
 |f+1,r::R=>GF r.2.length||pV f R
def GG (R:List (Bool × List o8)):Bool:=pV 150 R||decide (12<R.length∧R.length≤100∨150<R.length)
theorem YV (s k:Nat) (z:Int) (R:List (Bool × List o8)) (hc:R.length≤140737488351232) (hK:T1 R):r9 (EN w (n+2)) 9 [T6 s k (z,R)] (.sc (.bool (GG R))) ⟨[],0,0⟩:=by
 have hil:=D1 k R
 unfold GG
 refine m6 rfl rfl (fun _ _=>rfl) (Nat.le_of_ble_eq_true rfl) (o7 w) rfl fun C hC h0=>?_
 have hrn:C.E.rounds=C7:=by rw[hC,n7]
 repeat' (first|(simp (disch:=try exact m8) only[WA,b9,d9,Nat.reduceEqDiff,Nat.reduceLT,Nat.reduceAdd,Nat.reduceBEq,Int.reduceAdd,Int.reduceSub,Int.reduceLT,Int.reduceLE,Int.reduceEq,Int.reduceNeg,↓reduceIte,reduceCtorEq,List.replicate,c9])|apply a8|((first|apply d7|apply c7|apply a9|apply d8|apply c8|apply b8)<;>intro _))
 refine x9 (fun m fr st=>∃ j:Nat,m=150 - j∧j≤R.length∧j≤150∧pV 150 R=pV (150 - j) (R.drop j)∧fr= [(1,.ptr 0 0),(3,iN j)]∧st=⟨[(0,zA z s k R)],1,0⟩) 150 ?_ ⟨_,_,.refl _ _,0,by omega,Nat.zero_le _,by omega,rfl,rfl,rfl⟩ ?_
 ·rw[hrn];unfold C7;omega
 rintro m fr st ⟨j,rfl,hj,hj2,hinv,rfl,rfl⟩
 by_cases hlt:j<R.length∧j<150
 ·obtain ⟨hlt,hl2⟩:=hlt
  have hat:=cX k R j hlt
  have hm:=(hK.at hlt).2
  have hg:=YU w n k R[j]!.2 hm
  rw[fT hlt,show 150 - j=(150 - (j+1))+1 by omega,pV] at hinv
  generalize R[j]!.2=L at*
  rw[hinv]
  cases hb:GF L.length with
  |true=>
   rw[hb] at hg
   rw[Bool.true_or,Bool.true_or]
   repeat' (first|(simp (disch:=try exact m8) only[WA,b9,d9,Nat.reduceEqDiff,Nat.reduceLT,Nat.reduceAdd,Nat.reduceBEq,Int.reduceAdd,Int.reduceSub,Int.reduceLT,Int.reduceLE,Int.reduceEq,Int.reduceNeg,↓reduceIte,reduceCtorEq,List.replicate,YC,hat])|apply a8|((first|apply d7|apply c7|apply a9|apply d8|apply c8|apply b8)<;>intro _))
   all_goals try (exfalso;omega)
   refine g9 (by rw[hC];exact hg.flat rfl rfl) ?_
   repeat' (first|(simp (disch:=try exact m8) only[WA,b9,d9,Nat.reduceEqDiff,Nat.reduceLT,Nat.reduceAdd,Nat.reduceBEq,Int.reduceAdd,Int.reduceSub,Int.reduceLT,Int.reduceLE,Int.reduceEq,Int.reduceNeg,↓reduceIte,reduceCtorEq,List.replicate])|apply a8|((first|apply d7|apply c7|apply a9|apply d8|apply c8|apply b8)<;>intro _))
   exact i7 rfl h0 rfl
  |false=>
   rw[hb] at hg
   rw[hb,Bool.false_or] at hinv
   rw[Bool.false_or]
   repeat' (first|(simp (disch:=try exact m8) only[WA,b9,d9,Nat.reduceEqDiff,Nat.reduceLT,Nat.reduceAdd,Nat.reduceBEq,Int.reduceAdd,Int.reduceSub,Int.reduceLT,Int.reduceLE,Int.reduceEq,Int.reduceNeg,↓reduceIte,reduceCtorEq,List.replicate,YC,hat])|apply a8|((first|apply d7|apply c7|apply a9|apply d8|apply c8|apply b8)<;>intro _))
   all_goals try (exfalso;omega)
   refine g9 (by rw[hC];exact hg.flat rfl rfl) ?_
   repeat' (first|(simp (disch:=try exact m8) only[WA,b9,d9,Nat.reduceEqDiff,Nat.reduceLT,Nat.reduceAdd,Nat.reduceBEq,Int.reduceAdd,Int.reduceSub,Int.reduceLT,Int.reduceLE,Int.reduceEq,Int.reduceNeg,↓reduceIte,reduceCtorEq,List.replicate])|apply a8|((first|apply d7|apply c7|apply a9|apply d8|apply c8|apply b8)<;>intro _))
   rw[← hinv]
   exact ⟨150 - (j+1),_,_,by omega,.refl _ _,j+1,rfl,by omega,by omega,hinv,rfl,rfl⟩
 ·have he:pV (150 - j) (R.drop j)=false:=by
   by_cases h:j=150
   ·subst h;rfl
   ·have:j=R.length:=by omega
    subst this
    rw[List.drop_length,show 150 - R.length=(149 - R.length)+1 by omega];rfl
  rw[hinv,he,Bool.false_or]
  by_cases h1:12<R.length∧R.length≤100∨150<R.length
  ·rw[decide_eq_true h1]
   by_cases h2:j<R.length
   all_goals
    repeat' (first|(simp (disch:=try exact m8) only[WA,b9,d9,Nat.reduceEqDiff,Nat.reduceLT,Nat.reduceAdd,Nat.reduceBEq,Int.reduceAdd,Int.reduceSub,Int.reduceLT,Int.reduceLE,Int.reduceEq,Int.reduceNeg,↓reduceIte,reduceCtorEq,List.replicate,YC])|apply a8|((first|apply d7|apply c7|apply a9|apply d8|apply c8|apply b8)<;>intro _))
    all_goals try (exfalso;omega)
    all_goals exact i7 rfl h0 rfl
  ·rw[decide_eq_false h1]
   by_cases h2:j<R.length
   all_goals
    repeat' (first|(simp (disch:=try exact m8) only[WA,b9,d9,Nat.reduceEqDiff,Nat.reduceLT,Nat.reduceAdd,Nat.reduceBEq,Int.reduceAdd,Int.reduceSub,Int.reduceLT,Int.reduceLE,Int.reduceEq,Int.reduceNeg,↓reduceIte,reduceCtorEq,List.replicate,YC])|apply a8|((first|apply d7|apply c7|apply a9|apply d8|apply c8|apply b8)<;>intro _))
    all_goals try (exfalso;omega)
    all_goals exact i7 rfl h0 rfl
end
section
variable (w:World) (n:Nat)
end
theorem JT {z:Nat} {R:List (Bool × List o8)} (h:(L7 ((z:Int),R)).2=0):O4 ((z:Int),R)=0∧P6 R=true∧z≤101∧(G7 z R).length≤2000∧(L7 ((z:Int),R)).1=G7 z R:=by
 unfold L7 at h ⊢
 by_cases e1:O4 ((z:Int),R)=0
 case neg=>rw[if_pos e1] at h;exact absurd h e1
 rw[if_neg (fun x=>x e1)] at h ⊢
 by_cases e2:nZ ((z:Int),R)=true
 case neg=>rw[if_neg e2] at h;cases h
 rw[if_pos e2] at h ⊢
 have e3:=e2
 unfold nZ at e3
 simp only[Bool.and_eq_true,decide_eq_true_eq] at e3
 simp only[Int.toNat_natCast] at h ⊢
 by_cases e4:2000<(G7 z R).length
 ·rw[if_pos e4] at h;cases h
 ·rw[if_neg e4];exact ⟨e1,e3.1,by omega,by omega,rfl⟩
theorem cM1 {R:List (Bool × List o8)} (h1:O4 ((0:Nat),R)=0) (h2:P6 R=true):G7 0 R= [in1]:=by
 unfold G7
 rw[show List.replicate 0 false= [] from rfl,qP R 0 fun r hr=>by
  obtain ⟨i,hi,rfl⟩:=List.getElem_of_mem hr
  have:R[i]!.2= []:=List.eq_nil_of_length_eq_zero (xF h1 h2 hi)
  rwa [getElem!_pos R i hi] at this]
 rfl
section
variable (w:World) (n:Nat)
end
section
variable (w:World) (n:Nat)
end
end Go.Proofs.YtgohenjcanfolaaGreatDoor
