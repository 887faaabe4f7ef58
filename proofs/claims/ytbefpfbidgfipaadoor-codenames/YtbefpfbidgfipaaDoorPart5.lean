/- What is proved: the law CodeNames returns true for every input. Conditions: none beyond the card's own.
   Texts: C33VA, S33D, H33V, K33a, K33b, K33c, K33d, K33e, K33f, K33g, K33h, K33i, K33j, K33k, K33m, K33l, K33n, K33r, K33o, K33s, K33t, K33p, K33q, K33u, K33v, K33w, K33x, K33z, L33a, L33b, L33c, L33d, L33e, M33a.
-/
import Derived.Test.YtbefpfbidgfipaaDoorPart4
import Derived.Test.YtbefpfbidgfipaaDoorProg
import Derived.Shelf.Strings.Builder1
import Derived.Shelf.Strings.Builder2
import Derived.Shelf.Strings.OnBuilder
import Derived.Shelf.Strconv.Atoi
import Derived.Shelf.Strconv.Itoa0
import Derived.Shelf.Strconv.Itoa1
import Derived.Shelf.LaysM
import Derived.Shelf.Strconv.Itoa2
import Derived.Shelf.Strconv.Itoa3
import Derived.Shelf.Strconv.AtoiErrFast
import Derived.Shelf.Strconv.ParseIntEmpty
import Derived.Shelf.Strconv.AtoiFail
import Derived.Shelf.Strconv.Clone
import Derived.Shelf.Strconv.SyntaxError
import Derived.Shelf.LaysC
import Derived.Shelf.Strconv.ToError
import Derived.Shelf.Strconv.Lower
import Derived.Shelf.Strconv.ParseUint10
import Derived.Shelf.Strconv.ParseUint10Empty
import Derived.Shelf.Strconv.ParseUint10Any
import Derived.Shelf.Strconv.ParseInt10
import Derived.Shelf.Strconv.AtoiLong
import Derived.Shelf.Strconv.AtoiInnerAll
import Derived.Shelf.Strconv.RangeError
import Derived.Shelf.Strconv.ToErrorRange
import Derived.Shelf.Strconv.AtoiAll
import Derived.Shelf.Strconv.ErrVarAll
import Derived.Shelf.Strings.Search1
import Derived.Shelf.Strings.Search2
import Derived.Shelf.Strings.Search3
import Derived.Shelf.Strings.Cut
import Derived.Shelf.Strings.Count
import Derived.Shelf.Strings.Shaped
import Derived.KernelRfl
import Derived.Lib.Bytealg
import Derived.Lib.AtoiAllCases
namespace Go.Proofs.YtbefpfbidgfipaaDoor
open Go Go.Itp
set_option maxRecDepth 100000
@[reducible] def O1 (d:Nat) (p:AOp):AOper:=⟨some d,none,p⟩
/- raddle/raddlelaw33.CodeNames -/
def c5l0:AC:= .seq (.seq (.ops [O1 90 (.mov (.tmp 14)),O1 91 (.mov (.tmp 13)),O1 92 (.len false (.tmp 91)),O1 93 (.bin .lss (.tmp 90) (.tmp 92))] [2,9,10,11,12,13,14,93]) (.cond (.tmp 93) (.skip) (.exit 2))) (.seq (.block 3 (.seq (.ops [O1 97 (.mov (.tmp 13)),O1 98 (.mov (.tmp 14)),O1 99 (.idxS 1 (.tmp 97) (.tmp 98)),O1 100 (.load none (.tmp 99)),O1 101 (.callF 10 [.tmp 100]),O1 96 (.mov (.tmp 101)),O1 102 (.ext (.tmp 96) 0),O1 103 (.ext (.tmp 96) 1),O1 15 (.alloc 23 [(1,(.int .u8 0)),(1,(.bool false)),(1,(.int .u8 0)),(4,(.int .i64 0))]),⟨none,none,.store 7 (.tmp 15) (.tmp 102)⟩,O1 16 (.mov (.tmp 103))] [2,9,10,11,12,13,14,15,16]) (.seq (.ops [O1 104 (.mov (.tmp 16)),O1 105 (.bin .neq (.tmp 104) (.const (.int .i64 12))),O1 106 (.mov (.tmp 105)),⟨some 107,some (106,false),.load (some 7) (.tmp 15)⟩,⟨some 108,some (106,false),.build [(.int .u8 0),(.bool false),(.int .u8 0),(.int .i64 0),(.int .i64 0),(.int .i64 0),(.int .i64 0)] []⟩,⟨some 109,some (106,false),.eqAgg true [(0,0),(1,2),(2,0),(3,0),(4,0),(5,0),(6,0)] (.tmp 107) (.tmp 108)⟩,O1 110 (.pick (.tmp 106) (.const (.bool true)) (.tmp 109))] [2,9,10,11,12,13,14,110]) (.cond (.tmp 110) (.seq (.ops [O1 0 (.mov (.const (.bool false)))] [0]) (.ret)) (.skip))))) (.ops [O1 94 (.mov (.tmp 14)),O1 95 (.bin .add (.tmp 94) (.const (.int .i64 1))),O1 14 (.mov (.tmp 95))] [2,9,10,11,12,13,14]))
def c5l1:AC:= .seq (.seq (.ops [O1 38 (.mov (.tmp 3)),O1 39 (.mov (.tmp 1)),O1 40 (.len false (.tmp 39)),O1 41 (.bin .lss (.tmp 38) (.tmp 40))] [1,2,3,41]) (.cond (.tmp 41) (.skip) (.exit 0))) (.seq (.block 1 (.seq (.ops [O1 45 (.mov (.tmp 1)),O1 46 (.mov (.tmp 3)),O1 47 (.idxS 1 (.tmp 45) (.tmp 46)),O1 48 (.load none (.tmp 47)),O1 49 (.callF 10 [.tmp 48]),O1 44 (.mov (.tmp 49)),O1 50 (.ext (.tmp 44) 0),O1 51 (.ext (.tmp 44) 1),O1 4 (.alloc 23 [(1,(.int .u8 0)),(1,(.bool false)),(1,(.int .u8 0)),(4,(.int .i64 0))]),⟨none,none,.store 7 (.tmp 4) (.tmp 50)⟩,O1 5 (.mov (.tmp 51))] [1,2,3,4,5]) (.seq (.ops [O1 53 (.load (some 7) (.tmp 4)),O1 54 (.callF 8 [.tmp 53]),O1 52 (.mov (.tmp 54)),O1 55 (.ext (.tmp 52) 0),O1 56 (.ext (.tmp 52) 1),O1 6 (.mov (.tmp 55)),O1 7 (.mov (.tmp 56))] [1,2,3,5,6,7]) (.seq (.seq (.ops [O1 57 (.mov (.tmp 5)),O1 58 (.bin .neq (.tmp 57) (.const (.int .i64 0))),O1 59 (.mov (.tmp 58)),⟨some 60,some (59,false),.mov (.tmp 7)⟩,⟨some 61,some (59,false),.bin .neq (.tmp 60) (.const (.int .i64 0))⟩,O1 62 (.pick (.tmp 59) (.const (.bool true)) (.tmp 61)),O1 63 (.mov (.tmp 62)),⟨some 64,some (63,false),.mov (.tmp 6)⟩,⟨some 65,some (63,false),.mov (.tmp 1)⟩,⟨some 66,some (63,false),.mov (.tmp 3)⟩,⟨some 67,some (63,false),.idxS 1 (.tmp 65) (.tmp 66)⟩,⟨some 68,some (63,false),.load none (.tmp 67)⟩,⟨some 69,some (63,false),.bin .neq (.tmp 64) (.tmp 68)⟩,O1 70 (.pick (.tmp 63) (.const (.bool true)) (.tmp 69))] [1,2,3,70]) (.cond (.tmp 70) (.seq (.ops [O1 0 (.mov (.const (.bool false)))] [0]) (.ret)) (.skip))) (.ops [O1 71 (.mov (.tmp 2)),O1 72 (.mov (.tmp 1)),O1 73 (.mov (.tmp 3)),O1 74 (.idxS 1 (.tmp 72) (.tmp 73)),O1 75 (.load none (.tmp 74)),O1 76 (.bin .add (.tmp 71) (.tmp 75)),O1 77 (.bin .add (.tmp 76) (.const (.string ⟨#[10]⟩))),O1 2 (.mov (.tmp 77))] [1,2,3]))))) (.ops [O1 42 (.mov (.tmp 3)),O1 43 (.bin .add (.tmp 42) (.const (.int .i64 1))),O1 3 (.mov (.tmp 43))] [1,2,3]))
def c5:AFun:=⟨.seq (.ops [O1 0 (.mov (.const (.bool false)))] []) (.seq (.ops [O1 37 (.mkRow 9 1 11 [(.string ⟨#[]⟩)] [(0,1,(.const (.string ⟨#[105,110,32,49]⟩))),(1,1,(.const (.string ⟨#[111,117,116,32,54]⟩))),(2,1,(.const (.string ⟨#[107,110,105,116,32,43,32,102,48,32,49]⟩))),(3,1,(.const (.string ⟨#[116,117,99,107,32,45,32,102,49,48,48,32,50]⟩))),(4,1,(.const (.string ⟨#[109,105,115,115,32,43,32,98,45,49,48,48,32,51]⟩))),(5,1,(.const (.string ⟨#[115,112,108,105,116,32,45,32,102,51,32,98,52,32,49]⟩))),(6,1,(.const (.string ⟨#[115,112,108,105,116,32,43,32,98,45,49,32,102,48,32,49]⟩))),(7,1,(.const (.string ⟨#[120,102,101,114,32,98,51,32,102,45,50]⟩))),(8,1,(.const (.string ⟨#[114,97,99,107,32,45,56]⟩))),(9,1,(.const (.string ⟨#[114,97,99,107,32,48]⟩))),(10,1,(.const (.string ⟨#[100,114,111,112,32,98,55]⟩)))]),O1 1 (.mov (.tmp 37))] [1]) (.seq (.ops [O1 2 (.mov (.const (.string ⟨#[]⟩)))] [1,2]) (.seq (.seq (.ops [O1 3 (.mov (.const (.int .i64 0)))] [1,2,3]) (.block 0 (.loop [1,2,3] c5l1))) (.seq (.ops [O1 79 (.mov (.tmp 2)),O1 80 (.callF 15 [.tmp 79]),O1 78 (.mov (.tmp 80)),O1 81 (.ext (.tmp 78) 0),O1 82 (.ext (.tmp 78) 1),O1 83 (.ext (.tmp 78) 2),O1 8 (.mov (.tmp 81)),O1 9 (.mov (.tmp 82)),O1 10 (.mov (.tmp 83))] [2,8,9,10]) (.seq (.ops [O1 85 (.mov (.tmp 8)),O1 86 (.callF 13 [.tmp 85]),O1 84 (.mov (.tmp 86)),O1 87 (.ext (.tmp 84) 0),O1 88 (.ext (.tmp 84) 1),O1 11 (.mov (.tmp 87)),O1 12 (.mov (.tmp 88))] [2,9,10,11,12]) (.seq (.ops [O1 89 (.mkRow 9 1 27 [(.string ⟨#[]⟩)] [(0,1,(.const (.string ⟨#[]⟩))),(1,1,(.const (.string ⟨#[105,110]⟩))),(2,1,(.const (.string ⟨#[105,110,32,48]⟩))),(3,1,(.const (.string ⟨#[105,110,32,55]⟩))),(4,1,(.const (.string ⟨#[105,110,32,48,49]⟩))),(5,1,(.const (.string ⟨#[105,110,32,49,32]⟩))),(6,1,(.const (.string ⟨#[32,105,110,32,49]⟩))),(7,1,(.const (.string ⟨#[105,110,32,32,49]⟩))),(8,1,(.const (.string ⟨#[107,110,105,116,32,102,48,32,49]⟩))),(9,1,(.const (.string ⟨#[107,110,105,116,32,43,32,48,32,49]⟩))),(10,1,(.const (.string ⟨#[107,110,105,116,32,43,32,102,48]⟩))),(11,1,(.const (.string ⟨#[107,110,105,116,32,42,32,102,48,32,49]⟩))),(12,1,(.const (.string ⟨#[107,110,105,116,32,43,32,102,48,32,49,32,49]⟩))),(13,1,(.const (.string ⟨#[107,110,105,116,32,43,32,103,48,32,49]⟩))),(14,1,(.const (.string ⟨#[107,110,105,116,32,43,32,102,32,49]⟩))),(15,1,(.const (.string ⟨#[107,110,105,116,32,43,32,102,45,48,32,49]⟩))),(16,1,(.const (.string ⟨#[107,110,105,116,32,43,32,102,49,48,49,32,49]⟩))),(17,1,(.const (.string ⟨#[120,102,101,114,32,102,48,32,102,49]⟩))),(18,1,(.const (.string ⟨#[120,102,101,114,32,102,48]⟩))),(19,1,(.const (.string ⟨#[115,112,108,105,116,32,43,32,102,48,32,102,49,32,49]⟩))),(20,1,(.const (.string ⟨#[114,97,99,107,32,57]⟩))),(21,1,(.const (.string ⟨#[114,97,99,107,32,43,49]⟩))),(22,1,(.const (.string ⟨#[114,97,99,107,32,45,45,49]⟩))),(23,1,(.const (.string ⟨#[100,114,111,112,32,49]⟩))),(24,1,(.const (.string ⟨#[68,114,111,112,32,102,49]⟩))),(25,1,(.const (.string ⟨#[109,111,118,101,32,102,49,32,98,49]⟩))),(26,1,(.const (.string ⟨#[114,97,99,107,32,48,48,48,48,48,48,48,48]⟩)))]),
  O1 13 (.mov (.tmp 89))] [2,9,10,11,12,13]) (.seq (.seq (.ops [O1 14 (.mov (.const (.int .i64 0)))] [2,9,10,11,12,13,14]) (.block 2 (.loop [2,9,10,11,12,13,14] c5l0))) (.seq (.ops [O1 112 (.callF 15 [(.const (.string ⟨#[105,110,32,49]⟩))]),O1 111 (.mov (.tmp 112)),O1 113 (.ext (.tmp 111) 0),O1 114 (.ext (.tmp 111) 1),O1 115 (.ext (.tmp 111) 2),O1 17 (.mov (.tmp 113)),O1 18 (.mov (.tmp 114)),O1 19 (.mov (.tmp 115))] [2,9,10,11,12,18,19]) (.seq (.ops [O1 117 (.callF 15 [(.const (.string ⟨#[105,110,32,49,10,10]⟩))]),O1 116 (.mov (.tmp 117)),O1 118 (.ext (.tmp 116) 0),O1 119 (.ext (.tmp 116) 1),O1 120 (.ext (.tmp 116) 2),O1 20 (.mov (.tmp 118)),O1 21 (.mov (.tmp 119)),O1 22 (.mov (.tmp 120))] [2,9,10,11,12,18,19,21,22]) (.seq (.ops [O1 122 (.callF 15 [(.const (.string ⟨#[]⟩))]),O1 121 (.mov (.tmp 122)),O1 123 (.ext (.tmp 121) 0),O1 124 (.ext (.tmp 121) 1),O1 125 (.ext (.tmp 121) 2),O1 23 (.mov (.tmp 123)),O1 24 (.mov (.tmp 124)),O1 25 (.mov (.tmp 125))] [2,9,10,11,12,18,19,21,22,23,24,25]) (.seq (.ops [O1 127 (.build [(.int .u8 0),(.bool false),(.int .u8 0),(.int .i64 0),(.int .i64 0),(.int .i64 0),(.int .i64 0)] []),O1 128 (.callF 8 [.tmp 127]),O1 126 (.mov (.tmp 128)),O1 129 (.ext (.tmp 126) 0),O1 130 (.ext (.tmp 126) 1),O1 26 (.mov (.tmp 129)),O1 27 (.mov (.tmp 130))] [2,9,10,11,12,18,19,21,22,23,24,25,27]) (.seq (.ops [O1 132 (.mkSlice 23 7 40 [(.int .u8 0),(.bool false),(.int .u8 0),(.int .i64 0),(.int .i64 0),(.int .i64 0),(.int .i64 0)] (.const (.int .i64 2001)) (.const (.int .i64 2001))),O1 133 (.callF 13 [.tmp 132]),O1 131 (.mov (.tmp 133)),O1 134 (.ext (.tmp 131) 0),O1 135 (.ext (.tmp 131) 1),O1 28 (.mov (.tmp 134)),O1 29 (.mov (.tmp 135))] [2,9,10,11,12,18,19,21,22,23,24,25,27,29]) (.seq (.ops [O1 137 (.mkSlice 23 7 40 [(.int .u8 0),(.bool false),(.int .u8 0),(.int .i64 0),(.int .i64 0),(.int .i64 0),(.int .i64 0)] (.const (.int .i64 1)) (.const (.int .i64 1))),O1 138 (.callF 17 [.tmp 137]),O1 136 (.mov (.tmp 138)),O1 139 (.ext (.tmp 136) 0),O1 140 (.ext (.tmp 136) 1),O1 30 (.mov (.tmp 139)),O1 31 (.mov (.tmp 140))] [2,9,10,11,12,18,19,21,22,23,24,25,27,29,31]) (.seq (.ops [O1 142 (.mkSlice 23 7 40 [(.int .u8 0),(.bool false),(.int .u8 0),(.int .i64 0),(.int .i64 0),(.int .i64 0),(.int .i64 0)] (.const (.int .i64 2001)) (.const (.int .i64 2001))),O1 143 (.callF 17 [.tmp 142]),O1 141 (.mov (.tmp 143)),O1 144 (.ext (.tmp 141) 0),O1 145 (.ext (.tmp 141) 1),O1 32 (.mov (.tmp 144)),O1 33 (.mov (.tmp 145))] [2,9,10,11,12,18,19,21,22,23,24,25,27,29,31,33]) (.seq (.ops [O1 147 (.mkSlice 23 7 40 [(.int .u8 0),(.bool false),(.int .u8 0),(.int .i64 0),(.int .i64 0),(.int .i64 0),(.int .i64 0)] (.const (.int .i64 1)) (.const (.int .i64 1))),O1 148 (.callF 13 [.tmp 147]),O1 146 (.mov (.tmp 148)),O1 149 (.ext (.tmp 146) 0),O1 150 (.ext (.tmp 146) 1),O1 34 (.mov (.tmp 149)),O1 35 (.mov (.tmp 150))] [2,9,10,11,12,18,19,21,22,23,24,25,27,29,31,33,35]) (.seq (.ops [O1 151 (.mov (.const (.bool true))),⟨some 152,some (151,true),.callF 20 []⟩,O1 153 (.pick (.tmp 151) (.tmp 152) (.const (.bool false))),
  O1 154 (.mov (.tmp 153)),⟨some 155,some (154,true),.mov (.tmp 10)⟩,⟨some 156,some (154,true),.bin .eql (.tmp 155) (.const (.int .i64 0))⟩,O1 157 (.pick (.tmp 154) (.tmp 156) (.const (.bool false))),O1 158 (.mov (.tmp 157)),⟨some 159,some (158,true),.mov (.tmp 9)⟩,⟨some 160,some (158,true),.bin .eql (.tmp 159) (.const (.int .i64 0))⟩,O1 161 (.pick (.tmp 158) (.tmp 160) (.const (.bool false))),O1 162 (.mov (.tmp 161)),⟨some 163,some (162,true),.mov (.tmp 12)⟩,⟨some 164,some (162,true),.bin .eql (.tmp 163) (.const (.int .i64 0))⟩,O1 165 (.pick (.tmp 162) (.tmp 164) (.const (.bool false))),O1 166 (.mov (.tmp 165)),⟨some 167,some (166,true),.mov (.tmp 11)⟩,⟨some 168,some (166,true),.mov (.tmp 2)⟩,⟨some 169,some (166,true),.bin .eql (.tmp 167) (.tmp 168)⟩,O1 170 (.pick (.tmp 166) (.tmp 169) (.const (.bool false))),O1 171 (.mov (.tmp 170)),⟨some 172,some (171,true),.mov (.tmp 19)⟩,⟨some 173,some (171,true),.bin .eql (.tmp 172) (.const (.int .i64 12))⟩,O1 174 (.pick (.tmp 171) (.tmp 173) (.const (.bool false))),O1 175 (.mov (.tmp 174)),⟨some 176,some (175,true),.mov (.tmp 18)⟩,⟨some 177,some (175,true),.bin .eql (.tmp 176) (.const (.int .i64 0))⟩,O1 178 (.pick (.tmp 175) (.tmp 177) (.const (.bool false))),O1 179 (.mov (.tmp 178)),⟨some 180,some (179,true),.mov (.tmp 22)⟩,⟨some 181,some (179,true),.bin .eql (.tmp 180) (.const (.int .i64 12))⟩,O1 182 (.pick (.tmp 179) (.tmp 181) (.const (.bool false))),O1 183 (.mov (.tmp 182)),⟨some 184,some (183,true),.mov (.tmp 21)⟩,⟨some 185,some (183,true),.bin .eql (.tmp 184) (.const (.int .i64 1))⟩,O1 186 (.pick (.tmp 183) (.tmp 185) (.const (.bool false))),O1 187 (.mov (.tmp 186)),⟨some 188,some (187,true),.mov (.tmp 25)⟩,⟨some 189,some (187,true),.bin .eql (.tmp 188) (.const (.int .i64 0))⟩,O1 190 (.pick (.tmp 187) (.tmp 189) (.const (.bool false))),O1 191 (.mov (.tmp 190)),⟨some 192,some (191,true),.mov (.tmp 24)⟩,⟨some 193,some (191,true),.bin .eql (.tmp 192) (.const (.int .i64 0))⟩,O1 194 (.pick (.tmp 191) (.tmp 193) (.const (.bool false))),O1 195 (.mov (.tmp 194)),⟨some 196,some (195,true),.mov (.tmp 23)⟩,⟨some 197,some (195,true),.len false (.tmp 196)⟩,⟨some 198,some (195,true),.bin .eql (.tmp 197) (.const (.int .i64 0))⟩,O1 199 (.pick (.tmp 195) (.tmp 198) (.const (.bool false))),O1 36 (.mov (.tmp 199))] [27,29,31,33,35,36]) (.seq (.ops [O1 200 (.mov (.tmp 36)),O1 201 (.mov (.tmp 200)),⟨some 202,some (201,true),.mov (.tmp 27)⟩,⟨some 203,some (201,true),.bin .eql (.tmp 202) (.const (.int .i64 8))⟩,O1 204 (.pick (.tmp 201) (.tmp 203) (.const (.bool false))),O1 205 (.mov (.tmp 204)),⟨some 206,some (205,true),.mov (.tmp 29)⟩,⟨some 207,some (205,true),.bin .eql (.tmp 206) (.const (.int .i64 4))⟩,O1 208 (.pick (.tmp 205) (.tmp 207) (.const (.bool false))),O1 209 (.mov (.tmp 208)),⟨some 210,some (209,true),.mov (.tmp 31)⟩,⟨some 211,some (209,true),.bin .eql (.tmp 210) (.const (.int .i64 8))⟩,O1 212 (.pick (.tmp 209) (.tmp 211) (.const (.bool false))),O1 213 (.mov (.tmp 212)),⟨some 214,some (213,true),.mov (.tmp 33)⟩,
  ⟨some 215,some (213,true),.bin .eql (.tmp 214) (.const (.int .i64 4))⟩,O1 216 (.pick (.tmp 213) (.tmp 215) (.const (.bool false))),O1 217 (.mov (.tmp 216)),⟨some 218,some (217,true),.mov (.tmp 35)⟩,⟨some 219,some (217,true),.bin .eql (.tmp 218) (.const (.int .i64 8))⟩,O1 220 (.pick (.tmp 217) (.tmp 219) (.const (.bool false))),O1 221 (.mov (.tmp 220)),⟨some 222,some (221,true),.callF 21 []⟩,O1 223 (.pick (.tmp 221) (.tmp 222) (.const (.bool false))),O1 0 (.mov (.tmp 223))] [0]) (.ret)))))))))))))))))),224,[(0,none)],true⟩
theorem ok5:FunOK Tryd.prog 5 c5:= .code ⟨Tryd.f5,_,c5.code,Tryd.func5,rfl,by kernel_rfl,rfl,by kernel_rfl,by kernel_rfl⟩
/- raddle/code.Line -/
def c8:AFun:=⟨.seq (.ops [O1 1 (.box 23 (.tmp 0)),O1 2 (.mov (.const (.string ⟨#[]⟩))),O1 3 (.mov (.const (.int .i64 0)))] [1]) (.seq (.seq (.ops [O1 5 (.load (some 7) (.tmp 1)),O1 6 (.callF 22 [.tmp 5]),O1 4 (.mov (.tmp 6))] [1,4]) (.seq (.ops [O1 7 (.mov (.tmp 4)),O1 8 (.bin .neq (.tmp 7) (.const (.int .i64 0)))] [1,4,8]) (.cond (.tmp 8) (.seq (.ops [O1 9 (.mov (.tmp 4)),O1 2 (.mov (.const (.string ⟨#[]⟩))),O1 3 (.mov (.tmp 9))] [2,3]) (.ret)) (.skip)))) (.seq (.ops [O1 10 (.load (some 7) (.tmp 1)),O1 11 (.callF 23 [.tmp 10]),O1 2 (.mov (.tmp 11)),O1 3 (.mov (.const (.int .i64 0)))] [2,3]) (.ret))),12,[(2,none),(3,none)],true⟩
theorem ok8:FunOK Tryd.prog 8 c8:= .code ⟨Tryd.f8,_,c8.code,Tryd.func8,rfl,by kernel_rfl,rfl,by kernel_rfl,by kernel_rfl⟩
/- raddle/code.Read -/
def c10l0:AC:= .seq (.ops [O1 33 (.nextS (.tmp 32)),O1 34 (.ext (.tmp 33) 0)] [0,2,5,8,32,33,34]) (.seq (.cond (.tmp 34) (.skip) (.exit 0)) (.block 1 (.seq (.ops [O1 35 (.ext (.tmp 33) 2),O1 10 (.mov (.tmp 35))] [0,2,5,8,10,32]) (.seq (.ops [O1 11 (.mov (.const (.string ⟨#[]⟩)))] [0,2,5,8,10,32]) (.seq (.ops [O1 37 (.mov (.tmp 5)),O1 38 (.callF 26 [(.tmp 37),(.const (.string ⟨#[32]⟩))]),O1 36 (.mov (.tmp 38)),O1 39 (.ext (.tmp 36) 0),O1 40 (.ext (.tmp 36) 1),O1 41 (.ext (.tmp 36) 2),O1 11 (.mov (.tmp 39)),O1 5 (.mov (.tmp 40))] [0,2,5,8,10,11,32]) (.seq (.ops [O1 42 (.mov (.tmp 10))] [0,2,5,8,11,32,42]) (.block 2 (.seq (.ops [O1 44 (.bin .eql (.tmp 42) (.const (.int .i32 100))),O1 43 (.mov (.tmp 44))] [0,2,5,8,11,32,42,43]) (.cond (.tmp 43) (.ops [O1 45 (.mov (.tmp 11)),O1 46 (.bin .eql (.tmp 45) (.const (.string ⟨#[43]⟩))),O1 47 (.fldA 1 (.tmp 8)),⟨none,none,.store 1 (.tmp 47) (.tmp 46)⟩] [0,2,5,8,32]) (.seq (.ops [O1 49 (.bin .eql (.tmp 42) (.const (.int .i32 110))),O1 48 (.mov (.tmp 49))] [0,2,5,8,11,32,42,48]) (.cond (.tmp 48) (.ops [O1 51 (.mov (.tmp 11)),O1 52 (.callF 30 [.tmp 51]),O1 50 (.mov (.tmp 52)),O1 53 (.ext (.tmp 50) 0),O1 54 (.ext (.tmp 50) 1),O1 55 (.fldA 2 (.tmp 8)),⟨none,none,.store 1 (.tmp 55) (.tmp 53)⟩,O1 56 (.fldA 3 (.tmp 8)),⟨none,none,.store 1 (.tmp 56) (.tmp 54)⟩] [0,2,5,8,32]) (.seq (.ops [O1 58 (.bin .eql (.tmp 42) (.const (.int .i32 111))),O1 57 (.mov (.tmp 58))] [0,2,5,8,11,32,42,57]) (.cond (.tmp 57) (.ops [O1 60 (.mov (.tmp 11)),O1 61 (.callF 30 [.tmp 60]),O1 59 (.mov (.tmp 61)),O1 62 (.ext (.tmp 59) 0),O1 63 (.ext (.tmp 59) 1),O1 64 (.fldA 4 (.tmp 8)),⟨none,none,.store 1 (.tmp 64) (.tmp 63)⟩] [0,2,5,8,32]) (.seq (.ops [O1 66 (.bin .eql (.tmp 42) (.const (.int .i32 99))),O1 65 (.mov (.tmp 66))] [0,2,5,8,11,32,42,65]) (.cond (.tmp 65) (.ops [O1 68 (.mov (.tmp 11)),O1 69 (.callF 31 [.tmp 68]),O1 67 (.mov (.tmp 69)),O1 70 (.ext (.tmp 67) 0),O1 71 (.ext (.tmp 67) 1),O1 72 (.fldA 5 (.tmp 8)),⟨none,none,.store 1 (.tmp 72) (.tmp 70)⟩] [0,2,5,8,32]) (.seq (.ops [O1 74 (.bin .eql (.tmp 42) (.const (.int .i32 114))),O1 73 (.mov (.tmp 74))] [0,2,5,8,11,32,73]) (.cond (.tmp 73) (.ops [O1 76 (.mov (.tmp 11)),O1 77 (.callF 31 [.tmp 76]),O1 75 (.mov (.tmp 77)),O1 78 (.ext (.tmp 75) 0),O1 79 (.ext (.tmp 75) 1),O1 80 (.fldA 6 (.tmp 8)),⟨none,none,.store 1 (.tmp 80) (.tmp 78)⟩] [0,2,5,8,32]) (.skip))))))))))))))))))
def c10:AFun:=⟨.seq (.ops [O1 2 (.alloc 23 [(1,(.int .u8 0)),(1,(.bool false)),(1,(.int .u8 0)),(4,(.int .i64 0))]),O1 3 (.mov (.const (.int .i64 0)))] [0,2]) (.seq (.ops [O1 13 (.mov (.tmp 0)),O1 14 (.callF 26 [(.tmp 13),(.const (.string ⟨#[32]⟩))]),O1 12 (.mov (.tmp 14)),O1 15 (.ext (.tmp 12) 0),O1 16 (.ext (.tmp 12) 1),O1 17 (.ext (.tmp 12) 2),O1 4 (.alloc 9 [(1,(.string ⟨#[]⟩))]),⟨none,none,.store 1 (.tmp 4) (.tmp 15)⟩,O1 5 (.mov (.tmp 16)),O1 6 (.mov (.tmp 17))] [0,2,4,5]) (.seq (.ops [O1 18 (.callF 28 []),O1 19 (.mkFn 29 [] [.tmp 4]),O1 20 (.callF 27 [(.tmp 18),(.tmp 19)]),O1 7 (.mov (.tmp 20))] [0,2,5,7]) (.seq (.seq (.ops [O1 21 (.mov (.tmp 7)),O1 22 (.bin .lss (.tmp 21) (.const (.int .i64 1)))] [0,2,5,7,22]) (.cond (.tmp 22) (.seq (.ops [O1 23 (.build [(.int .u8 0),(.bool false),(.int .u8 0),(.int .i64 0),(.int .i64 0),(.int .i64 0),(.int .i64 0)] []),⟨none,none,.store 7 (.tmp 2) (.tmp 23)⟩,O1 3 (.mov (.const (.int .i64 12)))] [2,3]) (.ret)) (.skip))) (.seq (.ops [O1 24 (.mov (.tmp 7)),O1 25 (.convI .u8 (.tmp 24)),O1 26 (.build [(.int .u8 0),(.bool false),(.int .u8 0),(.int .i64 0),(.int .i64 0),(.int .i64 0),(.int .i64 0)] [(0,1,(.tmp 25))]),O1 8 (.alloc 23 [(1,(.int .u8 0)),(1,(.bool false)),(1,(.int .u8 0)),(4,(.int .i64 0))]),⟨none,none,.store 7 (.tmp 8) (.tmp 26)⟩] [0,2,5,7,8]) (.seq (.seq (.ops [O1 27 (.callF 28 []),O1 28 (.mov (.tmp 7)),O1 29 (.idxS 2 (.tmp 27) (.tmp 28)),O1 30 (.fldA 1 (.tmp 29)),O1 31 (.load none (.tmp 30)),O1 32 (.rangeS (.tmp 31))] [0,2,5,8,32]) (.block 0 (.loop [0,2,5,8,32] c10l0))) (.seq (.seq (.ops [O1 81 (.load (some 7) (.tmp 8)),O1 82 (.callF 22 [.tmp 81]),O1 83 (.bin .neq (.tmp 82) (.const (.int .i64 0))),O1 84 (.mov (.tmp 83)),⟨some 85,some (84,false),.load (some 7) (.tmp 8)⟩,⟨some 86,some (84,false),.callF 23 [.tmp 85]⟩,⟨some 87,some (84,false),.mov (.tmp 0)⟩,⟨some 88,some (84,false),.bin .neq (.tmp 86) (.tmp 87)⟩,O1 89 (.pick (.tmp 84) (.const (.bool true)) (.tmp 88))] [2,8,89]) (.cond (.tmp 89) (.seq (.ops [O1 90 (.build [(.int .u8 0),(.bool false),(.int .u8 0),(.int .i64 0),(.int .i64 0),(.int .i64 0),(.int .i64 0)] []),⟨none,none,.store 7 (.tmp 2) (.tmp 90)⟩,O1 3 (.mov (.const (.int .i64 12)))] [2,3]) (.ret)) (.skip))) (.seq (.ops [O1 91 (.load (some 7) (.tmp 8)),⟨none,none,.store 7 (.tmp 2) (.tmp 91)⟩,O1 3 (.mov (.const (.int .i64 0)))] [2,3]) (.ret)))))))),92,[(2,(some (some 7))),(3,none)],true⟩
theorem ok10:FunOK Tryd.prog 10 c10:= .code ⟨Tryd.f10,_,c10.code,Tryd.func10,rfl,by kernel_rfl,rfl,by kernel_rfl,by kernel_rfl⟩
/- raddle/code.Text -/
def c13l0:AC:= .seq (.ops [O1 15 (.bin .lss (.tmp 14) (.tmp 13))] [4,12,13,14,15]) (.seq (.cond (.tmp 15) (.skip) (.exit 0)) (.seq (.block 1 (.seq (.ops [O1 16 (.idxS 7 (.tmp 12) (.tmp 14)),O1 17 (.load (some 7) (.tmp 16)),O1 6 (.alloc 23 [(1,(.int .u8 0)),(1,(.bool false)),(1,(.int .u8 0)),(4,(.int .i64 0))]),⟨none,none,.store 7 (.tmp 6) (.tmp 17)⟩] [4,6,12,13,14]) (.seq (.ops [O1 19 (.load (some 7) (.tmp 6)),O1 20 (.callF 8 [.tmp 19]),O1 18 (.mov (.tmp 20)),O1 21 (.ext (.tmp 18) 0),O1 22 (.ext (.tmp 18) 1),O1 7 (.mov (.tmp 21)),O1 8 (.mov (.tmp 22))] [4,7,8,12,13,14]) (.seq (.seq (.ops [O1 23 (.mov (.tmp 8)),O1 24 (.bin .neq (.tmp 23) (.const (.int .i64 0)))] [4,7,8,12,13,14,24]) (.cond (.tmp 24) (.seq (.ops [O1 25 (.mov (.tmp 8)),O1 2 (.mov (.const (.string ⟨#[]⟩))),O1 3 (.mov (.tmp 25))] [2,3]) (.ret)) (.skip))) (.ops [O1 26 (.mov (.tmp 7)),O1 27 (.bin .add (.tmp 26) (.const (.string ⟨#[10]⟩))),O1 28 (.callF 36 [(.tmp 4),(.tmp 27)])] [4,12,13,14]))))) (.ops [O1 29 (.bin .add (.tmp 14) (.const (.int .i64 1))),O1 14 (.mov (.tmp 29))] [4,12,13,14])))
def c13:AFun:=⟨.seq (.ops [O1 2 (.mov (.const (.string ⟨#[]⟩))),O1 3 (.mov (.const (.int .i64 0)))] [0]) (.seq (.seq (.ops [O1 9 (.mov (.tmp 0)),O1 10 (.len false (.tmp 9)),O1 11 (.bin .gtr (.tmp 10) (.const (.int .i64 2000)))] [0,11]) (.cond (.tmp 11) (.seq (.ops [O1 2 (.mov (.const (.string ⟨#[]⟩))),O1 3 (.mov (.const (.int .i64 4)))] [2,3]) (.ret)) (.skip))) (.seq (.ops [O1 4 (.alloc 77 [(1,(.pointer none)),(1,(.slice none 0 0))])] [0,4]) (.seq (.seq (.ops [O1 12 (.mov (.tmp 0)),O1 13 (.len false (.tmp 12)),O1 14 (.mov (.const (.int .i64 0)))] [4,12,13,14]) (.block 0 (.loop [4,12,13,14] c13l0))) (.seq (.seq (.ops [O1 30 (.callF 37 [.tmp 4]),O1 31 (.bin .gtr (.tmp 30) (.const (.int .i64 40000)))] [4,31]) (.cond (.tmp 31) (.seq (.ops [O1 2 (.mov (.const (.string ⟨#[]⟩))),O1 3 (.mov (.const (.int .i64 4)))] [2,3]) (.ret)) (.skip))) (.seq (.ops [O1 32 (.callF 38 [.tmp 4]),O1 2 (.mov (.tmp 32)),O1 3 (.mov (.const (.int .i64 0)))] [2,3]) (.ret)))))),33,[(2,none),(3,none)],true⟩
theorem ok13:FunOK Tryd.prog 13 c13:= .code ⟨Tryd.f13,_,c13.code,Tryd.func13,rfl,by kernel_rfl,rfl,by kernel_rfl,by kernel_rfl⟩
/- raddle/code.Parse -/
def c15l0:AC:= .seq (.seq (.ops [O1 18 (.mov (.tmp 0)),O1 19 (.bin .neq (.tmp 18) (.const (.string ⟨#[]⟩)))] [0,2,19]) (.cond (.tmp 19) (.skip) (.exit 0))) (.block 1 (.seq (.ops [O1 21 (.mov (.tmp 0)),O1 22 (.callF 26 [(.tmp 21),(.const (.string ⟨#[10]⟩))]),O1 20 (.mov (.tmp 22)),O1 23 (.ext (.tmp 20) 0),O1 24 (.ext (.tmp 20) 1),O1 25 (.ext (.tmp 20) 2),O1 5 (.mov (.tmp 23)),O1 6 (.mov (.tmp 24)),O1 7 (.mov (.tmp 25))] [2,5,6,7]) (.seq (.ops [O1 27 (.mov (.tmp 5)),O1 28 (.callF 10 [.tmp 27]),O1 26 (.mov (.tmp 28)),O1 29 (.ext (.tmp 26) 0),O1 30 (.ext (.tmp 26) 1),O1 8 (.alloc 23 [(1,(.int .u8 0)),(1,(.bool false)),(1,(.int .u8 0)),(4,(.int .i64 0))]),⟨none,none,.store 7 (.tmp 8) (.tmp 29)⟩,O1 9 (.mov (.tmp 30))] [2,6,7,8,9]) (.seq (.seq (.ops [O1 31 (.mov (.tmp 7)),O1 32 (.un .not (.tmp 31)),O1 33 (.mov (.tmp 32)),⟨some 34,some (33,false),.mov (.tmp 9)⟩,⟨some 35,some (33,false),.bin .neq (.tmp 34) (.const (.int .i64 0))⟩,O1 36 (.pick (.tmp 33) (.const (.bool true)) (.tmp 35))] [2,6,8,36]) (.cond (.tmp 36) (.seq (.ops [O1 37 (.mov (.tmp 2)),O1 38 (.len false (.tmp 37)),O1 2 (.mov (.const (.slice none 0 0))),O1 3 (.mov (.tmp 38)),O1 4 (.mov (.const (.int .i64 12)))] [2,3,4]) (.ret)) (.skip))) (.ops [O1 39 (.mov (.tmp 2)),O1 40 (.load (some 7) (.tmp 8)),O1 41 (.mkRow 23 7 1 [(.int .u8 0),(.bool false),(.int .u8 0),(.int .i64 0),(.int .i64 0),(.int .i64 0),(.int .i64 0)] [(0,7,(.tmp 40))]),O1 42 (.app 23 7 40 (.tmp 39) (.tmp 41)),O1 43 (.mov (.tmp 6)),O1 2 (.mov (.tmp 42)),O1 0 (.mov (.tmp 43))] [0,2])))))
def c15:AFun:=⟨.seq (.ops [O1 2 (.mov (.const (.slice none 0 0))),O1 3 (.mov (.const (.int .i64 0))),O1 4 (.mov (.const (.int .i64 0)))] [0,2]) (.seq (.seq (.ops [O1 10 (.mov (.tmp 0)),O1 11 (.len true (.tmp 10)),O1 12 (.bin .gtr (.tmp 11) (.const (.int .i64 40000))),O1 13 (.mov (.tmp 12)),⟨some 14,some (13,false),.mov (.tmp 0)⟩,⟨some 15,some (13,false),.callF 39 [(.tmp 14),(.const (.string ⟨#[10]⟩))]⟩,⟨some 16,some (13,false),.bin .gtr (.tmp 15) (.const (.int .i64 2000))⟩,O1 17 (.pick (.tmp 13) (.const (.bool true)) (.tmp 16))] [0,2,17]) (.cond (.tmp 17) (.seq (.ops [O1 2 (.mov (.const (.slice none 0 0))),O1 3 (.mov (.const (.int .i64 0))),O1 4 (.mov (.const (.int .i64 4)))] [2,3,4]) (.ret)) (.skip))) (.seq (.block 0 (.loop [0,2] c15l0)) (.seq (.ops [O1 44 (.mov (.tmp 2)),O1 2 (.mov (.tmp 44)),O1 3 (.mov (.const (.int .i64 0))),O1 4 (.mov (.const (.int .i64 0)))] [2,3,4]) (.ret)))),45,[(2,none),(3,none),(4,none)],true⟩
theorem ok15:FunOK Tryd.prog 15 c15:= .code ⟨Tryd.f15,_,c15.code,Tryd.func15,rfl,by kernel_rfl,rfl,by kernel_rfl,by kernel_rfl⟩
/- raddle/code.Mirror -/
def c17l0:AC:= .seq (.ops [O1 17 (.bin .lss (.tmp 16) (.tmp 15))] [4,14,15,16,17]) (.seq (.cond (.tmp 17) (.skip) (.exit 0)) (.seq (.block 1 (.seq (.ops [O1 18 (.idxS 7 (.tmp 14) (.tmp 16)),O1 19 (.load (some 7) (.tmp 18)),O1 6 (.alloc 23 [(1,(.int .u8 0)),(1,(.bool false)),(1,(.int .u8 0)),(4,(.int .i64 0))]),⟨none,none,.store 7 (.tmp 6) (.tmp 19)⟩] [4,6,14,15,16]) (.seq (.seq (.ops [O1 20 (.load (some 7) (.tmp 6)),O1 21 (.callF 22 [.tmp 20]),O1 7 (.mov (.tmp 21))] [4,6,7,14,15,16]) (.seq (.ops [O1 22 (.mov (.tmp 7)),O1 23 (.bin .neq (.tmp 22) (.const (.int .i64 0)))] [4,6,7,14,15,16,23]) (.cond (.tmp 23) (.seq (.ops [O1 24 (.mov (.tmp 7)),O1 2 (.mov (.const (.slice none 0 0))),O1 3 (.mov (.tmp 24))] [2,3]) (.ret)) (.skip)))) (.seq (.draw [O1 25 (.fldA 1 (.tmp 6)),O1 26 (.load none (.tmp 25)),O1 27 (.callF 28 []),O1 28 (.fldA 0 (.tmp 6)),O1 29 (.load none (.tmp 28)),O1 30 (.idxS 2 (.tmp 27) (.tmp 29)),O1 31 (.fldA 1 (.tmp 30)),O1 32 (.load none (.tmp 31)),O1 33 (.callF 40 [(.tmp 32),(.const (.string ⟨#[100]⟩))])] [O1 34 (.eqB true (.tmp 26) (.tmp 33)),O1 35 (.fldA 1 (.tmp 6)),⟨none,none,.store 1 (.tmp 35) (.tmp 34)⟩] [[],[],[],[false,false,false],[true,false,false,false],[],[],[],[]] [4,6,14,15,16]) (.seq (.ops [O1 36 (.fldA 3 (.tmp 6)),O1 37 (.load none (.tmp 36)),O1 38 (.un .neg (.tmp 37)),O1 39 (.fldA 4 (.tmp 6)),O1 40 (.load none (.tmp 39)),O1 41 (.un .neg (.tmp 40)),O1 42 (.fldA 6 (.tmp 6)),O1 43 (.load none (.tmp 42)),O1 44 (.un .neg (.tmp 43)),O1 45 (.fldA 3 (.tmp 6)),⟨none,none,.store 1 (.tmp 45) (.tmp 38)⟩,O1 46 (.fldA 4 (.tmp 6)),⟨none,none,.store 1 (.tmp 46) (.tmp 41)⟩,O1 47 (.fldA 6 (.tmp 6)),⟨none,none,.store 1 (.tmp 47) (.tmp 44)⟩] [4,6,14,15,16]) (.ops [O1 48 (.mov (.tmp 4)),O1 49 (.load (some 7) (.tmp 6)),O1 50 (.mkRow 23 7 1 [(.int .u8 0),(.bool false),(.int .u8 0),(.int .i64 0),(.int .i64 0),(.int .i64 0),(.int .i64 0)] [(0,7,(.tmp 49))]),O1 51 (.app 23 7 40 (.tmp 48) (.tmp 50)),O1 4 (.mov (.tmp 51))] [4,14,15,16])))))) (.ops [O1 52 (.bin .add (.tmp 16) (.const (.int .i64 1))),O1 16 (.mov (.tmp 52))] [4,14,15,16])))
def c17:AFun:=⟨.seq (.ops [O1 2 (.mov (.const (.slice none 0 0))),O1 3 (.mov (.const (.int .i64 0)))] [0]) (.seq (.seq (.ops [O1 8 (.mov (.tmp 0)),O1 9 (.len false (.tmp 8)),O1 10 (.bin .gtr (.tmp 9) (.const (.int .i64 2000)))] [0,10]) (.cond (.tmp 10) (.seq (.ops [O1 2 (.mov (.const (.slice none 0 0))),O1 3 (.mov (.const (.int .i64 4)))] [2,3]) (.ret)) (.skip))) (.seq (.ops [O1 11 (.mov (.tmp 0)),O1 12 (.len false (.tmp 11)),O1 13 (.mkSlice 23 7 40 [(.int .u8 0),(.bool false),(.int .u8 0),(.int .i64 0),(.int .i64 0),(.int .i64 0),(.int .i64 0)] (.const (.int .i64 0)) (.tmp 12)),O1 4 (.mov (.tmp 13))] [0,4]) (.seq (.seq (.ops [O1 14 (.mov (.tmp 0)),O1 15 (.len false (.tmp 14)),O1 16 (.mov (.const (.int .i64 0)))] [4,14,15,16]) (.block 0 (.loop [4,14,15,16] c17l0))) (.seq (.ops [O1 53 (.mov (.tmp 4)),O1 2 (.mov (.tmp 53)),O1 3 (.mov (.const (.int .i64 0)))] [2,3]) (.ret))))),54,[(2,none),(3,none)],true⟩
theorem ok17:FunOK Tryd.prog 17 c17:= .code ⟨Tryd.f17,_,c17.code,Tryd.func17,rfl,by kernel_rfl,rfl,by kernel_rfl,by kernel_rfl⟩
/- raddle/raddlelaw33.alive -/
def c20:AFun:=⟨.seq (.ops [O1 0 (.mov (.const (.bool false)))] []) (.seq (.ops [O1 13 (.callF 42 []),O1 14 (.callF 8 [.tmp 13]),O1 12 (.mov (.tmp 14)),O1 15 (.ext (.tmp 12) 0),O1 16 (.ext (.tmp 12) 1),O1 1 (.mov (.tmp 15)),O1 2 (.mov (.tmp 16))] [1,2]) (.seq (.ops [O1 18 (.build [(.int .u8 0),(.bool false),(.int .u8 0),(.int .i64 0),(.int .i64 0),(.int .i64 0),(.int .i64 0)] [(0,1,(.const (.int .u8 7))),(3,1,(.const (.int .i64 1)))]),O1 19 (.callF 8 [.tmp 18]),O1 17 (.mov (.tmp 19)),O1 20 (.ext (.tmp 17) 0),O1 21 (.ext (.tmp 17) 1),O1 3 (.mov (.tmp 20)),O1 4 (.mov (.tmp 21))] [1,2,3,4]) (.seq (.ops [O1 23 (.callF 42 []),O1 24 (.mkRow 23 7 1 [(.int .u8 0),(.bool false),(.int .u8 0),(.int .i64 0),(.int .i64 0),(.int .i64 0),(.int .i64 0)] [(0,7,(.tmp 23))]),O1 25 (.callF 17 [.tmp 24]),O1 22 (.mov (.tmp 25)),O1 26 (.ext (.tmp 22) 0),O1 27 (.ext (.tmp 22) 1),O1 5 (.mov (.tmp 26)),O1 6 (.mov (.tmp 27))] [1,2,3,4,5,6]) (.seq (.ops [O1 29 (.mov (.tmp 5)),O1 30 (.callF 13 [.tmp 29]),O1 28 (.mov (.tmp 30)),O1 31 (.ext (.tmp 28) 0),O1 32 (.ext (.tmp 28) 1),O1 7 (.mov (.tmp 31)),O1 8 (.mov (.tmp 32))] [1,2,3,4,6,7,8]) (.seq (.ops [O1 34 (.callF 15 [(.const (.string ⟨#[105,110,32,49,10,114,97,99,107,32,57,10]⟩))]),O1 33 (.mov (.tmp 34)),O1 35 (.ext (.tmp 33) 0),O1 36 (.ext (.tmp 33) 1),O1 37 (.ext (.tmp 33) 2),O1 9 (.mov (.tmp 35)),O1 10 (.mov (.tmp 36)),O1 11 (.mov (.tmp 37))] [1,2,3,4,6,7,8,10,11]) (.seq (.ops [O1 38 (.mov (.tmp 2)),O1 39 (.bin .eql (.tmp 38) (.const (.int .i64 0))),O1 40 (.mov (.tmp 39)),⟨some 41,some (40,true),.mov (.tmp 1)⟩,⟨some 42,some (40,true),.bin .eql (.tmp 41) (.const (.string ⟨#[107,110,105,116,32,45,32,98,45,50,32,51]⟩))⟩,O1 43 (.pick (.tmp 40) (.tmp 42) (.const (.bool false))),O1 44 (.mov (.tmp 43)),⟨some 45,some (44,true),.mov (.tmp 4)⟩,⟨some 46,some (44,true),.bin .eql (.tmp 45) (.const (.int .i64 0))⟩,O1 47 (.pick (.tmp 44) (.tmp 46) (.const (.bool false))),O1 48 (.mov (.tmp 47)),⟨some 49,some (48,true),.mov (.tmp 3)⟩,⟨some 50,some (48,true),.bin .eql (.tmp 49) (.const (.string ⟨#[120,102,101,114,32,102,49,32,98,48]⟩))⟩,O1 51 (.pick (.tmp 48) (.tmp 50) (.const (.bool false))),O1 52 (.mov (.tmp 51)),⟨some 53,some (52,true),.mov (.tmp 6)⟩,⟨some 54,some (52,true),.bin .eql (.tmp 53) (.const (.int .i64 0))⟩,O1 55 (.pick (.tmp 52) (.tmp 54) (.const (.bool false))),O1 56 (.mov (.tmp 55)),⟨some 57,some (56,true),.mov (.tmp 8)⟩,⟨some 58,some (56,true),.bin .eql (.tmp 57) (.const (.int .i64 0))⟩,O1 59 (.pick (.tmp 56) (.tmp 58) (.const (.bool false))),O1 60 (.mov (.tmp 59)),⟨some 61,some (60,true),.mov (.tmp 7)⟩,⟨some 62,some (60,true),.bin .eql (.tmp 61) (.const (.string ⟨#[107,110,105,116,32,43,32,98,50,32,51,10]⟩))⟩,O1 63 (.pick (.tmp 60) (.tmp 62) (.const (.bool false))),O1 64 (.mov (.tmp 63)),⟨some 65,some (64,true),.mov (.tmp 11)⟩,⟨some 66,some (64,true),.bin .eql (.tmp 65) (.const (.int .i64 12))⟩,O1 67 (.pick (.tmp 64) (.tmp 66) (.const (.bool false))),O1 68 (.mov (.tmp 67)),⟨some 69,some (68,true),.mov (.tmp 10)⟩,⟨some 70,some (68,true),.bin .eql (.tmp 69) (.const (.int .i64 1))⟩,
  O1 71 (.pick (.tmp 68) (.tmp 70) (.const (.bool false))),O1 0 (.mov (.tmp 71))] [0]) (.ret))))))),72,[(0,none)],true⟩
theorem ok20:FunOK Tryd.prog 20 c20:= .code ⟨Tryd.f20,_,c20.code,Tryd.func20,rfl,by kernel_rfl,rfl,by kernel_rfl,by kernel_rfl⟩
/- raddle/raddlelaw33.long -/
def c21l0:AC:= .seq (.seq (.ops [O1 17 (.mov (.tmp 2)),O1 18 (.bin .lss (.tmp 17) (.const (.int .i64 2000)))] [1,2,18]) (.cond (.tmp 18) (.skip) (.exit 0))) (.seq (.block 1 (.ops [O1 21 (.mov (.tmp 1)),O1 22 (.mov (.tmp 2)),O1 23 (.build [(.int .u8 0),(.bool false),(.int .u8 0),(.int .i64 0),(.int .i64 0),(.int .i64 0),(.int .i64 0)] [(0,1,(.const (.int .u8 6))),(3,1,(.const (.int .i64 (-100)))),(4,1,(.const (.int .i64 (-100)))),(5,1,(.const (.int .i64 1)))]),O1 24 (.idxS 7 (.tmp 21) (.tmp 22)),⟨none,none,.store 7 (.tmp 24) (.tmp 23)⟩] [1,2])) (.ops [O1 19 (.mov (.tmp 2)),O1 20 (.bin .add (.tmp 19) (.const (.int .i64 1))),O1 2 (.mov (.tmp 20))] [1,2]))
def c21:AFun:=⟨.seq (.ops [O1 0 (.mov (.const (.bool false)))] []) (.seq (.ops [O1 16 (.mkSlice 23 7 40 [(.int .u8 0),(.bool false),(.int .u8 0),(.int .i64 0),(.int .i64 0),(.int .i64 0),(.int .i64 0)] (.const (.int .i64 2000)) (.const (.int .i64 2000))),O1 1 (.mov (.tmp 16))] [1]) (.seq (.seq (.ops [O1 2 (.mov (.const (.int .i64 0)))] [1,2]) (.block 0 (.loop [1,2] c21l0))) (.seq (.ops [O1 26 (.mov (.tmp 1)),O1 27 (.slc 7 (.tmp 26) none (some (.const (.int .i64 1818))) none),O1 28 (.callF 13 [.tmp 27]),O1 25 (.mov (.tmp 28)),O1 29 (.ext (.tmp 25) 0),O1 30 (.ext (.tmp 25) 1),O1 3 (.mov (.tmp 29)),O1 4 (.mov (.tmp 30))] [1,3,4]) (.seq (.ops [O1 32 (.mov (.tmp 1)),O1 33 (.slc 7 (.tmp 32) none (some (.const (.int .i64 1819))) none),O1 34 (.callF 13 [.tmp 33]),O1 31 (.mov (.tmp 34)),O1 35 (.ext (.tmp 31) 0),O1 36 (.ext (.tmp 31) 1),O1 5 (.mov (.tmp 35)),O1 6 (.mov (.tmp 36))] [3,4,6]) (.seq (.ops [O1 38 (.mov (.tmp 3)),O1 39 (.callF 15 [.tmp 38]),O1 37 (.mov (.tmp 39)),O1 40 (.ext (.tmp 37) 0),O1 41 (.ext (.tmp 37) 1),O1 42 (.ext (.tmp 37) 2),O1 7 (.mov (.tmp 40)),O1 8 (.mov (.tmp 41)),O1 9 (.mov (.tmp 42))] [3,4,6,7,9]) (.seq (.ops [O1 44 (.mov (.tmp 3)),O1 45 (.bin .add (.tmp 44) (.const (.string ⟨#[32,32,32,32]⟩))),O1 46 (.callF 15 [.tmp 45]),O1 43 (.mov (.tmp 46)),O1 47 (.ext (.tmp 43) 0),O1 48 (.ext (.tmp 43) 1),O1 49 (.ext (.tmp 43) 2),O1 10 (.mov (.tmp 47)),O1 11 (.mov (.tmp 48)),O1 12 (.mov (.tmp 49))] [3,4,6,7,9,11,12]) (.seq (.ops [O1 51 (.mov (.tmp 3)),O1 52 (.bin .add (.tmp 51) (.const (.string ⟨#[32,32,32,32,32]⟩))),O1 53 (.callF 15 [.tmp 52]),O1 50 (.mov (.tmp 53)),O1 54 (.ext (.tmp 50) 0),O1 55 (.ext (.tmp 50) 1),O1 56 (.ext (.tmp 50) 2),O1 13 (.mov (.tmp 54)),O1 14 (.mov (.tmp 55)),O1 15 (.mov (.tmp 56))] [3,4,6,7,9,11,12,15]) (.seq (.ops [O1 57 (.mov (.tmp 4)),O1 58 (.bin .eql (.tmp 57) (.const (.int .i64 0))),O1 59 (.mov (.tmp 58)),⟨some 60,some (59,true),.mov (.tmp 3)⟩,⟨some 61,some (59,true),.len true (.tmp 60)⟩,⟨some 62,some (59,true),.bin .eql (.tmp 61) (.const (.int .i64 39996))⟩,O1 63 (.pick (.tmp 59) (.tmp 62) (.const (.bool false))),O1 64 (.mov (.tmp 63)),⟨some 65,some (64,true),.mov (.tmp 6)⟩,⟨some 66,some (64,true),.bin .eql (.tmp 65) (.const (.int .i64 4))⟩,O1 67 (.pick (.tmp 64) (.tmp 66) (.const (.bool false))),O1 68 (.mov (.tmp 67)),⟨some 69,some (68,true),.mov (.tmp 9)⟩,⟨some 70,some (68,true),.bin .eql (.tmp 69) (.const (.int .i64 0))⟩,O1 71 (.pick (.tmp 68) (.tmp 70) (.const (.bool false))),O1 72 (.mov (.tmp 71)),⟨some 73,some (72,true),.mov (.tmp 7)⟩,⟨some 74,some (72,true),.len false (.tmp 73)⟩,⟨some 75,some (72,true),.bin .eql (.tmp 74) (.const (.int .i64 1818))⟩,O1 76 (.pick (.tmp 72) (.tmp 75) (.const (.bool false))),O1 77 (.mov (.tmp 76)),⟨some 78,some (77,true),.mov (.tmp 12)⟩,⟨some 79,some (77,true),.bin .eql (.tmp 78) (.const (.int .i64 12))⟩,O1 80 (.pick (.tmp 77) (.tmp 79) (.const (.bool false))),O1 81 (.mov (.tmp 80)),⟨some 82,some (81,true),.mov (.tmp 11)⟩,⟨some 83,some (81,true),.bin .eql (.tmp 82) (.const (.int .i64 1818))⟩,
  O1 84 (.pick (.tmp 81) (.tmp 83) (.const (.bool false))),O1 85 (.mov (.tmp 84)),⟨some 86,some (85,true),.mov (.tmp 15)⟩,⟨some 87,some (85,true),.bin .eql (.tmp 86) (.const (.int .i64 4))⟩,O1 88 (.pick (.tmp 85) (.tmp 87) (.const (.bool false))),O1 0 (.mov (.tmp 88))] [0]) (.ret))))))))),89,[(0,none)],true⟩
theorem ok21:FunOK Tryd.prog 21 c21:= .code ⟨Tryd.f21,_,c21.code,Tryd.func21,rfl,by kernel_rfl,rfl,by kernel_rfl,by kernel_rfl⟩
/- raddle/bed.Instr -/
def c22:AFun:=⟨.seq (.ops [O1 1 (.box 23 (.tmp 0)),O1 2 (.mov (.const (.int .i64 0)))] [1]) (.seq (.ops [O1 6 (.fldA 5 (.tmp 1)),O1 7 (.load none (.tmp 6)),O1 8 (.bin .geq (.tmp 7) (.const (.int .i64 1))),O1 9 (.mov (.tmp 8)),⟨some 10,some (9,true),.fldA 5 (.tmp 1)⟩,⟨some 11,some (9,true),.load none (.tmp 10)⟩,⟨some 12,some (9,true),.bin .leq (.tmp 11) (.const (.int .i64 6))⟩,O1 13 (.pick (.tmp 9) (.tmp 12) (.const (.bool false))),O1 3 (.mov (.tmp 13))] [1,3]) (.seq (.ops [O1 14 (.load (some 7) (.tmp 1)),O1 4 (.alloc 23 [(1,(.int .u8 0)),(1,(.bool false)),(1,(.int .u8 0)),(4,(.int .i64 0))]),⟨none,none,.store 7 (.tmp 4) (.tmp 14)⟩] [1,3,4]) (.seq (.ops [O1 15 (.fldA 0 (.tmp 4)),⟨none,none,.store 1 (.tmp 15) (.const (.int .u8 0))⟩] [1,3,4]) (.seq (.ops [O1 5 (.mov (.const (.bool true)))] [1,3,4,5]) (.seq (.seq (.ops [O1 16 (.fldA 0 (.tmp 1)),O1 17 (.load none (.tmp 16))] [1,3,4,5,17]) (.block 0 (.seq (.seq (.ops [O1 19 (.bin .eql (.tmp 17) (.const (.int .u8 1))),O1 18 (.mov (.tmp 19))] [1,3,4,5,17,18]) (.cond (.tmp 18) (.skip) (.ops [O1 20 (.bin .eql (.tmp 17) (.const (.int .u8 2))),O1 18 (.mov (.tmp 20))] [1,3,4,5,17,18]))) (.cond (.tmp 18) (.seq (.ops [O1 21 (.fldA 5 (.tmp 4)),⟨none,none,.store 1 (.tmp 21) (.const (.int .i64 0))⟩] [1,3,4]) (.ops [O1 22 (.mov (.tmp 3)),O1 5 (.mov (.tmp 22))] [1,4,5])) (.seq (.seq (.ops [O1 24 (.bin .eql (.tmp 17) (.const (.int .u8 3))),O1 23 (.mov (.tmp 24))] [1,3,4,5,17,23]) (.cond (.tmp 23) (.skip) (.seq (.ops [O1 25 (.bin .eql (.tmp 17) (.const (.int .u8 4))),O1 23 (.mov (.tmp 25))] [1,3,4,5,17,23]) (.cond (.tmp 23) (.skip) (.ops [O1 26 (.bin .eql (.tmp 17) (.const (.int .u8 5))),O1 23 (.mov (.tmp 26))] [1,3,4,5,17,23]))))) (.cond (.tmp 23) (.seq (.ops [O1 27 (.fldA 1 (.tmp 4)),⟨none,none,.store 1 (.tmp 27) (.const (.bool false))⟩,O1 28 (.fldA 2 (.tmp 4)),⟨none,none,.store 1 (.tmp 28) (.const (.int .u8 0))⟩,O1 29 (.fldA 3 (.tmp 4)),⟨none,none,.store 1 (.tmp 29) (.const (.int .i64 0))⟩,O1 30 (.fldA 5 (.tmp 4)),⟨none,none,.store 1 (.tmp 30) (.const (.int .i64 0))⟩] [1,3,4]) (.ops [O1 31 (.mov (.tmp 3)),O1 5 (.mov (.tmp 31))] [1,4,5])) (.seq (.ops [O1 33 (.bin .eql (.tmp 17) (.const (.int .u8 6))),O1 32 (.mov (.tmp 33))] [1,3,4,5,17,32]) (.cond (.tmp 32) (.seq (.ops [O1 34 (.fldA 6 (.tmp 1)),O1 35 (.load none (.tmp 34)),O1 36 (.build [(.int .u8 0),(.bool false),(.int .u8 0),(.int .i64 0),(.int .i64 0),(.int .i64 0),(.int .i64 0)] [(6,1,(.tmp 35))]),⟨none,none,.store 7 (.tmp 4) (.tmp 36)⟩] [1,3,4]) (.ops [O1 37 (.mov (.tmp 3)),O1 5 (.mov (.tmp 37))] [1,4,5])) (.seq (.ops [O1 39 (.bin .eql (.tmp 17) (.const (.int .u8 7))),O1 38 (.mov (.tmp 39))] [1,4,5,17,38]) (.cond (.tmp 38) (.ops [O1 40 (.fldA 2 (.tmp 4)),⟨none,none,.store 1 (.tmp 40) (.const (.int .u8 0))⟩,O1 41 (.fldA 3 (.tmp 4)),⟨none,none,.store 1 (.tmp 41) (.const (.int .i64 0))⟩,O1 42 (.fldA 4 (.tmp 4)),⟨none,none,.store 1 (.tmp 42) (.const (.int .i64 0))⟩] [1,4,5]) (.seq (.ops [O1 44 (.bin .eql (.tmp 17) (.const (.int .u8 8))),O1 43 (.mov (.tmp 44))] [1,4,5,17,43])
  (.cond (.tmp 43) (.seq (.ops [O1 45 (.fldA 6 (.tmp 4)),⟨none,none,.store 1 (.tmp 45) (.const (.int .i64 0))⟩] [1,4]) (.ops [O1 46 (.fldA 6 (.tmp 1)),O1 47 (.load none (.tmp 46)),O1 48 (.fldA 6 (.tmp 1)),O1 49 (.load none (.tmp 48)),O1 50 (.un .neg (.tmp 49)),O1 51 (.mm true (.tmp 47) (.tmp 50)),O1 52 (.bin .leq (.tmp 51) (.const (.int .i64 8))),O1 53 (.mov (.tmp 52)),⟨some 54,some (53,true),.fldA 6 (.tmp 1)⟩,⟨some 55,some (53,true),.load none (.tmp 54)⟩,⟨some 56,some (53,true),.bin .geq (.tmp 55) (.const (.int .i64 (-8)))⟩,O1 57 (.pick (.tmp 53) (.tmp 56) (.const (.bool false))),O1 5 (.mov (.tmp 57))] [1,4,5])) (.seq (.ops [O1 59 (.bin .eql (.tmp 17) (.const (.int .u8 9))),O1 58 (.mov (.tmp 59))] [1,4,5,58]) (.cond (.tmp 58) (.ops [O1 60 (.fldA 2 (.tmp 4)),⟨none,none,.store 1 (.tmp 60) (.const (.int .u8 0))⟩,O1 61 (.fldA 3 (.tmp 4)),⟨none,none,.store 1 (.tmp 61) (.const (.int .i64 0))⟩] [1,4,5]) (.ops [O1 5 (.mov (.const (.bool false)))] [1,4,5]))))))))))))))) (.seq (.seq (.ops [O1 62 (.mov (.tmp 5)),O1 63 (.un .not (.tmp 62)),O1 64 (.mov (.tmp 63)),⟨some 65,some (64,false),.load (some 7) (.tmp 4)⟩,⟨some 66,some (64,false),.build [(.int .u8 0),(.bool false),(.int .u8 0),(.int .i64 0),(.int .i64 0),(.int .i64 0),(.int .i64 0)] []⟩,⟨some 67,some (64,false),.eqAgg true [(0,0),(1,2),(2,0),(3,0),(4,0),(5,0),(6,0)] (.tmp 65) (.tmp 66)⟩,O1 68 (.pick (.tmp 64) (.const (.bool true)) (.tmp 67)),O1 69 (.mov (.tmp 68)),⟨some 70,some (69,false),.fldA 2 (.tmp 1)⟩,⟨some 71,some (69,false),.load none (.tmp 70)⟩,⟨some 72,some (69,false),.bin .gtr (.tmp 71) (.const (.int .u8 1))⟩,O1 73 (.pick (.tmp 69) (.const (.bool true)) (.tmp 72)),O1 74 (.mov (.tmp 73)),⟨some 75,some (74,false),.fldA 3 (.tmp 1)⟩,⟨some 76,some (74,false),.load none (.tmp 75)⟩,⟨some 77,some (74,false),.callF 43 [.tmp 76]⟩,⟨some 78,some (74,false),.un .not (.tmp 77)⟩,O1 79 (.pick (.tmp 74) (.const (.bool true)) (.tmp 78)),O1 80 (.mov (.tmp 79)),⟨some 81,some (80,false),.fldA 4 (.tmp 1)⟩,⟨some 82,some (80,false),.load none (.tmp 81)⟩,⟨some 83,some (80,false),.callF 43 [.tmp 82]⟩,⟨some 84,some (80,false),.un .not (.tmp 83)⟩,O1 85 (.pick (.tmp 80) (.const (.bool true)) (.tmp 84))] [85]) (.cond (.tmp 85) (.seq (.ops [O1 2 (.mov (.const (.int .i64 8)))] [2]) (.ret)) (.skip))) (.seq (.ops [O1 2 (.mov (.const (.int .i64 0)))] [2]) (.ret)))))))),86,[(2,none)],true⟩
theorem ok22:FunOK Tryd.prog 22 c22:= .code ⟨Tryd.f22,_,c22.code,Tryd.func22,rfl,by kernel_rfl,rfl,by kernel_rfl,by kernel_rfl⟩
/- raddle/code.line -/
def c23l0:AC:= .seq (.ops [O1 18 (.nextS (.tmp 17)),O1 19 (.ext (.tmp 18) 0)] [1,4,17,18,19]) (.seq (.cond (.tmp 19) (.skip) (.exit 0)) (.block 1 (.seq (.ops [O1 20 (.ext (.tmp 18) 2),O1 6 (.mov (.tmp 20))] [1,4,6,17]) (.seq (.ops [O1 21 (.mov (.tmp 6))] [1,4,17,21]) (.block 2 (.seq (.ops [O1 23 (.bin .eql (.tmp 21) (.const (.int .i32 100))),O1 22 (.mov (.tmp 23))] [1,4,17,21,22]) (.cond (.tmp 22) (.seq (.ops [O1 24 (.fldA 1 (.tmp 1)),O1 25 (.load none (.tmp 24))] [1,4,17,25]) (.cond (.tmp 25) (.ops [O1 26 (.mov (.tmp 4)),O1 27 (.mkRow 9 1 1 [(.string ⟨#[]⟩)] [(0,1,(.const (.string ⟨#[43]⟩)))]),O1 28 (.app 9 1 16 (.tmp 26) (.tmp 27)),O1 4 (.mov (.tmp 28))] [1,4,17]) (.ops [O1 29 (.mov (.tmp 4)),O1 30 (.mkRow 9 1 1 [(.string ⟨#[]⟩)] [(0,1,(.const (.string ⟨#[45]⟩)))]),O1 31 (.app 9 1 16 (.tmp 29) (.tmp 30)),O1 4 (.mov (.tmp 31))] [1,4,17]))) (.seq (.ops [O1 33 (.bin .eql (.tmp 21) (.const (.int .i32 110))),O1 32 (.mov (.tmp 33))] [1,4,17,21,32]) (.cond (.tmp 32) (.ops [O1 34 (.mov (.tmp 4)),O1 35 (.fldA 2 (.tmp 1)),O1 36 (.load none (.tmp 35)),O1 37 (.fldA 3 (.tmp 1)),O1 38 (.load none (.tmp 37)),O1 39 (.callF 44 [(.tmp 36),(.tmp 38)]),O1 40 (.mkRow 9 1 1 [(.string ⟨#[]⟩)] [(0,1,(.tmp 39))]),O1 41 (.app 9 1 16 (.tmp 34) (.tmp 40)),O1 4 (.mov (.tmp 41))] [1,4,17]) (.seq (.ops [O1 43 (.bin .eql (.tmp 21) (.const (.int .i32 111))),O1 42 (.mov (.tmp 43))] [1,4,17,21,42]) (.cond (.tmp 42) (.ops [O1 44 (.mov (.tmp 4)),O1 45 (.fldA 2 (.tmp 1)),O1 46 (.load none (.tmp 45)),O1 47 (.bin .sub (.const (.int .u8 1)) (.tmp 46)),O1 48 (.fldA 4 (.tmp 1)),O1 49 (.load none (.tmp 48)),O1 50 (.callF 44 [(.tmp 47),(.tmp 49)]),O1 51 (.mkRow 9 1 1 [(.string ⟨#[]⟩)] [(0,1,(.tmp 50))]),O1 52 (.app 9 1 16 (.tmp 44) (.tmp 51)),O1 4 (.mov (.tmp 52))] [1,4,17]) (.seq (.ops [O1 54 (.bin .eql (.tmp 21) (.const (.int .i32 99))),O1 53 (.mov (.tmp 54))] [1,4,17,21,53]) (.cond (.tmp 53) (.ops [O1 55 (.mov (.tmp 4)),O1 56 (.fldA 5 (.tmp 1)),O1 57 (.load none (.tmp 56)),O1 58 (.callF 45 [.tmp 57]),O1 59 (.mkRow 9 1 1 [(.string ⟨#[]⟩)] [(0,1,(.tmp 58))]),O1 60 (.app 9 1 16 (.tmp 55) (.tmp 59)),O1 4 (.mov (.tmp 60))] [1,4,17]) (.seq (.ops [O1 62 (.bin .eql (.tmp 21) (.const (.int .i32 114))),O1 61 (.mov (.tmp 62))] [1,4,17,61]) (.cond (.tmp 61) (.ops [O1 63 (.mov (.tmp 4)),O1 64 (.fldA 6 (.tmp 1)),O1 65 (.load none (.tmp 64)),O1 66 (.callF 45 [.tmp 65]),O1 67 (.mkRow 9 1 1 [(.string ⟨#[]⟩)] [(0,1,(.tmp 66))]),O1 68 (.app 9 1 16 (.tmp 63) (.tmp 67)),O1 4 (.mov (.tmp 68))] [1,4,17]) (.skip))))))))))))))))
def c23:AFun:=⟨.seq (.ops [O1 1 (.box 23 (.tmp 0)),O1 2 (.mov (.const (.string ⟨#[]⟩)))] [1]) (.seq (.draw [O1 7 (.callF 28 []),O1 8 (.fldA 0 (.tmp 1)),O1 9 (.load none (.tmp 8)),O1 10 (.idxS 2 (.tmp 7) (.tmp 9)),O1 11 (.load (some 2) (.tmp 10)),O1 3 (.alloc 59 [(2,(.string ⟨#[]⟩))])] [⟨none,none,.store 2 (.tmp 3) (.tmp 11)⟩] [[],[false],[true,false],[],[],[false,false,false,false,false]] [1,3]) (.seq (.ops [O1 12 (.fldA 0 (.tmp 3)),O1 13 (.load none (.tmp 12)),O1 14 (.mkRow 9 1 1 [(.string ⟨#[]⟩)] [(0,1,(.tmp 13))]),O1 4 (.mov (.tmp 14))] [1,3,4]) (.seq (.seq (.ops [O1 15 (.fldA 1 (.tmp 3)),O1 16 (.load none (.tmp 15)),O1 17 (.rangeS (.tmp 16))] [1,4,17]) (.block 0 (.loop [1,4,17] c23l0))) (.seq (.ops [O1 69 (.mov (.tmp 4)),O1 70 (.callF 46 [(.tmp 69),(.const (.string ⟨#[32]⟩))]),O1 2 (.mov (.tmp 70))] [2]) (.ret))))),71,[(2,none)],true⟩
theorem ok23:FunOK Tryd.prog 23 c23:= .code ⟨Tryd.f23,_,c23.code,Tryd.func23,rfl,by kernel_rfl,rfl,by kernel_rfl,by kernel_rfl⟩
/- strings.Cut -/
def c26:AFun:=⟨.seq (.ops [O1 4 (.mov (.const (.string ⟨#[]⟩))),O1 5 (.mov (.const (.string ⟨#[]⟩))),O1 6 (.mov (.const (.bool false)))] [0,1]) (.seq (.ops [O1 7 (.mov (.tmp 0)),O1 8 (.mov (.tmp 1)),O1 9 (.callF 51 [(.tmp 7),(.tmp 8)]),O1 10 (.ext (.tmp 9) 0),O1 11 (.ext (.tmp 9) 1),O1 12 (.ext (.tmp 9) 2),O1 4 (.mov (.tmp 10)),O1 5 (.mov (.tmp 11)),O1 6 (.mov (.tmp 12))] [4,5,6]) (.ret)),13,[(4,none),(5,none),(6,none)],true⟩
theorem ok26:FunOK Tryd.prog 26 c26:= .code ⟨Tryd.f26,_,c26.code,Tryd.func26,rfl,by kernel_rfl,rfl,by kernel_rfl,by kernel_rfl⟩
/- slices.IndexFunc[[]raddle/code.word,raddle/code.word] -/
def c27l0:AC:= .seq (.ops [O1 9 (.bin .lss (.tmp 8) (.tmp 7))] [0,1,7,8,9]) (.seq (.cond (.tmp 9) (.skip) (.exit 0)) (.seq (.block 1 (.seq (.ops [O1 10 (.mov (.tmp 8)),O1 5 (.mov (.tmp 10))] [0,1,5,7,8]) (.seq (.ops [O1 11 (.mov (.tmp 1)),O1 12 (.mov (.tmp 0)),O1 13 (.mov (.tmp 5)),O1 14 (.idxS 2 (.tmp 12) (.tmp 13)),O1 15 (.load (some 2) (.tmp 14)),O1 16 (.callV (.tmp 11) [.tmp 15])] [0,1,5,7,8,16]) (.cond (.tmp 16) (.seq (.ops [O1 17 (.mov (.tmp 5)),O1 4 (.mov (.tmp 17))] [4]) (.ret)) (.skip))))) (.ops [O1 18 (.bin .add (.tmp 8) (.const (.int .i64 1))),O1 8 (.mov (.tmp 18))] [0,1,7,8])))
def c27:AFun:=⟨.seq (.ops [O1 4 (.mov (.const (.int .i64 0)))] [0,1]) (.seq (.seq (.ops [O1 6 (.mov (.tmp 0)),O1 7 (.len false (.tmp 6)),O1 8 (.mov (.const (.int .i64 0)))] [0,1,7,8]) (.block 0 (.loop [0,1,7,8] c27l0))) (.seq (.ops [O1 4 (.mov (.const (.int .i64 (-1))))] [4]) (.ret))),19,[(4,none)],true⟩
theorem ok27:FunOK Tryd.prog 27 c27:= .code ⟨Tryd.f27,_,c27.code,Tryd.func27,rfl,by kernel_rfl,rfl,by kernel_rfl,by kernel_rfl⟩
/- raddle/code.words -/
def c28:AFun:=⟨.seq (.ops [O1 0 (.mov (.const (.slice none 0 0)))] []) (.seq (.ops [O1 1 (.build [(.string ⟨#[]⟩),(.string ⟨#[]⟩)] [(0,1,(.const (.string ⟨#[]⟩))),(1,1,(.const (.string ⟨#[]⟩)))]),O1 2 (.build [(.string ⟨#[]⟩),(.string ⟨#[]⟩)] [(0,1,(.const (.string ⟨#[105,110]⟩))),(1,1,(.const (.string ⟨#[99]⟩)))]),O1 3 (.build [(.string ⟨#[]⟩),(.string ⟨#[]⟩)] [(0,1,(.const (.string ⟨#[111,117,116]⟩))),(1,1,(.const (.string ⟨#[99]⟩)))]),O1 4 (.build [(.string ⟨#[]⟩),(.string ⟨#[]⟩)] [(0,1,(.const (.string ⟨#[107,110,105,116]⟩))),(1,1,(.const (.string ⟨#[100,110,99]⟩)))]),O1 5 (.build [(.string ⟨#[]⟩),(.string ⟨#[]⟩)] [(0,1,(.const (.string ⟨#[116,117,99,107]⟩))),(1,1,(.const (.string ⟨#[100,110,99]⟩)))]),O1 6 (.build [(.string ⟨#[]⟩),(.string ⟨#[]⟩)] [(0,1,(.const (.string ⟨#[109,105,115,115]⟩))),(1,1,(.const (.string ⟨#[100,110,99]⟩)))]),O1 7 (.build [(.string ⟨#[]⟩),(.string ⟨#[]⟩)] [(0,1,(.const (.string ⟨#[115,112,108,105,116]⟩))),(1,1,(.const (.string ⟨#[100,110,111,99]⟩)))]),O1 8 (.build [(.string ⟨#[]⟩),(.string ⟨#[]⟩)] [(0,1,(.const (.string ⟨#[120,102,101,114]⟩))),(1,1,(.const (.string ⟨#[110,111]⟩)))]),O1 9 (.build [(.string ⟨#[]⟩),(.string ⟨#[]⟩)] [(0,1,(.const (.string ⟨#[114,97,99,107]⟩))),(1,1,(.const (.string ⟨#[114]⟩)))]),O1 10 (.build [(.string ⟨#[]⟩),(.string ⟨#[]⟩)] [(0,1,(.const (.string ⟨#[100,114,111,112]⟩))),(1,1,(.const (.string ⟨#[110]⟩)))]),O1 11 (.mkRow 59 2 10 [(.string ⟨#[]⟩),(.string ⟨#[]⟩)] [(0,2,(.tmp 1)),(2,2,(.tmp 2)),(4,2,(.tmp 3)),(6,2,(.tmp 4)),(8,2,(.tmp 5)),(10,2,(.tmp 6)),(12,2,(.tmp 7)),(14,2,(.tmp 8)),(16,2,(.tmp 9)),(18,2,(.tmp 10))]),O1 0 (.mov (.tmp 11))] [0]) (.ret)),12,[(0,none)],true⟩
theorem ok28:FunOK Tryd.prog 28 c28:= .code ⟨Tryd.f28,_,c28.code,Tryd.func28,rfl,by kernel_rfl,rfl,by kernel_rfl,by kernel_rfl⟩
/- raddle/code.Read$1 -/
def c29:AFun:=⟨.seq (.ops [O1 2 (.box 59 (.tmp 0)),O1 3 (.mov (.const (.bool false)))] [1,2]) (.seq (.ops [O1 4 (.fldA 0 (.tmp 2)),O1 5 (.load none (.tmp 4)),O1 6 (.load none (.tmp 1)),O1 7 (.bin .eql (.tmp 5) (.tmp 6)),O1 3 (.mov (.tmp 7))] [3]) (.ret)),8,[(3,none)],true⟩
theorem ok29:FunOK Tryd.prog 29 c29:= .code ⟨Tryd.f29,_,c29.code,Tryd.func29,rfl,by kernel_rfl,rfl,by kernel_rfl,by kernel_rfl⟩
/- raddle/code.hook -/
def c30:AFun:=⟨.seq (.ops [O1 2 (.mov (.const (.int .u8 0))),O1 3 (.mov (.const (.int .i64 0)))] [0,2]) (.seq (.ops [O1 7 (.mov (.tmp 0)),O1 8 (.callF 52 [(.tmp 7),(.const (.string ⟨#[98]⟩))]),O1 6 (.mov (.tmp 8)),O1 9 (.ext (.tmp 6) 0),O1 10 (.ext (.tmp 6) 1),O1 4 (.mov (.tmp 9)),O1 5 (.mov (.tmp 10))] [0,2,4,5]) (.seq (.seq (.ops [O1 11 (.mov (.tmp 5))] [0,2,4,11]) (.cond (.tmp 11) (.ops [O1 2 (.mov (.const (.int .u8 1)))] [2,4]) (.ops [O1 12 (.mov (.tmp 0)),O1 13 (.callF 53 [(.tmp 12),(.const (.string ⟨#[102]⟩))]),O1 4 (.mov (.tmp 13))] [2,4]))) (.seq (.ops [O1 15 (.mov (.tmp 4)),O1 16 (.callF 31 [.tmp 15]),O1 14 (.mov (.tmp 16)),O1 17 (.ext (.tmp 14) 0),O1 18 (.ext (.tmp 14) 1),O1 3 (.mov (.tmp 17))] [2,3]) (.seq (.ops [O1 19 (.mov (.tmp 2)),O1 20 (.mov (.tmp 3)),O1 2 (.mov (.tmp 19)),O1 3 (.mov (.tmp 20))] [2,3]) (.ret))))),21,[(2,none),(3,none)],true⟩
theorem ok30:FunOK Tryd.prog 30 c30:= .code ⟨Tryd.f30,_,c30.code,Tryd.func30,rfl,by kernel_rfl,rfl,by kernel_rfl,by kernel_rfl⟩
/- (*strings.Builder).WriteString -/
def c36:AFun:=⟨.seq (.ops [O1 4 (.mov (.const (.int .i64 0))),O1 5 (.mov (.const .nilIface))] [0,1]) (.seq (.ops [O1 6 (.mov (.tmp 0)),O1 7 (.callF 57 [.tmp 6])] [0,1]) (.seq (.ops [O1 8 (.mov (.tmp 0)),O1 9 (.mov (.tmp 0)),O1 10 (.nilChk (.tmp 9)),O1 11 (.fldA 1 (.tmp 10)),O1 12 (.load none (.tmp 11)),O1 13 (.mov (.tmp 1)),O1 14 (.app 5 1 1 (.tmp 12) (.tmp 13)),O1 15 (.nilChk (.tmp 8)),O1 16 (.fldA 1 (.tmp 15)),⟨none,none,.store 1 (.tmp 16) (.tmp 14)⟩] [1]) (.seq (.ops [O1 17 (.mov (.tmp 1)),O1 18 (.len true (.tmp 17)),O1 4 (.mov (.tmp 18)),O1 5 (.mov (.const .nilIface))] [4,5]) (.ret)))),19,[(4,none),(5,none)],false⟩
theorem ok36:FunOK Tryd.prog 36 c36:= .code ⟨Tryd.f36,_,c36.code,Tryd.func36,rfl,by kernel_rfl,rfl,by kernel_rfl,by kernel_rfl⟩
/- (*strings.Builder).Len -/
def c37:AFun:=⟨.seq (.ops [O1 2 (.mov (.const (.int .i64 0)))] [0]) (.seq (.ops [O1 3 (.mov (.tmp 0)),O1 4 (.nilChk (.tmp 3)),O1 5 (.fldA 1 (.tmp 4)),O1 6 (.load none (.tmp 5)),O1 7 (.len false (.tmp 6)),O1 2 (.mov (.tmp 7))] [2]) (.ret)),8,[(2,none)],true⟩
theorem ok37:FunOK Tryd.prog 37 c37:= .code ⟨Tryd.f37,_,c37.code,Tryd.func37,rfl,by kernel_rfl,rfl,by kernel_rfl,by kernel_rfl⟩
/- (*strings.Builder).String -/
def c38:AFun:=⟨.seq (.ops [O1 2 (.mov (.const (.string ⟨#[]⟩)))] [0]) (.seq (.draw [O1 3 (.mov (.tmp 0)),O1 4 (.nilChk (.tmp 3)),O1 5 (.fldA 1 (.tmp 4)),O1 6 (.load none (.tmp 5)),O1 7 (.sdata (.tmp 6)),O1 8 (.mov (.tmp 0)),O1 9 (.nilChk (.tmp 8)),O1 10 (.fldA 1 (.tmp 9)),O1 11 (.load none (.tmp 10)),O1 12 (.len false (.tmp 11))] [O1 13 (.ustr 5 (.tmp 7) (.tmp 12)),O1 2 (.mov (.tmp 13))] [[],[],[],[],[],[],[],[],[],[]] [2]) (.ret)),14,[(2,none)],false⟩
theorem ok38:FunOK Tryd.prog 38 c38:= .code ⟨Tryd.f38,_,c38.code,Tryd.func38,rfl,by kernel_rfl,rfl,by kernel_rfl,by kernel_rfl⟩
/- strings.Count -/
def c39l0:AC:= .block 1 (.seq (.ops [O1 20 (.mov (.tmp 0)),O1 21 (.mov (.tmp 1)),O1 22 (.callF 60 [(.tmp 20),(.tmp 21)]),O1 6 (.mov (.tmp 22))] [0,1,5,6]) (.seq (.seq (.ops [O1 23 (.mov (.tmp 6)),O1 24 (.bin .eql (.tmp 23) (.const (.int .i64 (-1))))] [0,1,5,6,24]) (.cond (.tmp 24) (.seq (.ops [O1 25 (.mov (.tmp 5)),O1 4 (.mov (.tmp 25))] [4]) (.ret)) (.skip))) (.seq (.ops [O1 26 (.mov (.tmp 5)),O1 27 (.bin .add (.tmp 26) (.const (.int .i64 1))),O1 5 (.mov (.tmp 27))] [0,1,5,6]) (.ops [O1 28 (.mov (.tmp 0)),O1 29 (.mov (.tmp 6)),O1 30 (.mov (.tmp 1)),O1 31 (.len true (.tmp 30)),O1 32 (.bin .add (.tmp 29) (.tmp 31)),O1 33 (.slcS (.tmp 28) (some (.tmp 32)) none),O1 0 (.mov (.tmp 33))] [0,1,5]))))
def c39:AFun:=⟨.seq (.ops [O1 4 (.mov (.const (.int .i64 0)))] [0,1]) (.seq (.seq (.ops [O1 7 (.mov (.tmp 1)),O1 8 (.len true (.tmp 7)),O1 9 (.bin .eql (.tmp 8) (.const (.int .i64 0)))] [0,1,9]) (.cond (.tmp 9) (.seq (.ops [O1 10 (.mov (.tmp 0)),O1 11 (.callF 58 [.tmp 10]),O1 12 (.bin .add (.tmp 11) (.const (.int .i64 1))),O1 4 (.mov (.tmp 12))] [4]) (.ret)) (.skip))) (.seq (.seq (.ops [O1 13 (.mov (.tmp 1)),O1 14 (.len true (.tmp 13)),O1 15 (.bin .eql (.tmp 14) (.const (.int .i64 1)))] [0,1,15]) (.cond (.tmp 15) (.seq (.ops [O1 16 (.mov (.tmp 0)),O1 17 (.mov (.tmp 1)),O1 18 (.idxStr (.tmp 17) (.const (.int .i64 0))),O1 19 (.callF 59 [(.tmp 16),(.tmp 18)]),O1 4 (.mov (.tmp 19))] [4]) (.ret)) (.skip))) (.seq (.ops [O1 5 (.mov (.const (.int .i64 0)))] [0,1,5]) (.block 0 (.loop [0,1,5] c39l0))))),34,[(4,none)],true⟩
theorem ok39:FunOK Tryd.prog 39 c39:= .code ⟨Tryd.f39,_,c39.code,Tryd.func39,rfl,by kernel_rfl,rfl,by kernel_rfl,by kernel_rfl⟩
/- strings.Contains -/
def c40:AFun:=⟨.seq (.ops [O1 4 (.mov (.const (.bool false)))] [0,1]) (.seq (.ops [O1 5 (.mov (.tmp 0)),O1 6 (.mov (.tmp 1)),O1 7 (.callF 60 [(.tmp 5),(.tmp 6)]),O1 8 (.bin .geq (.tmp 7) (.const (.int .i64 0))),O1 4 (.mov (.tmp 8))] [4]) (.ret)),9,[(4,none)],true⟩
theorem ok40:FunOK Tryd.prog 40 c40:= .code ⟨Tryd.f40,_,c40.code,Tryd.func40,rfl,by kernel_rfl,rfl,by kernel_rfl,by kernel_rfl⟩
/- raddle/raddlelaw33.example -/
def c42:AFun:=⟨.seq (.ops [O1 0 (.alloc 23 [(1,(.int .u8 0)),(1,(.bool false)),(1,(.int .u8 0)),(4,(.int .i64 0))])] [0]) (.seq (.ops [O1 1 (.build [(.int .u8 0),(.bool false),(.int .u8 0),(.int .i64 0),(.int .i64 0),(.int .i64 0),(.int .i64 0)] [(0,1,(.const (.int .u8 3))),(2,1,(.const (.int .u8 1))),(3,1,(.const (.int .i64 (-2)))),(5,1,(.const (.int .i64 3)))]),⟨none,none,.store 7 (.tmp 0) (.tmp 1)⟩] [0]) (.ret)),2,[(0,(some (some 7)))],true⟩
theorem ok42:FunOK Tryd.prog 42 c42:= .code ⟨Tryd.f42,_,c42.code,Tryd.func42,rfl,by kernel_rfl,rfl,by kernel_rfl,by kernel_rfl⟩
/- raddle/bed.needle -/
def c43:AFun:=⟨.seq (.ops [O1 2 (.mov (.const (.bool false)))] [0]) (.seq (.ops [O1 3 (.mov (.tmp 0)),O1 4 (.bin .geq (.tmp 3) (.const (.int .i64 (-100)))),O1 5 (.mov (.tmp 4)),⟨some 6,some (5,true),.mov (.tmp 0)⟩,⟨some 7,some (5,true),.bin .leq (.tmp 6) (.const (.int .i64 100))⟩,O1 8 (.pick (.tmp 5) (.tmp 7) (.const (.bool false))),O1 2 (.mov (.tmp 8))] [2]) (.ret)),9,[(2,none)],true⟩
theorem ok43:FunOK Tryd.prog 43 c43:= .code ⟨Tryd.f43,_,c43.code,Tryd.func43,rfl,by kernel_rfl,rfl,by kernel_rfl,by kernel_rfl⟩
/- raddle/code.needle -/
def c44:AFun:=⟨.seq (.ops [O1 4 (.mov (.const (.string ⟨#[]⟩)))] [0,1]) (.seq (.draw [O1 5 (.mov (.tmp 0)),O1 6 (.mov (.tmp 0)),O1 7 (.bin .add (.tmp 6) (.const (.int .u8 1))),O1 8 (.slcS (.const (.string ⟨#[102,98]⟩)) (some (.tmp 5)) (some (.tmp 7))),O1 9 (.mov (.tmp 1)),O1 10 (.callF 45 [.tmp 9])] [O1 11 (.bin .add (.tmp 8) (.tmp 10)),O1 4 (.mov (.tmp 11))] [[],[],[],[],[],[]] [4]) (.ret)),12,[(4,none)],true⟩
theorem ok44:FunOK Tryd.prog 44 c44:= .code ⟨Tryd.f44,_,c44.code,Tryd.func44,rfl,by kernel_rfl,rfl,by kernel_rfl,by kernel_rfl⟩
/- internal/stringslite.Cut -/
def c51:AFun:=⟨.seq (.ops [O1 4 (.mov (.const (.string ⟨#[]⟩))),O1 5 (.mov (.const (.string ⟨#[]⟩))),O1 6 (.mov (.const (.bool false)))] [0,1]) (.seq (.seq (.ops [O1 8 (.mov (.tmp 0)),O1 9 (.mov (.tmp 1)),O1 10 (.callF 64 [(.tmp 8),(.tmp 9)]),O1 7 (.mov (.tmp 10))] [0,1,7]) (.seq (.ops [O1 11 (.mov (.tmp 7)),O1 12 (.bin .geq (.tmp 11) (.const (.int .i64 0)))] [0,1,7,12]) (.cond (.tmp 12) (.seq (.draw [O1 13 (.mov (.tmp 0)),O1 14 (.mov (.tmp 7)),O1 15 (.slcS (.tmp 13) none (some (.tmp 14))),O1 16 (.mov (.tmp 0)),O1 17 (.mov (.tmp 7)),O1 18 (.mov (.tmp 1)),O1 19 (.len true (.tmp 18)),O1 20 (.bin .add (.tmp 17) (.tmp 19)),O1 21 (.slcS (.tmp 16) (some (.tmp 20)) none),O1 4 (.mov (.tmp 15))] [O1 5 (.mov (.tmp 21)),O1 6 (.mov (.const (.bool true)))] [[],[],[],[],[],[],[],[],[],[]] [4,5,6]) (.ret)) (.skip)))) (.seq (.ops [O1 22 (.mov (.tmp 0)),O1 4 (.mov (.tmp 22)),O1 5 (.mov (.const (.string ⟨#[]⟩))),O1 6 (.mov (.const (.bool false)))] [4,5,6]) (.ret))),23,[(4,none),(5,none),(6,none)],true⟩
theorem ok51:FunOK Tryd.prog 51 c51:= .code ⟨Tryd.f51,_,c51.code,Tryd.func51,rfl,by kernel_rfl,rfl,by kernel_rfl,by kernel_rfl⟩
/- strings.CutPrefix -/
def c52:AFun:=⟨.seq (.ops [O1 4 (.mov (.const (.string ⟨#[]⟩))),O1 5 (.mov (.const (.bool false)))] [0,1]) (.seq (.ops [O1 6 (.mov (.tmp 0)),O1 7 (.mov (.tmp 1)),O1 8 (.callF 65 [(.tmp 6),(.tmp 7)]),O1 9 (.ext (.tmp 8) 0),O1 10 (.ext (.tmp 8) 1),O1 4 (.mov (.tmp 9)),O1 5 (.mov (.tmp 10))] [4,5]) (.ret)),11,[(4,none),(5,none)],true⟩
theorem ok52:FunOK Tryd.prog 52 c52:= .code ⟨Tryd.f52,_,c52.code,Tryd.func52,rfl,by kernel_rfl,rfl,by kernel_rfl,by kernel_rfl⟩
/- strings.TrimPrefix -/
def c53:AFun:=⟨.seq (.ops [O1 4 (.mov (.const (.string ⟨#[]⟩)))] [0,1]) (.seq (.ops [O1 5 (.mov (.tmp 0)),O1 6 (.mov (.tmp 1)),O1 7 (.callF 66 [(.tmp 5),(.tmp 6)]),O1 4 (.mov (.tmp 7))] [4]) (.ret)),8,[(4,none)],true⟩
theorem ok53:FunOK Tryd.prog 53 c53:= .code ⟨Tryd.f53,_,c53.code,Tryd.func53,rfl,by kernel_rfl,rfl,by kernel_rfl,by kernel_rfl⟩
/- (*strings.Builder).copyCheck (1 operations that the interpreter lacks) -/
def c57:AFun:=⟨.seq (.ops [O1 2 (.mov (.tmp 0)),O1 3 (.nilChk (.tmp 2)),O1 4 (.fldA 0 (.tmp 3)),O1 5 (.load none (.tmp 4)),O1 6 (.eqNil 0 false (.tmp 5) (.const (.pointer none)))] [0,6]) (.cond (.tmp 6) (.ops [O1 7 (.mov (.tmp 0)),O1 8 (.mov (.tmp 0)),O1 9 (.toUns (.tmp 8)),O1 10 (.callF 72 [.tmp 9]),O1 11 (.fromUns 77 2 (.tmp 10)),O1 12 (.nilChk (.tmp 7)),O1 13 (.fldA 0 (.tmp 12)),⟨none,none,.store 1 (.tmp 13) (.tmp 11)⟩] []) (.seq (.ops [O1 14 (.mov (.tmp 0)),O1 15 (.nilChk (.tmp 14)),O1 16 (.fldA 0 (.tmp 15)),O1 17 (.load none (.tmp 16)),O1 18 (.mov (.tmp 0)),O1 19 (.eqPtr true (.tmp 17) (.tmp 18))] [19]) (.cond (.tmp 19) (.bad) (.skip)))),20,[],false⟩
theorem ok57:FunOK Tryd.prog 57 c57:= .code ⟨Tryd.f57,_,c57.code,Tryd.func57,rfl,by kernel_rfl,rfl,by kernel_rfl,by kernel_rfl⟩
/- unicode/utf8.RuneCountInString -/
def c58l0:AC:= .seq (.ops [O1 5 (.nextS (.tmp 4)),O1 6 (.ext (.tmp 5) 0)] [2,4,6]) (.seq (.cond (.tmp 6) (.skip) (.exit 0)) (.block 1 (.ops [O1 7 (.mov (.tmp 2)),O1 8 (.bin .add (.tmp 7) (.const (.int .i64 1))),O1 2 (.mov (.tmp 8))] [2,4])))
def c58:AFun:=⟨.seq (.ops [O1 2 (.mov (.const (.int .i64 0)))] [0,2]) (.seq (.seq (.ops [O1 3 (.mov (.tmp 0)),O1 4 (.rangeS (.tmp 3))] [2,4]) (.block 0 (.loop [2,4] c58l0))) (.seq (.ops [O1 9 (.mov (.tmp 2)),O1 2 (.mov (.tmp 9))] [2]) (.ret))),10,[(2,none)],true⟩
theorem ok58:FunOK Tryd.prog 58 c58:= .code ⟨Tryd.f58,_,c58.code,Tryd.func58,rfl,by kernel_rfl,rfl,by kernel_rfl,by kernel_rfl⟩
/- strings.Index -/
def c60:AFun:=⟨.seq (.ops [O1 4 (.mov (.const (.int .i64 0)))] [0,1]) (.seq (.ops [O1 5 (.mov (.tmp 0)),O1 6 (.mov (.tmp 1)),O1 7 (.callF 64 [(.tmp 5),(.tmp 6)]),O1 4 (.mov (.tmp 7))] [4]) (.ret)),8,[(4,none)],true⟩
theorem ok60:FunOK Tryd.prog 60 c60:= .code ⟨Tryd.f60,_,c60.code,Tryd.func60,rfl,by kernel_rfl,rfl,by kernel_rfl,by kernel_rfl⟩
/- internal/stringslite.Index -/
def c64l0:AC:= .seq (.seq (.ops [O1 57 (.mov (.tmp 8)),O1 58 (.mov (.tmp 9)),O1 59 (.bin .lss (.tmp 57) (.tmp 58))] [0,1,5,6,7,8,9,10,59]) (.cond (.tmp 59) (.skip) (.exit 1))) (.block 2 (.seq (.seq (.ops [O1 60 (.mov (.tmp 0)),O1 61 (.mov (.tmp 8)),O1 62 (.idxStr (.tmp 60) (.tmp 61)),O1 63 (.mov (.tmp 6)),O1 64 (.bin .neq (.tmp 62) (.tmp 63))] [0,1,5,6,7,8,9,10,64]) (.cond (.tmp 64) (.seq (.ops [O1 65 (.mov (.tmp 0)),O1 66 (.mov (.tmp 8)),O1 67 (.bin .add (.tmp 66) (.const (.int .i64 1))),O1 68 (.mov (.tmp 9)),O1 69 (.slcS (.tmp 65) (some (.tmp 67)) (some (.tmp 68))),O1 70 (.mov (.tmp 6)),O1 71 (.callF 75 [(.tmp 69),(.tmp 70)]),O1 11 (.mov (.tmp 71))] [0,1,5,6,7,8,9,10,11]) (.seq (.seq (.ops [O1 72 (.mov (.tmp 11)),O1 73 (.bin .lss (.tmp 72) (.const (.int .i64 0)))] [0,1,5,6,7,8,9,10,11,73]) (.cond (.tmp 73) (.seq (.ops [O1 4 (.mov (.const (.int .i64 (-1))))] [4]) (.ret)) (.skip))) (.ops [O1 74 (.mov (.tmp 8)),O1 75 (.mov (.tmp 11)),O1 76 (.bin .add (.tmp 75) (.const (.int .i64 1))),O1 77 (.bin .add (.tmp 74) (.tmp 76)),O1 8 (.mov (.tmp 77))] [0,1,5,6,7,8,9,10]))) (.skip))) (.seq (.seq (.ops [O1 78 (.mov (.tmp 0)),O1 79 (.mov (.tmp 8)),O1 80 (.bin .add (.tmp 79) (.const (.int .i64 1))),O1 81 (.idxStr (.tmp 78) (.tmp 80)),O1 82 (.mov (.tmp 7)),O1 83 (.bin .eql (.tmp 81) (.tmp 82)),O1 84 (.mov (.tmp 83)),⟨some 85,some (84,true),.mov (.tmp 0)⟩,⟨some 86,some (84,true),.mov (.tmp 8)⟩,⟨some 87,some (84,true),.mov (.tmp 8)⟩,⟨some 88,some (84,true),.mov (.tmp 5)⟩,⟨some 89,some (84,true),.bin .add (.tmp 87) (.tmp 88)⟩,⟨some 90,some (84,true),.slcS (.tmp 85) (some (.tmp 86)) (some (.tmp 89))⟩,⟨some 91,some (84,true),.mov (.tmp 1)⟩,⟨some 92,some (84,true),.bin .eql (.tmp 90) (.tmp 91)⟩,O1 93 (.pick (.tmp 84) (.tmp 92) (.const (.bool false)))] [0,1,5,6,7,8,9,10,93]) (.cond (.tmp 93) (.seq (.ops [O1 94 (.mov (.tmp 8)),O1 4 (.mov (.tmp 94))] [4]) (.ret)) (.skip))) (.seq (.ops [O1 95 (.mov (.tmp 8)),O1 96 (.bin .add (.tmp 95) (.const (.int .i64 1))),O1 8 (.mov (.tmp 96))] [0,1,5,6,7,8,9,10]) (.seq (.ops [O1 97 (.mov (.tmp 10)),O1 98 (.bin .add (.tmp 97) (.const (.int .i64 1))),O1 10 (.mov (.tmp 98))] [0,1,5,6,7,8,9,10]) (.seq (.ops [O1 99 (.mov (.tmp 5)),O1 100 (.load none (.global 0)),O1 101 (.bin .leq (.tmp 99) (.tmp 100)),O1 102 (.mov (.tmp 101)),⟨some 103,some (102,true),.mov (.tmp 10)⟩,⟨some 104,some (102,true),.mov (.tmp 8)⟩,⟨some 105,some (102,true),.callF 77 [.tmp 104]⟩,⟨some 106,some (102,true),.bin .gtr (.tmp 103) (.tmp 105)⟩,O1 107 (.pick (.tmp 102) (.tmp 106) (.const (.bool false)))] [0,1,5,6,7,8,9,10,107]) (.cond (.tmp 107) (.seq (.ops [O1 108 (.mov (.tmp 0)),O1 109 (.mov (.tmp 8)),O1 110 (.slcS (.tmp 108) (some (.tmp 109)) none),O1 111 (.mov (.tmp 1)),O1 112 (.callF 76 [(.tmp 110),(.tmp 111)]),O1 12 (.mov (.tmp 112))] [8,12]) (.seq (.seq (.ops [O1 113 (.mov (.tmp 12)),O1 114 (.bin .geq (.tmp 113) (.const (.int .i64 0)))] [8,12,114]) (.cond (.tmp 114) (.seq (.ops [O1 115 (.mov (.tmp 12)),O1 116 (.mov (.tmp 8)),O1 117 (.bin .add (.tmp 115) (.tmp 116)),
  O1 4 (.mov (.tmp 117))] [4]) (.ret)) (.skip))) (.seq (.ops [O1 4 (.mov (.const (.int .i64 (-1))))] [4]) (.ret)))) (.seq (.ops [O1 118 (.mov (.tmp 5)),O1 119 (.load none (.global 0)),O1 120 (.bin .gtr (.tmp 118) (.tmp 119)),O1 121 (.mov (.tmp 120)),⟨some 122,some (121,true),.mov (.tmp 10)⟩,⟨some 123,some (121,true),.mov (.tmp 8)⟩,⟨some 124,some (121,true),.bin .shr (.tmp 123) (.const (.int .u64 4))⟩,⟨some 125,some (121,true),.bin .add (.const (.int .i64 4)) (.tmp 124)⟩,⟨some 126,some (121,true),.bin .geq (.tmp 122) (.tmp 125)⟩,O1 127 (.pick (.tmp 121) (.tmp 126) (.const (.bool false))),O1 128 (.mov (.tmp 127)),⟨some 129,some (128,true),.mov (.tmp 8)⟩,⟨some 130,some (128,true),.mov (.tmp 9)⟩,⟨some 131,some (128,true),.bin .lss (.tmp 129) (.tmp 130)⟩,O1 132 (.pick (.tmp 128) (.tmp 131) (.const (.bool false)))] [0,1,5,6,7,8,9,10,132]) (.cond (.tmp 132) (.seq (.ops [O1 133 (.mov (.tmp 0)),O1 134 (.mov (.tmp 8)),O1 135 (.slcS (.tmp 133) (some (.tmp 134)) none),O1 136 (.mov (.tmp 1)),O1 137 (.callF 78 [(.tmp 135),(.tmp 136)]),O1 13 (.mov (.tmp 137))] [8,13]) (.seq (.seq (.ops [O1 138 (.mov (.tmp 13)),O1 139 (.bin .lss (.tmp 138) (.const (.int .i64 0)))] [8,13,139]) (.cond (.tmp 139) (.seq (.ops [O1 4 (.mov (.const (.int .i64 (-1))))] [4]) (.ret)) (.skip))) (.seq (.ops [O1 140 (.mov (.tmp 8)),O1 141 (.mov (.tmp 13)),O1 142 (.bin .add (.tmp 140) (.tmp 141)),O1 4 (.mov (.tmp 142))] [4]) (.ret)))) (.skip))))))))))
def c64:AFun:=⟨.seq (.ops [O1 4 (.mov (.const (.int .i64 0)))] [0,1]) (.seq (.ops [O1 14 (.mov (.tmp 1)),O1 15 (.len true (.tmp 14)),O1 5 (.mov (.tmp 15))] [0,1,5]) (.seq (.block 0 (.seq (.ops [O1 17 (.mov (.tmp 5)),O1 18 (.bin .eql (.tmp 17) (.const (.int .i64 0))),O1 19 (.mov (.tmp 18)),⟨some 20,some (19,false),.mov (.tmp 1)⟩,⟨some 21,some (19,false),.mov (.tmp 0)⟩,⟨some 22,some (19,false),.bin .eql (.tmp 20) (.tmp 21)⟩,O1 23 (.pick (.tmp 19) (.const (.bool true)) (.tmp 22)),O1 16 (.mov (.tmp 23))] [0,1,5,16]) (.cond (.tmp 16) (.seq (.ops [O1 4 (.mov (.const (.int .i64 0)))] [4]) (.ret)) (.seq (.ops [O1 25 (.mov (.tmp 5)),O1 26 (.bin .eql (.tmp 25) (.const (.int .i64 1))),O1 24 (.mov (.tmp 26))] [0,1,5,24]) (.cond (.tmp 24) (.seq (.ops [O1 27 (.mov (.tmp 0)),O1 28 (.mov (.tmp 1)),O1 29 (.idxStr (.tmp 28) (.const (.int .i64 0))),O1 30 (.callF 75 [(.tmp 27),(.tmp 29)]),O1 4 (.mov (.tmp 30))] [4]) (.ret)) (.seq (.ops [O1 32 (.mov (.tmp 5)),O1 33 (.mov (.tmp 0)),O1 34 (.len true (.tmp 33)),O1 35 (.bin .geq (.tmp 32) (.tmp 34)),O1 31 (.mov (.tmp 35))] [0,1,5,31]) (.cond (.tmp 31) (.seq (.ops [O1 4 (.mov (.const (.int .i64 (-1))))] [4]) (.ret)) (.seq (.ops [O1 37 (.mov (.tmp 5)),O1 38 (.load none (.global 0)),O1 39 (.bin .leq (.tmp 37) (.tmp 38)),O1 40 (.mov (.tmp 39)),⟨some 41,some (40,true),.mov (.tmp 0)⟩,⟨some 42,some (40,true),.len true (.tmp 41)⟩,⟨some 43,some (40,true),.bin .leq (.tmp 42) (.const (.int .i64 64))⟩,O1 44 (.pick (.tmp 40) (.tmp 43) (.const (.bool false))),O1 36 (.mov (.tmp 44))] [0,1,5,36]) (.cond (.tmp 36) (.seq (.ops [O1 45 (.mov (.tmp 0)),O1 46 (.mov (.tmp 1)),O1 47 (.callF 76 [(.tmp 45),(.tmp 46)]),O1 4 (.mov (.tmp 47))] [4]) (.ret)) (.skip)))))))))) (.seq (.ops [O1 48 (.mov (.tmp 1)),O1 49 (.idxStr (.tmp 48) (.const (.int .i64 0))),O1 6 (.mov (.tmp 49))] [0,1,5,6]) (.seq (.ops [O1 50 (.mov (.tmp 1)),O1 51 (.idxStr (.tmp 50) (.const (.int .i64 1))),O1 7 (.mov (.tmp 51))] [0,1,5,6,7]) (.seq (.ops [O1 8 (.mov (.const (.int .i64 0)))] [0,1,5,6,7,8]) (.seq (.ops [O1 52 (.mov (.tmp 0)),O1 53 (.len true (.tmp 52)),O1 54 (.mov (.tmp 5)),O1 55 (.bin .sub (.tmp 53) (.tmp 54)),O1 56 (.bin .add (.tmp 55) (.const (.int .i64 1))),O1 9 (.mov (.tmp 56))] [0,1,5,6,7,8,9]) (.seq (.ops [O1 10 (.mov (.const (.int .i64 0)))] [0,1,5,6,7,8,9,10]) (.seq (.block 1 (.loop [0,1,5,6,7,8,9,10] c64l0)) (.seq (.ops [O1 4 (.mov (.const (.int .i64 (-1))))] [4]) (.ret)))))))))),143,[(4,none)],true⟩
theorem ok64:FunOK Tryd.prog 64 c64:= .code ⟨Tryd.f64,_,c64.code,Tryd.func64,rfl,by kernel_rfl,rfl,by kernel_rfl,by kernel_rfl⟩
/- internal/stringslite.CutPrefix -/
def c65:AFun:=⟨.seq (.ops [O1 4 (.mov (.const (.string ⟨#[]⟩))),O1 5 (.mov (.const (.bool false)))] [0,1]) (.seq (.seq (.ops [O1 6 (.mov (.tmp 0)),O1 7 (.mov (.tmp 1)),O1 8 (.callF 79 [(.tmp 6),(.tmp 7)]),O1 9 (.un .not (.tmp 8))] [0,1,9]) (.cond (.tmp 9) (.seq (.ops [O1 10 (.mov (.tmp 0)),O1 4 (.mov (.tmp 10)),O1 5 (.mov (.const (.bool false)))] [4,5]) (.ret)) (.skip))) (.seq (.ops [O1 11 (.mov (.tmp 0)),O1 12 (.mov (.tmp 1)),O1 13 (.len true (.tmp 12)),O1 14 (.slcS (.tmp 11) (some (.tmp 13)) none),O1 4 (.mov (.tmp 14)),O1 5 (.mov (.const (.bool true)))] [4,5]) (.ret))),15,[(4,none),(5,none)],true⟩
theorem ok65:FunOK Tryd.prog 65 c65:= .code ⟨Tryd.f65,_,c65.code,Tryd.func65,rfl,by kernel_rfl,rfl,by kernel_rfl,by kernel_rfl⟩
/- internal/stringslite.TrimPrefix -/
def c66:AFun:=⟨.seq (.ops [O1 4 (.mov (.const (.string ⟨#[]⟩)))] [0,1]) (.seq (.seq (.ops [O1 5 (.mov (.tmp 0)),O1 6 (.mov (.tmp 1)),O1 7 (.callF 79 [(.tmp 5),(.tmp 6)])] [0,1,7]) (.cond (.tmp 7) (.seq (.ops [O1 8 (.mov (.tmp 0)),O1 9 (.mov (.tmp 1)),O1 10 (.len true (.tmp 9)),O1 11 (.slcS (.tmp 8) (some (.tmp 10)) none),O1 4 (.mov (.tmp 11))] [4]) (.ret)) (.skip))) (.seq (.ops [O1 12 (.mov (.tmp 0)),O1 4 (.mov (.tmp 12))] [4]) (.ret))),13,[(4,none)],true⟩
theorem ok66:FunOK Tryd.prog 66 c66:= .code ⟨Tryd.f66,_,c66.code,Tryd.func66,rfl,by kernel_rfl,rfl,by kernel_rfl,by kernel_rfl⟩
/- internal/stringslite.IndexByte -/
def c75:AFun:=⟨.seq (.ops [O1 4 (.mov (.const (.int .i64 0)))] [0,1]) (.seq (.ops [O1 5 (.mov (.tmp 0)),O1 6 (.mov (.tmp 1)),O1 7 (.callF 88 [(.tmp 5),(.tmp 6)]),O1 4 (.mov (.tmp 7))] [4]) (.ret)),8,[(4,none)],true⟩
theorem ok75:FunOK Tryd.prog 75 c75:= .code ⟨Tryd.f75,_,c75.code,Tryd.func75,rfl,by kernel_rfl,rfl,by kernel_rfl,by kernel_rfl⟩
/- internal/bytealg.Cutover -/
def c77:AFun:=⟨.seq (.ops [O1 2 (.mov (.const (.int .i64 0)))] [0]) (.seq (.ops [O1 3 (.mov (.tmp 0)),O1 4 (.bin .add (.tmp 3) (.const (.int .i64 16))),O1 5 (.bin .quo (.tmp 4) (.const (.int .i64 8))),O1 2 (.mov (.tmp 5))] [2]) (.ret)),6,[(2,none)],true⟩
theorem ok77:FunOK Tryd.prog 77 c77:= .code ⟨Tryd.f77,_,c77.code,Tryd.func77,rfl,by kernel_rfl,rfl,by kernel_rfl,by kernel_rfl⟩
/- internal/bytealg.IndexRabinKarp[string] -/
def c78l0:AC:= .seq (.seq (.ops [O1 41 (.mov (.tmp 10)),O1 42 (.mov (.tmp 0)),O1 43 (.len true (.tmp 42)),O1 44 (.bin .lss (.tmp 41) (.tmp 43))] [0,1,5,6,7,8,10,44]) (.cond (.tmp 44) (.skip) (.exit 2))) (.block 3 (.seq (.ops [O1 45 (.mov (.tmp 8)),O1 46 (.bin .mul (.tmp 45) (.const (.int .u32 16777619))),O1 8 (.mov (.tmp 46))] [0,1,5,6,7,8,10]) (.seq (.ops [O1 47 (.mov (.tmp 8)),O1 48 (.mov (.tmp 0)),O1 49 (.mov (.tmp 10)),O1 50 (.idxStr (.tmp 48) (.tmp 49)),O1 51 (.convI .u32 (.tmp 50)),O1 52 (.bin .add (.tmp 47) (.tmp 51)),O1 8 (.mov (.tmp 52))] [0,1,5,6,7,8,10]) (.seq (.ops [O1 53 (.mov (.tmp 8)),O1 54 (.mov (.tmp 6)),O1 55 (.mov (.tmp 0)),O1 56 (.mov (.tmp 10)),O1 57 (.mov (.tmp 7)),O1 58 (.bin .sub (.tmp 56) (.tmp 57)),O1 59 (.idxStr (.tmp 55) (.tmp 58)),O1 60 (.convI .u32 (.tmp 59)),O1 61 (.bin .mul (.tmp 54) (.tmp 60)),O1 62 (.bin .sub (.tmp 53) (.tmp 61)),O1 8 (.mov (.tmp 62))] [0,1,5,6,7,8,10]) (.seq (.ops [O1 63 (.mov (.tmp 10)),O1 64 (.bin .add (.tmp 63) (.const (.int .i64 1))),O1 10 (.mov (.tmp 64))] [0,1,5,6,7,8,10]) (.seq (.ops [O1 65 (.mov (.tmp 8)),O1 66 (.mov (.tmp 5)),O1 67 (.bin .eql (.tmp 65) (.tmp 66)),O1 68 (.mov (.tmp 67)),⟨some 69,some (68,true),.mov (.tmp 0)⟩,⟨some 70,some (68,true),.mov (.tmp 10)⟩,⟨some 71,some (68,true),.mov (.tmp 7)⟩,⟨some 72,some (68,true),.bin .sub (.tmp 70) (.tmp 71)⟩,⟨some 73,some (68,true),.mov (.tmp 10)⟩,⟨some 74,some (68,true),.slcS (.tmp 69) (some (.tmp 72)) (some (.tmp 73))⟩,⟨some 75,some (68,true),.mov (.tmp 1)⟩,⟨some 76,some (68,true),.bin .eql (.tmp 74) (.tmp 75)⟩,O1 77 (.pick (.tmp 68) (.tmp 76) (.const (.bool false)))] [0,1,5,6,7,8,10,77]) (.cond (.tmp 77) (.seq (.ops [O1 78 (.mov (.tmp 10)),O1 79 (.mov (.tmp 7)),O1 80 (.bin .sub (.tmp 78) (.tmp 79)),O1 4 (.mov (.tmp 80))] [4]) (.ret)) (.skip))))))))
def c78l1:AC:= .seq (.seq (.ops [O1 18 (.mov (.tmp 9)),O1 19 (.mov (.tmp 7)),O1 20 (.bin .lss (.tmp 18) (.tmp 19))] [0,1,5,6,7,8,9,20]) (.cond (.tmp 20) (.skip) (.exit 0))) (.seq (.block 1 (.ops [O1 23 (.mov (.tmp 8)),O1 24 (.bin .mul (.tmp 23) (.const (.int .u32 16777619))),O1 25 (.mov (.tmp 0)),O1 26 (.mov (.tmp 9)),O1 27 (.idxStr (.tmp 25) (.tmp 26)),O1 28 (.convI .u32 (.tmp 27)),O1 29 (.bin .add (.tmp 24) (.tmp 28)),O1 8 (.mov (.tmp 29))] [0,1,5,6,7,8,9])) (.ops [O1 21 (.mov (.tmp 9)),O1 22 (.bin .add (.tmp 21) (.const (.int .i64 1))),O1 9 (.mov (.tmp 22))] [0,1,5,6,7,8,9]))
def c78:AFun:=⟨.seq (.ops [O1 4 (.mov (.const (.int .i64 0)))] [0,1]) (.seq (.ops [O1 12 (.mov (.tmp 1)),O1 13 (.callF 89 [.tmp 12]),O1 11 (.mov (.tmp 13)),O1 14 (.ext (.tmp 11) 0),O1 15 (.ext (.tmp 11) 1),O1 5 (.mov (.tmp 14)),O1 6 (.mov (.tmp 15))] [0,1,5,6]) (.seq (.ops [O1 16 (.mov (.tmp 1)),O1 17 (.len true (.tmp 16)),O1 7 (.mov (.tmp 17))] [0,1,5,6,7]) (.seq (.ops [O1 8 (.mov (.const (.int .u32 0)))] [0,1,5,6,7,8]) (.seq (.seq (.ops [O1 9 (.mov (.const (.int .i64 0)))] [0,1,5,6,7,8,9]) (.block 0 (.loop [0,1,5,6,7,8,9] c78l1))) (.seq (.seq (.ops [O1 30 (.mov (.tmp 8)),O1 31 (.mov (.tmp 5)),O1 32 (.bin .eql (.tmp 30) (.tmp 31)),O1 33 (.mov (.tmp 32)),⟨some 34,some (33,true),.mov (.tmp 0)⟩,⟨some 35,some (33,true),.mov (.tmp 7)⟩,⟨some 36,some (33,true),.slcS (.tmp 34) none (some (.tmp 35))⟩,⟨some 37,some (33,true),.mov (.tmp 1)⟩,⟨some 38,some (33,true),.bin .eql (.tmp 36) (.tmp 37)⟩,O1 39 (.pick (.tmp 33) (.tmp 38) (.const (.bool false)))] [0,1,5,6,7,8,39]) (.cond (.tmp 39) (.seq (.ops [O1 4 (.mov (.const (.int .i64 0)))] [4]) (.ret)) (.skip))) (.seq (.seq (.ops [O1 40 (.mov (.tmp 7)),O1 10 (.mov (.tmp 40))] [0,1,5,6,7,8,10]) (.block 2 (.loop [0,1,5,6,7,8,10] c78l0))) (.seq (.ops [O1 4 (.mov (.const (.int .i64 (-1))))] [4]) (.ret)))))))),81,[(4,none)],true⟩
theorem ok78:FunOK Tryd.prog 78 c78:= .code ⟨Tryd.f78,_,c78.code,Tryd.func78,rfl,by kernel_rfl,rfl,by kernel_rfl,by kernel_rfl⟩
/- internal/stringslite.HasPrefix -/
def c79:AFun:=⟨.seq (.ops [O1 4 (.mov (.const (.bool false)))] [0,1]) (.seq (.ops [O1 5 (.mov (.tmp 0)),O1 6 (.len true (.tmp 5)),O1 7 (.mov (.tmp 1)),O1 8 (.len true (.tmp 7)),O1 9 (.bin .geq (.tmp 6) (.tmp 8)),O1 10 (.mov (.tmp 9)),⟨some 11,some (10,true),.mov (.tmp 0)⟩,⟨some 12,some (10,true),.mov (.tmp 1)⟩,⟨some 13,some (10,true),.len true (.tmp 12)⟩,⟨some 14,some (10,true),.slcS (.tmp 11) none (some (.tmp 13))⟩,⟨some 15,some (10,true),.mov (.tmp 1)⟩,⟨some 16,some (10,true),.bin .eql (.tmp 14) (.tmp 15)⟩,O1 17 (.pick (.tmp 10) (.tmp 16) (.const (.bool false))),O1 4 (.mov (.tmp 17))] [4]) (.ret)),18,[(4,none)],true⟩
theorem ok79:FunOK Tryd.prog 79 c79:= .code ⟨Tryd.f79,_,c79.code,Tryd.func79,rfl,by kernel_rfl,rfl,by kernel_rfl,by kernel_rfl⟩
/- internal/bytealg.hashStr[string] -/
def c89l0:AC:= .seq (.seq (.ops [O1 24 (.mov (.tmp 8)),O1 25 (.bin .gtr (.tmp 24) (.const (.int .i64 0)))] [4,6,7,8,25]) (.cond (.tmp 25) (.skip) (.exit 2))) (.seq (.block 3 (.seq (.seq (.ops [O1 28 (.mov (.tmp 8)),O1 29 (.bin .and (.tmp 28) (.const (.int .i64 1))),O1 30 (.bin .neq (.tmp 29) (.const (.int .i64 0)))] [4,6,7,8,30]) (.cond (.tmp 30) (.ops [O1 31 (.mov (.tmp 6)),O1 32 (.mov (.tmp 7)),O1 33 (.bin .mul (.tmp 31) (.tmp 32)),O1 6 (.mov (.tmp 33))] [4,6,7,8]) (.skip))) (.ops [O1 34 (.mov (.tmp 7)),O1 35 (.mov (.tmp 7)),O1 36 (.bin .mul (.tmp 34) (.tmp 35)),O1 7 (.mov (.tmp 36))] [4,6,7,8]))) (.ops [O1 26 (.mov (.tmp 8)),O1 27 (.bin .shr (.tmp 26) (.const (.int .u64 1))),O1 8 (.mov (.tmp 27))] [4,6,7,8]))
def c89l1:AC:= .seq (.seq (.ops [O1 9 (.mov (.tmp 5)),O1 10 (.mov (.tmp 0)),O1 11 (.len true (.tmp 10)),O1 12 (.bin .lss (.tmp 9) (.tmp 11))] [0,4,5,12]) (.cond (.tmp 12) (.skip) (.exit 0))) (.seq (.block 1 (.ops [O1 15 (.mov (.tmp 4)),O1 16 (.bin .mul (.tmp 15) (.const (.int .u32 16777619))),O1 17 (.mov (.tmp 0)),O1 18 (.mov (.tmp 5)),O1 19 (.idxStr (.tmp 17) (.tmp 18)),O1 20 (.convI .u32 (.tmp 19)),O1 21 (.bin .add (.tmp 16) (.tmp 20)),O1 4 (.mov (.tmp 21))] [0,4,5])) (.ops [O1 13 (.mov (.tmp 5)),O1 14 (.bin .add (.tmp 13) (.const (.int .i64 1))),O1 5 (.mov (.tmp 14))] [0,4,5]))
def c89:AFun:=⟨.seq (.ops [O1 2 (.mov (.const (.int .u32 0))),O1 3 (.mov (.const (.int .u32 0)))] [0]) (.seq (.ops [O1 4 (.mov (.const (.int .u32 0)))] [0,4]) (.seq (.seq (.ops [O1 5 (.mov (.const (.int .i64 0)))] [0,4,5]) (.block 0 (.loop [0,4,5] c89l1))) (.seq (.ops [O1 6 (.mov (.const (.int .u32 1))),O1 7 (.mov (.const (.int .u32 16777619)))] [0,4,6,7]) (.seq (.seq (.ops [O1 22 (.mov (.tmp 0)),O1 23 (.len true (.tmp 22)),O1 8 (.mov (.tmp 23))] [4,6,7,8]) (.block 2 (.loop [4,6,7,8] c89l0))) (.seq (.ops [O1 37 (.mov (.tmp 4)),O1 38 (.mov (.tmp 6)),O1 2 (.mov (.tmp 37)),O1 3 (.mov (.tmp 38))] [2,3]) (.ret)))))),39,[(2,none),(3,none)],true⟩
theorem ok89:FunOK Tryd.prog 89 c89:= .code ⟨Tryd.f89,_,c89.code,Tryd.func89,rfl,by kernel_rfl,rfl,by kernel_rfl,by kernel_rfl⟩
def fns:FuncId→Option AFun
 |5=>some c5
 |8=>some c8
 |10=>some c10
 |13=>some c13
 |15=>some c15
 |17=>some c17
 |20=>some c20
 |21=>some c21
 |22=>some c22
 |23=>some c23
 |26=>some c26
 |27=>some c27
 |28=>some c28
 |29=>some c29
 |30=>some c30
 |36=>some c36
 |37=>some c37
 |38=>some c38
 |39=>some c39
 |40=>some c40
 |42=>some c42
 |43=>some c43
 |44=>some c44
 |51=>some c51
 |52=>some c52
 |53=>some c53
 |57=>some c57
 |58=>some c58
 |60=>some c60
 |64=>some c64
 |65=>some c65
 |66=>some c66
 |75=>some c75
 |77=>some c77
 |78=>some c78
 |79=>some c79
 |89=>some c89
 |_=>none
theorem fns_ok:FunsOK Tryd.prog fns:=by
 intro f af h
 unfold fns at h
 split at h
 ·cases h;exact ok5
 ·cases h;exact ok8
 ·cases h;exact ok10
 ·cases h;exact ok13
 ·cases h;exact ok15
 ·cases h;exact ok17
 ·cases h;exact ok20
 ·cases h;exact ok21
 ·cases h;exact ok22
 ·cases h;exact ok23
 ·cases h;exact ok26
 ·cases h;exact ok27
 ·cases h;exact ok28
 ·cases h;exact ok29
 ·cases h;exact ok30
 ·cases h;exact ok36
 ·cases h;exact ok37
 ·cases h;exact ok38
 ·cases h;exact ok39
 ·cases h;exact ok40
 ·cases h;exact ok42
 ·cases h;exact ok43
 ·cases h;exact ok44
 ·cases h;exact ok51
 ·cases h;exact ok52
 ·cases h;exact ok53
 ·cases h;exact ok57
 ·cases h;exact ok58
 ·cases h;exact ok60
 ·cases h;exact ok64
 ·cases h;exact ok65
 ·cases h;exact ok66
 ·cases h;exact ok75
 ·cases h;exact ok77
 ·cases h;exact ok78
 ·cases h;exact ok79
 ·cases h;exact ok89
 ·cases h
end Go.Proofs.YtbefpfbidgfipaaDoor
namespace Go.Proofs
open Go.Shelf
def Tryd.lays156_ren:Go.Shelf.Ren:=⟨fun|156=>46|165=>62|166=>36|169=>38|240=>57|241=>74|276=>72|277=>87|n=>n,fun|31=>48|9=>9|3=>3|4=>4|0=>0|20=>20|72=>77|76=>66|70=>74|37=>75|75=>65|127=>92|164=>102|5=>5|80=>79|n=>n,fun|n=>n⟩
theorem Tryd.lays156:Go.Proofs.Lays.n156 Tryd.prog Tryd.lays156_ren:={
 mixed:=by kernel_rfl
 f156:=Tryd.func46.trans (congrArg some (by kernel_rfl))
 f165:=Tryd.func62.trans (congrArg some (by kernel_rfl))
 f166:=Tryd.func36.trans (congrArg some (by kernel_rfl))
 f169:=Tryd.func38.trans (congrArg some (by kernel_rfl))
 f240:=Tryd.func57.trans (congrArg some (by kernel_rfl))
 f241:=Tryd.func74.trans (congrArg some (by kernel_rfl))
 f276:=Tryd.func72.trans (congrArg some (by kernel_rfl))
 f277:=Tryd.func87.trans (congrArg some (by kernel_rfl))
 t0:=Tryd.underlying0
 a0:=Tryd.isAgg0
 z0:=Tryd.sizeOf0
 v0:=Tryd.zeroValue0
 t3:=Tryd.underlying3
 a3:=Tryd.isAgg3
 z3:=Tryd.sizeOf3
 v3:=Tryd.zeroValue3
 t4:=Tryd.underlying4
 a4:=Tryd.isAgg4
 z4:=Tryd.sizeOf4
 v4:=Tryd.zeroValue4
 t9:=Tryd.underlying9
 a9:=Tryd.isAgg9
 z9:=Tryd.sizeOf9
 v9:=Tryd.zeroValue9
 t20:=Tryd.underlying20
 a20:=Tryd.isAgg20
 z20:=Tryd.sizeOf20
 v20:=Tryd.zeroValue20
 t31:=Tryd.underlying48
 a31:=Tryd.isAgg48
 z31:=Tryd.sizeOf48
 v31:=Tryd.zeroValue48
 t37:=Tryd.underlying75
 a37:=Tryd.isAgg75
 z37:=Tryd.sizeOf75
 v37:=Tryd.zeroValue75
 t70:=Tryd.underlying74
 a70:=Tryd.isAgg74
 z70:=Tryd.sizeOf74
 v70:=Tryd.zeroValue74
 t72:=Tryd.underlying77
 a72:=Tryd.isAgg77
 z72:=Tryd.sizeOf77
 v72:=Tryd.zeroValue77
 t75:=Tryd.underlying65
 a75:=Tryd.isAgg65
 z75:=Tryd.sizeOf65
 v75:=Tryd.zeroValue65
 t76:=Tryd.underlying66
 a76:=Tryd.isAgg66
 z76:=Tryd.sizeOf66
 v76:=Tryd.zeroValue66
 t127:=Tryd.underlying92
 a127:=Tryd.isAgg92
 z127:=Tryd.sizeOf92
 v127:=Tryd.zeroValue92
 t164:=Tryd.underlying102
 a164:=Tryd.isAgg102
 z164:=Tryd.sizeOf102
 v164:=Tryd.zeroValue102}
theorem Tryd.Builder_Extra_156:Builder.Extra Tryd.prog Tryd.lays156_ren:={
 sizeBuilder:=by kernel_rfl
 liesBuilder:=by kernel_rfl
 t5:=Tryd.underlying5
 a5:=Tryd.isAgg5
 z5:=Tryd.sizeOf5
 v5:=Tryd.zeroValue5
 infoByte:=by kernel_rfl
 cellsByte:=by kernel_rfl
 sizeByte:=by kernel_rfl
 neB5:=by decide}
open Go.RowKit in
theorem Tryd.strings_Join_none (a:Option Addr) (c:Nat) (sep:ByteArray) (w:World):
  Calls Tryd.prog 46 #[.slice a 0 c,.string sep] w fun e w'=>e= .returned (.string ⟨#[]⟩)∧w'=w:=Any.strings_Join_none Tryd.lays156 Tryd.Builder_Extra_156 a c sep w
open Go.RowKit in
theorem Tryd.strings_Join (bk o c:Nat) (xs:List ByteArray) (sep:ByteArray) (w:World) (hcells:∀ (j:Nat) x,xs[j]? =some x→w.cell? ⟨bk,o+j,none⟩=some (.string x)) (hbk:bk<w.heap.size) (hN:xs.length≤140737488355328) (hcap:xs.length≤c) (hlen:(Lib.join (xs.map (·.data.toList)) sep.data.toList).length≤140737488355328):
  Calls Tryd.prog 46 #[.slice (some ⟨bk,o,none⟩) xs.length c,.string sep] w fun e w'=>e= .returned (.string ⟨(Lib.join (xs.map (·.data.toList)) sep.data.toList).toArray⟩)∧Below w.heap.size w w':=Any.strings_Join Tryd.lays156 Tryd.Builder_Extra_156 bk o c xs sep w hcells hbk hN hcap hlen
def Tryd.laysM171_ren:Go.Shelf.Ren:=⟨fun|171=>45|243=>61|246=>73|283=>83|284=>84|285=>85|286=>86|129=>93|317=>92|318=>94|319=>95|320=>96|337=>97|338=>98|n=>n,fun|3=>3|9=>9|2=>2|4=>4|171=>114|0=>0|53=>107|37=>75|5=>5|173=>117|212=>129|51=>120|20=>20|213=>130|46=>106|232=>133|233=>134|n=>n,fun|17=>3|18=>4|19=>5|n=>n⟩
theorem Tryd.laysM171:Go.Proofs.LaysM.n171 Tryd.prog Tryd.laysM171_ren:={
 mixed:=by kernel_rfl
 f129:=Tryd.func93.trans (congrArg some (by kernel_rfl))
 f171:=Tryd.func45.trans (congrArg some (by kernel_rfl))
 f243:=Tryd.func61.trans (congrArg some (by kernel_rfl))
 f246:=Tryd.func73.trans (congrArg some (by kernel_rfl))
 f283:=Tryd.func83.trans (congrArg some (by kernel_rfl))
 f284:=Tryd.func84.trans (congrArg some (by kernel_rfl))
 f285:=Tryd.func85.trans (congrArg some (by kernel_rfl))
 f286:=Tryd.func86.trans (congrArg some (by kernel_rfl))
 f317:=Tryd.func92.trans (congrArg some (by kernel_rfl))
 f318:=Tryd.func94.trans (congrArg some (by kernel_rfl))
 f319:=Tryd.func95.trans (congrArg some (by kernel_rfl))
 f320:=Tryd.func96.trans (congrArg some (by kernel_rfl))
 f337:=Tryd.func97.trans (congrArg some (by kernel_rfl))
 f338:=Tryd.func98.trans (congrArg some (by kernel_rfl))
 t0:=Tryd.underlying0
 a0:=Tryd.isAgg0
 z0:=Tryd.sizeOf0
 v0:=Tryd.zeroValue0
 t2:=Tryd.underlying2
 a2:=Tryd.isAgg2
 z2:=Tryd.sizeOf2
 v2:=Tryd.zeroValue2
 t3:=Tryd.underlying3
 a3:=Tryd.isAgg3
 z3:=Tryd.sizeOf3
 v3:=Tryd.zeroValue3
 t4:=Tryd.underlying4
 a4:=Tryd.isAgg4
 z4:=Tryd.sizeOf4
 v4:=Tryd.zeroValue4
 t5:=Tryd.underlying5
 a5:=Tryd.isAgg5
 z5:=Tryd.sizeOf5
 v5:=Tryd.zeroValue5
 t9:=Tryd.underlying9
 a9:=Tryd.isAgg9
 z9:=Tryd.sizeOf9
 v9:=Tryd.zeroValue9
 t20:=Tryd.underlying20
 a20:=Tryd.isAgg20
 z20:=Tryd.sizeOf20
 v20:=Tryd.zeroValue20
 t37:=Tryd.underlying75
 a37:=Tryd.isAgg75
 z37:=Tryd.sizeOf75
 v37:=Tryd.zeroValue75
 t46:=Tryd.underlying106
 a46:=Tryd.isAgg106
 z46:=Tryd.sizeOf106
 v46:=Tryd.zeroValue106
 t51:=Tryd.underlying120
 a51:=Tryd.isAgg120
 z51:=Tryd.sizeOf120
 v51:=Tryd.zeroValue120
 t53:=Tryd.underlying107
 a53:=Tryd.isAgg107
 z53:=Tryd.sizeOf107
 v53:=Tryd.zeroValue107
 t171:=Tryd.underlying114
 a171:=Tryd.isAgg114
 z171:=Tryd.sizeOf114
 v171:=Tryd.zeroValue114
 t173:=Tryd.underlying117
 a173:=Tryd.isAgg117
 z173:=Tryd.sizeOf117
 v173:=Tryd.zeroValue117
 t212:=Tryd.underlying129
 a212:=Tryd.isAgg129
 z212:=Tryd.sizeOf129
 v212:=Tryd.zeroValue129
 t213:=Tryd.underlying130
 a213:=Tryd.isAgg130
 z213:=Tryd.sizeOf130
 t232:=Tryd.underlying133
 a232:=Tryd.isAgg133
 z232:=Tryd.sizeOf133
 v232:=Tryd.zeroValue133
 t233:=Tryd.underlying134
 a233:=Tryd.isAgg134
 z233:=Tryd.sizeOf134
 v233:=Tryd.zeroValue134
 g17:=by kernel_rfl
 g18:=by kernel_rfl
 g19:=by kernel_rfl
 i0:=by kernel_rfl
 i2:=by kernel_rfl
 i3:=by kernel_rfl
 i4:=by kernel_rfl
 i5:=by kernel_rfl
 i9:=by kernel_rfl
 i20:=by kernel_rfl
 i37:=by kernel_rfl
 i46:=by kernel_rfl
 i51:=by kernel_rfl
 i53:=by kernel_rfl
 i171:=by kernel_rfl
 i173:=by kernel_rfl
 i212:=by kernel_rfl
 i232:=by kernel_rfl
 i233:=by kernel_rfl
 m17:=by kernel_rfl
 m18:=by kernel_rfl
 m19:=by kernel_rfl}
open Go.RowKit Go.Sort Go.Lib in
theorem Tryd.strconv_Itoa (n:Int) (h0: -9223372036854775808≤n) (h1:n≤9223372036854775807) (w:World) (htab:Lib.TabIs Tryd.prog w "internal/strconv.uint64pow10" .u64 Lib.pow10Tab):
  Calls Tryd.prog 45 #[.int .i64 n] w fun e w'=>e= .returned (.string ⟨(Lib.itoa n).toArray⟩)∧∃ k os,w'=grow (w.drewN k) os:=Any.strconv_Itoa Tryd.laysM171 n h0 h1 w htab
def Tryd.laysC172_ren:Go.Shelf.Ren:=⟨fun|172=>31|244=>54|245=>55|247=>67|279=>68|280=>69|281=>70|282=>71|287=>80|316=>81|171=>45|205=>82|321=>90|322=>91|243=>61|246=>73|283=>83|284=>84|285=>85|286=>86|129=>93|317=>92|318=>94|319=>95|320=>96|337=>97|338=>98|n=>n,fun|9=>9|3=>3|75=>65|76=>66|4=>4|5=>5|167=>96|37=>75|0=>0|85=>97|2=>2|168=>99|53=>107|175=>108|46=>106|210=>112|127=>92|145=>127|143=>125|21=>21|171=>114|173=>117|212=>129|51=>120|20=>20|213=>130|232=>133|233=>134|80=>79|n=>n,fun|15=>1|16=>2|17=>3|18=>4|19=>5|n=>n⟩
theorem Tryd.laysC172:Go.Proofs.LaysC.n172 Tryd.prog Tryd.laysC172_ren:={
 mixed:=by kernel_rfl
 f129:=Tryd.func93.trans (congrArg some (by kernel_rfl))
 f171:=Tryd.func45.trans (congrArg some (by kernel_rfl))
 f172:=Tryd.func31.trans (congrArg some (by kernel_rfl))
 f205:=Tryd.func82.trans (congrArg some (by kernel_rfl))
 f243:=Tryd.func61.trans (congrArg some (by kernel_rfl))
 f244:=Tryd.func54.trans (congrArg some (by kernel_rfl))
 f245:=Tryd.func55.trans (congrArg some (by kernel_rfl))
 f246:=Tryd.func73.trans (congrArg some (by kernel_rfl))
 f247:=Tryd.func67.trans (congrArg some (by kernel_rfl))
 f279:=Tryd.func68.trans (congrArg some (by kernel_rfl))
 f280:=Tryd.func69.trans (congrArg some (by kernel_rfl))
 f281:=Tryd.func70.trans (congrArg some (by kernel_rfl))
 f282:=Tryd.func71.trans (congrArg some (by kernel_rfl))
 f283:=Tryd.func83.trans (congrArg some (by kernel_rfl))
 f284:=Tryd.func84.trans (congrArg some (by kernel_rfl))
 f285:=Tryd.func85.trans (congrArg some (by kernel_rfl))
 f286:=Tryd.func86.trans (congrArg some (by kernel_rfl))
 f287:=Tryd.func80.trans (congrArg some (by kernel_rfl))
 f316:=Tryd.func81.trans (congrArg some (by kernel_rfl))
 f317:=Tryd.func92.trans (congrArg some (by kernel_rfl))
 f318:=Tryd.func94.trans (congrArg some (by kernel_rfl))
 f319:=Tryd.func95.trans (congrArg some (by kernel_rfl))
 f320:=Tryd.func96.trans (congrArg some (by kernel_rfl))
 f321:=Tryd.func90.trans (congrArg some (by kernel_rfl))
 f322:=Tryd.func91.trans (congrArg some (by kernel_rfl))
 f337:=Tryd.func97.trans (congrArg some (by kernel_rfl))
 f338:=Tryd.func98.trans (congrArg some (by kernel_rfl))
 t0:=Tryd.underlying0
 a0:=Tryd.isAgg0
 z0:=Tryd.sizeOf0
 v0:=Tryd.zeroValue0
 t2:=Tryd.underlying2
 a2:=Tryd.isAgg2
 z2:=Tryd.sizeOf2
 v2:=Tryd.zeroValue2
 t3:=Tryd.underlying3
 a3:=Tryd.isAgg3
 z3:=Tryd.sizeOf3
 v3:=Tryd.zeroValue3
 t4:=Tryd.underlying4
 a4:=Tryd.isAgg4
 z4:=Tryd.sizeOf4
 v4:=Tryd.zeroValue4
 t5:=Tryd.underlying5
 a5:=Tryd.isAgg5
 z5:=Tryd.sizeOf5
 v5:=Tryd.zeroValue5
 t9:=Tryd.underlying9
 a9:=Tryd.isAgg9
 z9:=Tryd.sizeOf9
 v9:=Tryd.zeroValue9
 t20:=Tryd.underlying20
 a20:=Tryd.isAgg20
 z20:=Tryd.sizeOf20
 v20:=Tryd.zeroValue20
 t21:=Tryd.underlying21
 a21:=Tryd.isAgg21
 z21:=Tryd.sizeOf21
 v21:=Tryd.zeroValue21
 t37:=Tryd.underlying75
 a37:=Tryd.isAgg75
 z37:=Tryd.sizeOf75
 v37:=Tryd.zeroValue75
 t46:=Tryd.underlying106
 a46:=Tryd.isAgg106
 z46:=Tryd.sizeOf106
 v46:=Tryd.zeroValue106
 t51:=Tryd.underlying120
 a51:=Tryd.isAgg120
 z51:=Tryd.sizeOf120
 v51:=Tryd.zeroValue120
 t53:=Tryd.underlying107
 a53:=Tryd.isAgg107
 z53:=Tryd.sizeOf107
 v53:=Tryd.zeroValue107
 t75:=Tryd.underlying65
 a75:=Tryd.isAgg65
 z75:=Tryd.sizeOf65
 v75:=Tryd.zeroValue65
 t76:=Tryd.underlying66
 a76:=Tryd.isAgg66
 z76:=Tryd.sizeOf66
 v76:=Tryd.zeroValue66
 t85:=Tryd.underlying97
 a85:=Tryd.isAgg97
 z85:=Tryd.sizeOf97
 v85:=Tryd.zeroValue97
 t127:=Tryd.underlying92
 a127:=Tryd.isAgg92
 z127:=Tryd.sizeOf92
 v127:=Tryd.zeroValue92
 t143:=Tryd.underlying125
 a143:=Tryd.isAgg125
 z143:=Tryd.sizeOf125
 v143:=Tryd.zeroValue125
 t145:=Tryd.underlying127
 a145:=Tryd.isAgg127
 z145:=Tryd.sizeOf127
 v145:=Tryd.zeroValue127
 t167:=Tryd.underlying96
 a167:=Tryd.isAgg96
 z167:=Tryd.sizeOf96
 v167:=Tryd.zeroValue96
 t168:=Tryd.underlying99
 a168:=Tryd.isAgg99
 z168:=Tryd.sizeOf99
 v168:=Tryd.zeroValue99
 t171:=Tryd.underlying114
 a171:=Tryd.isAgg114
 z171:=Tryd.sizeOf114
 v171:=Tryd.zeroValue114
 t173:=Tryd.underlying117
 a173:=Tryd.isAgg117
 z173:=Tryd.sizeOf117
 v173:=Tryd.zeroValue117
 t175:=Tryd.underlying108
 a175:=Tryd.isAgg108
 z175:=Tryd.sizeOf108
 v175:=Tryd.zeroValue108
 t210:=Tryd.underlying112
 a210:=Tryd.isAgg112
 z210:=Tryd.sizeOf112
 v210:=Tryd.zeroValue112
 t212:=Tryd.underlying129
 a212:=Tryd.isAgg129
 z212:=Tryd.sizeOf129
 v212:=Tryd.zeroValue129
 t213:=Tryd.underlying130
 a213:=Tryd.isAgg130
 z213:=Tryd.sizeOf130
 t232:=Tryd.underlying133
 a232:=Tryd.isAgg133
 z232:=Tryd.sizeOf133
 v232:=Tryd.zeroValue133
 t233:=Tryd.underlying134
 a233:=Tryd.isAgg134
 z233:=Tryd.sizeOf134
 v233:=Tryd.zeroValue134
 g15:=by kernel_rfl
 g16:=by kernel_rfl
 g17:=by kernel_rfl
 g18:=by kernel_rfl
 g19:=by kernel_rfl
 t80:=Tryd.underlying79
 a80:=Tryd.isAgg79
 z80:=Tryd.sizeOf79
 v80:=Tryd.zeroValue79
 i0:=by kernel_rfl
 i2:=by kernel_rfl
 i3:=by kernel_rfl
 i4:=by kernel_rfl
 i5:=by kernel_rfl
 i9:=by kernel_rfl
 i20:=by kernel_rfl
 i21:=by kernel_rfl
 i37:=by kernel_rfl
 i46:=by kernel_rfl
 i51:=by kernel_rfl
 i53:=by kernel_rfl
 i75:=by kernel_rfl
 i76:=by kernel_rfl
 i80:=by kernel_rfl
 i85:=by kernel_rfl
 i127:=by kernel_rfl
 i143:=by kernel_rfl
 i145:=by kernel_rfl
 i167:=by kernel_rfl
 i168:=by kernel_rfl
 i171:=by kernel_rfl
 i173:=by kernel_rfl
 i175:=by kernel_rfl
 i210:=by kernel_rfl
 i212:=by kernel_rfl
 i232:=by kernel_rfl
 i233:=by kernel_rfl
 m15:=by kernel_rfl
 m16:=by kernel_rfl
 m17:=by kernel_rfl
 m18:=by kernel_rfl
 m19:=by kernel_rfl
 c0:=by kernel_rfl
 c2:=by kernel_rfl
 c3:=by kernel_rfl
 c4:=by kernel_rfl
 c5:=by kernel_rfl
 c9:=by kernel_rfl
 c20:=by kernel_rfl
 c21:=by kernel_rfl
 c37:=by kernel_rfl
 c46:=by kernel_rfl
 c51:=by kernel_rfl
 c53:=by kernel_rfl
 c75:=by kernel_rfl
 c76:=by kernel_rfl
 c80:=by kernel_rfl
 c85:=by kernel_rfl
 c127:=by kernel_rfl
 c143:=by kernel_rfl
 c145:=by kernel_rfl
 c167:=by kernel_rfl
 c168:=by kernel_rfl
 c171:=by kernel_rfl
 c173:=by kernel_rfl
 c175:=by kernel_rfl
 c210:=by kernel_rfl
 c212:=by kernel_rfl
 c213:=by kernel_rfl
 c232:=by kernel_rfl
 c233:=by kernel_rfl}
open Go.RowKit in
theorem Tryd.strconv_Atoi_ok (s:ByteArray) (hmax:s.size≤9223372036854775806) (v:Int) (h:Lib.atoiAll s.data.toList= .ok v) (w:World):
  Calls Tryd.prog 31 #[.string s] w fun e w'=>e= .returned (.tuple #[.int .i64 v,.nilIface])∧(w'=w∨∃ t,w'=Lib.bytesWorld w 5 t):=Any.strconv_Atoi_ok Tryd.laysC172 s hmax v h w
open Go.RowKit in
theorem Tryd.strconv_Atoi_syntax_var (s:ByteArray) (hlim:s.size≤281474976710656) (h:Lib.atoiAll s.data.toList=Lib.atoiAll []) (tp:TypeId) (p:Value) (w:World) (hvar:w.var? Tryd.prog "strconv.ErrSyntax"=some #[.iface tp p]):
  Calls Tryd.prog 31 #[.string s] w fun e w'=>∃ N,e= .returned (.tuple #[.int .i64 0,.iface 99 (.pointer (some ⟨N,0,none⟩))])∧w.heap.size≤N∧w'.heap[N]? =some (.cells #[.string ⟨#[65,116,111,105]⟩,.string s,.iface tp p] 112 (0,0))∧Below w.heap.size w w':=Any.strconv_Atoi_syntax_var Tryd.laysC172 s hlim h tp p w hvar
open Go.RowKit in
theorem Tryd.strconv_Atoi_range_var (s:ByteArray) (hlim:s.size≤281474976710656) (h:Lib.atoiAll s.data.toList= .range) (tp:TypeId) (p:Value) (w:World) (hvar:w.var? Tryd.prog "strconv.ErrRange"=some #[.iface tp p]):
  Calls Tryd.prog 31 #[.string s] w fun e w'=>∃ N,e= .returned (.tuple #[.int .i64 (Lib.atoiSat s.data.toList),.iface 99 (.pointer (some ⟨N,0,none⟩))])∧w.heap.size≤N∧w'.heap[N]? =some (.cells #[.string ⟨#[65,116,111,105]⟩,.string s,.iface tp p] 112 (0,0))∧Below w.heap.size w w':=Any.strconv_Atoi_range_var Tryd.laysC172 s hlim h tp p w hvar
end Go.Proofs
namespace Go.Proofs.YtbefpfbidgfipaaDoor
open Go Go.Itp
open Go.RowKit (Below)
set_option linter.unusedVariables false
set_option maxRecDepth 100000
theorem own : ownKnob Tryd.prog.godebug = none := by kernel_rfl
theorem mixed : Tryd.prog.follows .mixedOrders = true := by kernel_rfl
def prims0 : List (FuncId × Prim × TypeId) := [(72, .same, 0), (88, .indexByte, 0), (59, .count, 0)]
theorem prims_all : AllPrims Tryd.prog prims0 :=
  ⟨⟨⟨Tryd.f72, Tryd.func72, by kernel_rfl, by kernel_rfl, by kernel_rfl, rfl⟩⟩, ⟨⟨Tryd.f88, Tryd.func88, by kernel_rfl, by kernel_rfl, by kernel_rfl, rfl⟩⟩, ⟨⟨Tryd.f59, Tryd.func59, by kernel_rfl, by kernel_rfl, by kernel_rfl, rfl⟩⟩, trivial⟩
noncomputable abbrev PR (w : World) : FuncId → List Value → St → Option (Value × List Blk) :=
  orElseP (primsOf prims0) (orElseP (itoaP 45) (orElseP (joinP (oldOf w) 46)
    (atoiP 31 99 112 (errO Tryd.prog w "strconv.ErrSyntax") (errO Tryd.prog w "strconv.ErrRange"))))
noncomputable abbrev EN (w : World) (n : Nat) : Env := callP (oldOf w) many fns (PR w) n
abbrev Tab (w : World) : Prop := Lib.TabIs Tryd.prog w "internal/strconv.uint64pow10" .u64 Lib.pow10Tab
theorem prims_ok (W : World) (ht : Tab W) : PrimsOK Tryd.prog (PR W) W :=
  orElse_ok (primsOf_ok prims0 prims_all W) (orElse_ok
    (itoaP_ok ⟨Tryd.f45, _, Tryd.func45, rfl, by kernel_rfl⟩ ht Tryd.strconv_Itoa) (orElse_ok
    (joinP_ok ⟨Tryd.f46, _, Tryd.func46, rfl, by kernel_rfl⟩ (oldOf_ok W) Tryd.strings_Join_none Tryd.strings_Join)
    (atoiP_ok (u8 := 5) ⟨Tryd.f31, _, Tryd.func31, rfl, by kernel_rfl⟩ Tryd.strconv_Atoi_ok Tryd.strconv_Atoi_syntax_var Tryd.strconv_Atoi_range_var)))
theorem law_of {W : World} (ht : Tab W) {f : FuncId} {af : AFun} (hf : fns f = some af) {xs : List Value} (hxs : idsL 0 xs = []) (n : Nat) {v : Value} {s' : St} (hb : body (EN W n) af xs St.empty = some (v, s')) (hv : ids 0 v = []) :
    Calls Tryd.prog f xs.toArray W fun e w' => e = .returned v ∧ Below W.heap.size W w' :=
  law_at mixed fns_ok (oldOf_ok W) (prims_ok W ht) hf hxs n hb hv
theorem itoa_s (w : World) (n : Nat) (st : VSt) (k : Int) (h0 : -9223372036854775808 ≤ k) (h1 : k ≤ 9223372036854775807) : VSpecO (EN w (n + 1)) 45 st [.sc (.int .i64 k)] (.sc (.string ⟨(Lib.itoa k).toArray⟩)) :=
  itoa_o h0 h1 fun xs s r h => orElse_right rfl (orElse_left h)
theorem join_s (w : World) (n : Nat) (st : VSt) (s : Nat) (hs : s ≠ 1) (ls : List (List UInt8)) (sep : List UInt8) (hl : ls.length ≤ 1099511627776) (hlen : (Lib.join ls sep).length ≤ 140737488355328) :
    VSpecO (EN w (n + 1)) 46 st [.sl s ls.length (ls.map sD), .sc (.string ⟨sep.toArray⟩)] (.sc (.string ⟨(Lib.join ls sep).toArray⟩)) :=
  join_o s hs ls sep hl hlen fun xs s r h => orElse_right rfl (orElse_right rfl (orElse_left h))
theorem atoi_s (w : World) (n : Nat) (st : VSt) (b : ByteArray) (v : Int) (hb : b.size ≤ 281474976710656) (h : Lib.atoiAll b.data.toList = .ok v) : VSpecO (EN w (n + 1)) 31 st [.sc (.string b)] (.tup [.sc (.int .i64 v), .sc .nilIface]) :=
  atoi_o hb h fun xs s r h => orElse_right rfl (orElse_right rfl (orElse_right rfl h))
theorem atoi_f (w : World) (n : Nat) (b : ByteArray) (hb : b.size ≤ 281474976710656) (hes : (errO Tryd.prog w "strconv.ErrSyntax").isSome = true) (her : (errO Tryd.prog w "strconv.ErrRange").isSome = true) (h : ∀ v, Lib.atoiAll b.data.toList ≠ .ok v) :
    ∃ (k : Int) (cs : List Value), VSpec (EN w (n + 1)) 31 [.sc (.string b)] (.tup [.sc (.int .i64 k), .ifc 99 (.ptr 0 0)]) ⟨[(0, .box 112 1 (cs.map V.sc))], 1, 0⟩ :=
  atoi_e hb (errO_ok hes) (errO_ok her) h fun xs s r h => orElse_right rfl (orElse_right rfl (orElse_right rfl h))
end Go.Proofs.YtbefpfbidgfipaaDoor
namespace Go.Itp
set_option linter.unusedVariables false
set_option linter.unusedSimpArgs false
structure Ins where
  op : Nat
  right : Bool
  bed : Nat
  pos : Int
  to : Int
  car : Int
  rack : Int
theorem Ins.ext' {i j : Ins} (h1 : i.op = j.op) (h2 : i.right = j.right) (h3 : i.bed = j.bed) (h4 : i.pos = j.pos) (h5 : i.to = j.to) (h6 : i.car = j.car) (h7 : i.rack = j.rack) : i = j := by
  cases i; cases j; simp_all
def ins0 : Ins := ⟨0, false, 0, 0, 0, 0, 0⟩
def insC (i : Ins) : List Value := [.int .u8 i.op, .bool i.right, .int .u8 i.bed, .int .i64 i.pos, .int .i64 i.to, .int .i64 i.car, .int .i64 i.rack]
def insV (i : Ins) : V := .agg [.sc (.int .u8 i.op), .sc (.bool i.right), .sc (.int .u8 i.bed), .sc (.int .i64 i.pos), .sc (.int .i64 i.to), .sc (.int .i64 i.car), .sc (.int .i64 i.rack)]
abbrev ndOK (z : Int) : Prop := -100 ≤ z ∧ z ≤ 100
def InsP (i : Ins) : Prop :=
  (i.op = 1 ∨ i.op = 2) ∧ (1 ≤ i.car ∧ i.car ≤ 6) ∧ i.right = false ∧ i.bed = 0 ∧ i.pos = 0 ∧ i.to = 0 ∧ i.rack = 0 ∨
  (i.op = 3 ∨ i.op = 4 ∨ i.op = 5) ∧ (1 ≤ i.car ∧ i.car ≤ 6) ∧ i.bed ≤ 1 ∧ ndOK i.pos ∧ i.to = 0 ∧ i.rack = 0 ∨
  i.op = 6 ∧ (1 ≤ i.car ∧ i.car ≤ 6) ∧ i.bed ≤ 1 ∧ ndOK i.pos ∧ ndOK i.to ∧ i.rack = 0 ∨
  i.op = 7 ∧ i.right = false ∧ i.car = 0 ∧ i.rack = 0 ∧ i.bed ≤ 1 ∧ ndOK i.pos ∧ ndOK i.to ∨
  i.op = 8 ∧ i.right = false ∧ i.bed = 0 ∧ i.pos = 0 ∧ i.to = 0 ∧ i.car = 0 ∧ -8 ≤ i.rack ∧ i.rack ≤ 8 ∨
  i.op = 9 ∧ i.right = false ∧ i.to = 0 ∧ i.car = 0 ∧ i.rack = 0 ∧ i.bed ≤ 1 ∧ ndOK i.pos
open Classical in
noncomputable def insOK (i : Ins) : Bool := decide (InsP i)
open Classical in
theorem insOK_iff {i : Ins} : insOK i = true ↔ InsP i := by
  unfold insOK
  constructor
  · exact of_decide_eq_true
  · intro h; exact decide_eq_true h
def nameI : Nat → List UInt8
  | 1 => [105, 110]
  | 2 => [111, 117, 116]
  | 3 => [107, 110, 105, 116]
  | 4 => [116, 117, 99, 107]
  | 5 => [109, 105, 115, 115]
  | 6 => [115, 112, 108, 105, 116]
  | 7 => [120, 102, 101, 114]
  | 8 => [114, 97, 99, 107]
  | 9 => [100, 114, 111, 112]
  | _ => []
def partsI : Nat → List UInt8
  | 1 => [99]
  | 2 => [99]
  | 3 => [100, 110, 99]
  | 4 => [100, 110, 99]
  | 5 => [100, 110, 99]
  | 6 => [100, 110, 111, 99]
  | 7 => [110, 111]
  | 8 => [114]
  | 9 => [110]
  | _ => []
def ndl (b : Nat) (z : Int) : List UInt8 := (if b = 1 then 98 else 102) :: Lib.itoa z
def partT (i : Ins) (c : UInt8) : List UInt8 :=
  if c = 100 then (if i.right = true then [43] else [45]) else if c = 110 then ndl i.bed i.pos else if c = 111 then ndl (1 - i.bed) i.to else if c = 99 then Lib.itoa i.car else Lib.itoa i.rack
def textI (i : Ins) : List UInt8 := join 32 (nameI i.op :: (partsI i.op).map (partT i))
theorem itoa_chars (z : Int) : ∀ c ∈ Lib.itoa z, isDig c = true ∨ c = 45 := fun c hc => by
  rcases Int.lt_or_le z 0 with h | h
  · have e : Lib.itoa z = 45 :: Lib.decDigits z.natAbs := by unfold Lib.itoa; rw [if_pos h]
    rw [e] at hc
    rcases List.mem_cons.1 hc with rfl | hc
    · exact .inr rfl
    · exact .inl (digits_dig _ _ (Nat.le_refl _) c hc)
  · exact .inl (itoa_dig h c hc)
theorem itoa_no32 (z : Int) : (32 : UInt8) ∉ Lib.itoa z ∧ (10 : UInt8) ∉ Lib.itoa z := by
  constructor
  · intro h; rcases itoa_chars z _ h with h | h <;> revert h <;> decide
  · intro h; rcases itoa_chars z _ h with h | h <;> revert h <;> decide
theorem partT_no (i : Ins) (c : UInt8) : (32 : UInt8) ∉ partT i c ∧ (10 : UInt8) ∉ partT i c := by
  have hn : ∀ (b : Nat) (z : Int), (32 : UInt8) ∉ ndl b z ∧ (10 : UInt8) ∉ ndl b z := fun b z => by
    have := itoa_no32 z
    unfold ndl
    simp only [List.mem_cons, not_or]
    refine ⟨⟨?_, this.1⟩, ⟨?_, this.2⟩⟩ <;> split <;> decide
  unfold partT
  split
  · split <;> simp
  split
  · exact hn _ _
  split
  · exact hn _ _
  split
  · exact itoa_no32 _
  · exact itoa_no32 _
theorem nameI_no : ∀ op : Nat, (32 : UInt8) ∉ nameI op ∧ (10 : UInt8) ∉ nameI op
  | 0 => by decide
  | 1 => by decide
  | 2 => by decide
  | 3 => by decide
  | 4 => by decide
  | 5 => by decide
  | 6 => by decide
  | 7 => by decide
  | 8 => by decide
  | 9 => by decide
  | n + 10 => by show (32 : UInt8) ∉ [] ∧ (10 : UInt8) ∉ []; simp
theorem textI_words (i : Ins) : words 32 (textI i) = nameI i.op :: (partsI i.op).map (partT i) :=
  words_join (by simp) fun w hw => by
    rcases List.mem_cons.1 hw with rfl | hw
    · exact (nameI_no _).1
    · obtain ⟨c, _, rfl⟩ := List.mem_map.1 hw
      exact (partT_no i c).1
theorem join_no {c d : UInt8} (hcd : d ≠ c) : ∀ {ws : List (List UInt8)}, (∀ w ∈ ws, d ∉ w) → d ∉ join c ws
  | [], _ => by simp [join]
  | [w], h => h w (by simp)
  | w :: v :: ws, h => by
    rw [join, List.mem_append, List.mem_cons]
    rintro (h1 | h1 | h1)
    · exact h w (by simp) h1
    · exact hcd h1
    · exact join_no hcd (fun x hx => h x (List.mem_cons_of_mem _ hx)) h1
theorem textI_no10 (i : Ins) : (10 : UInt8) ∉ textI i := join_no (by decide) fun w hw => by
    rcases List.mem_cons.1 hw with rfl | hw
    · exact (nameI_no _).2
    · obtain ⟨c, _, rfl⟩ := List.mem_map.1 hw
      exact (partT_no i c).2
theorem itoa_inj' {x y : Int} (h : Lib.itoa x = Lib.itoa y) : x = y := by
  have neg : ∀ z : Int, z < 0 → Lib.itoa z = 45 :: Lib.decDigits z.natAbs := fun z h => by unfold Lib.itoa; rw [if_pos h]
  have pos : ∀ z : Int, 0 ≤ z → (45 : UInt8) ∉ Lib.itoa z := fun z h hm => by have := itoa_dig h _ hm; revert this; decide
  rcases Int.lt_or_le x 0 with hx | hx <;> rcases Int.lt_or_le y 0 with hy | hy
  · rw [neg x hx, neg y hy] at h
    have := decDigits_inj (List.cons.inj h).2
    omega
  · exact absurd (by rw [← h, neg x hx]; simp) (pos y hy)
  · exact absurd (by rw [h, neg y hy]; simp) (pos x hx)
  · exact itoa_inj hx hy h
theorem ndl_inj {b b' : Nat} {z z' : Int} (hb : b ≤ 1) (hb' : b' ≤ 1) (h : ndl b z = ndl b' z') : b = b' ∧ z = z' := by
  unfold ndl at h
  obtain ⟨h1, h2⟩ := List.cons.inj h
  refine ⟨?_, itoa_inj' h2⟩
  by_cases e1 : b = 1 <;> by_cases e2 : b' = 1
  · omega
  · rw [if_pos e1, if_neg e2] at h1; exact absurd h1 (by decide)
  · rw [if_neg e1, if_pos e2] at h1; exact absurd h1 (by decide)
  · omega
theorem atoi_neg (u : Nat) (h : (Lib.decDigits u).length ≤ 16) : Lib.atoiAll (45 :: Lib.decDigits u) = .ok (-(u : Int)) := by
  rw [Lib.atoiAll_short _ (by simp; omega)]
  have hf := decFrom_digits u u (Nat.le_refl _)
  have hne := decDigits_ne u
  cases hw : Lib.decDigits u with
  | nil => exact absurd hw hne
  | cons b r =>
    rw [hw] at hf
    simp [Lib.atoi, Lib.decNat, hf]
    rfl
theorem atoi_itoa' {z : Int} (h0 : -1000000000000 < z) (h1 : z < 1000000000000) : Lib.atoiAll (Lib.itoa z) = .ok z := by
  rcases Int.lt_or_le z 0 with h | h
  · have e : Lib.itoa z = 45 :: Lib.decDigits z.natAbs := by unfold Lib.itoa; rw [if_pos h]
    rw [e, atoi_neg _ (by have := decDigits_len 11 z.natAbs (by simpa using (by omega : z.natAbs < 1000000000000)); omega)]
    congr 1
    omega
  · exact atoi_itoa h h1
end Go.Itp
namespace Go.Itp
set_option linter.unusedVariables false
set_option linter.unusedSimpArgs false
theorem InsP.op_lt {i : Ins} (h : InsP i) : 0 < i.op ∧ i.op < 10 := by
  unfold InsP at h
  omega
theorem nameI_inj : ∀ a, a < 10 → ∀ b, b < 10 → 0 < a → 0 < b → nameI a = nameI b → a = b := by decide
theorem nameI_ne : ∀ a, a < 10 → 0 < a → nameI a ≠ [] := by decide
theorem map_inj_at {α β : Type} {f g : α → β} : ∀ {l : List α}, l.map f = l.map g → ∀ c ∈ l, f c = g c
  | [], _, c, hc => by cases hc
  | x :: l, h, c, hc => by
    rw [List.map_cons, List.map_cons] at h
    obtain ⟨h1, h2⟩ := List.cons.inj h
    rcases List.mem_cons.1 hc with rfl | hc
    · exact h1
    · exact map_inj_at h2 c hc
theorem sign_inj {a b : Bool} (h : (if a = true then [43] else [45] : List UInt8) = if b = true then [43] else [45]) : a = b := by
  cases a <;> cases b <;> first | rfl | (revert h; decide)
theorem textI_inj {i j : Ins} (hi : InsP i) (hj : InsP j) (h : textI i = textI j) : i = j := by
  have hw := congrArg (words 32) h
  rw [textI_words, textI_words] at hw
  obtain ⟨h1, h2⟩ := List.cons.inj hw
  have hop := nameI_inj i.op hi.op_lt.2 j.op hj.op_lt.2 hi.op_lt.1 hj.op_lt.1 h1
  rw [← hop] at h2
  have hc := map_inj_at h2
  have d : (100 : UInt8) ∈ partsI i.op → i.right = j.right := fun hm => sign_inj (by have := hc 100 hm; simpa only [partT, if_true] using this)
  have nn : (110 : UInt8) ∈ partsI i.op → i.bed ≤ 1 → j.bed ≤ 1 → i.bed = j.bed ∧ i.pos = j.pos := fun hm a b => by
    have := hc 110 hm
    exact ndl_inj a b this
  have oo : (111 : UInt8) ∈ partsI i.op → i.to = j.to := fun hm => by
    have := hc 111 hm
    exact (ndl_inj (by omega) (by omega) this).2
  have cc : (99 : UInt8) ∈ partsI i.op → i.car = j.car := fun hm => itoa_inj' (hc 99 hm)
  have rr : (114 : UInt8) ∈ partsI i.op → i.rack = j.rack := fun hm => itoa_inj' (hc 114 hm)
  unfold InsP at hi hj
  have case1 : i.op = 1 ∨ i.op = 2 → i = j := fun ho => by
    have hm : (99 : UInt8) ∈ partsI i.op := by rcases ho with e | e <;> rw [e] <;> decide
    have := cc hm
    have a1 : i.right = false ∧ i.bed = 0 ∧ i.pos = 0 ∧ i.to = 0 ∧ i.rack = 0 := by
      rcases hi with h | h | h | h | h | h <;> first | exact h.2.2 | (exfalso; omega)
    have a2 : j.right = false ∧ j.bed = 0 ∧ j.pos = 0 ∧ j.to = 0 ∧ j.rack = 0 := by
      rcases hj with h | h | h | h | h | h <;> first | exact h.2.2 | (exfalso; omega)
    exact Ins.ext' hop (by rw [a1.1, a2.1]) (by omega) (by omega) (by omega) this (by omega)
  have case3 : i.op = 3 ∨ i.op = 4 ∨ i.op = 5 → i = j := fun ho => by
    have hm : (99 : UInt8) ∈ partsI i.op ∧ (100 : UInt8) ∈ partsI i.op ∧ (110 : UInt8) ∈ partsI i.op := by rcases ho with e | e | e <;> rw [e] <;> decide
    have hb := nn hm.2.2 (by omega) (by omega)
    exact Ins.ext' hop (d hm.2.1) hb.1 hb.2 (by omega) (cc hm.1) (by omega)
  have case6 : i.op = 6 → i = j := fun e => by
    have hm : (99 : UInt8) ∈ partsI i.op ∧ (100 : UInt8) ∈ partsI i.op ∧ (110 : UInt8) ∈ partsI i.op ∧ (111 : UInt8) ∈ partsI i.op := by rw [e]; decide
    have hb := nn hm.2.2.1 (by omega) (by omega)
    exact Ins.ext' hop (d hm.2.1) hb.1 hb.2 (oo hm.2.2.2) (cc hm.1) (by omega)
  have case7 : i.op = 7 → i = j := fun e => by
    have hm : (110 : UInt8) ∈ partsI i.op ∧ (111 : UInt8) ∈ partsI i.op := by rw [e]; decide
    have hb := nn hm.1 (by omega) (by omega)
    have a1 : i.right = false := by rcases hi with h | h | h | h | h | h <;> first | exact h.2.1 | (exfalso; omega)
    have a2 : j.right = false := by rcases hj with h | h | h | h | h | h <;> first | exact h.2.1 | (exfalso; omega)
    exact Ins.ext' hop (by rw [a1, a2]) hb.1 hb.2 (oo hm.2) (by omega) (by omega)
  have case8 : i.op = 8 → i = j := fun e => by
    have hm : (114 : UInt8) ∈ partsI i.op := by rw [e]; decide
    have a1 : i.right = false := by rcases hi with h | h | h | h | h | h <;> first | exact h.2.1 | (exfalso; omega)
    have a2 : j.right = false := by rcases hj with h | h | h | h | h | h <;> first | exact h.2.1 | (exfalso; omega)
    exact Ins.ext' hop (by rw [a1, a2]) (by omega) (by omega) (by omega) (by omega) (rr hm)
  have case9 : i.op = 9 → i = j := fun e => by
    have hm : (110 : UInt8) ∈ partsI i.op := by rw [e]; decide
    have hb := nn hm (by omega) (by omega)
    have a1 : i.right = false := by rcases hi with h | h | h | h | h | h <;> first | exact h.2.1 | (exfalso; omega)
    have a2 : j.right = false := by rcases hj with h | h | h | h | h | h <;> first | exact h.2.1 | (exfalso; omega)
    exact Ins.ext' hop (by rw [a1, a2]) hb.1 hb.2 (by omega) (by omega) (by omega)
  rcases (by omega : (i.op = 1 ∨ i.op = 2) ∨ (i.op = 3 ∨ i.op = 4 ∨ i.op = 5) ∨ i.op = 6 ∨ i.op = 7 ∨ i.op = 8 ∨ i.op = 9) with h | h | h | h | h | h
  · exact case1 h
  · exact case3 h
  · exact case6 h
  · exact case7 h
  · exact case8 h
  · exact case9 h
def accI (s : List UInt8) : Option Ins → Prop
  | some i => InsP i ∧ textI i = s
  | none => ∀ i, InsP i → textI i ≠ s
open Classical in
noncomputable def readO (s : List UInt8) : Option Ins := if h : ∃ i, InsP i ∧ textI i = s then some (Classical.choose h) else none
theorem readO_acc (s : List UInt8) : accI s (readO s) := by
  unfold readO
  split
  · rename_i h; exact Classical.choose_spec h
  · rename_i h; exact fun i h1 h2 => h ⟨i, h1, h2⟩
theorem readO_text {i : Ins} (h : InsP i) : readO (textI i) = some i := by
  have := readO_acc (textI i)
  cases hr : readO (textI i) with
  | none => rw [hr] at this; exact absurd rfl (this i h)
  | some j => rw [hr] at this; rw [textI_inj this.1 h this.2]
theorem accI_eq {s : List UInt8} {r : Option Ins} (h : accI s r) : r = readO s := by
  cases r with
  | some i => rw [← h.2, readO_text h.1]
  | none =>
    have := readO_acc s
    cases hr : readO s with
    | none => rfl
    | some j => rw [hr] at this; exact absurd this.2 (h j this.1)
theorem itoa_len {z : Int} (h0 : -1000000000000 < z) (h1 : z < 1000000000000) : (Lib.itoa z).length ≤ 13 := by
  have hd := decDigits_len 11 z.natAbs (by simpa using (by omega : z.natAbs < 1000000000000))
  rcases Int.lt_or_le z 0 with h | h
  · have e : Lib.itoa z = 45 :: Lib.decDigits z.natAbs := by unfold Lib.itoa; rw [if_pos h]
    rw [e]; simp; omega
  · obtain ⟨u, rfl⟩ := Int.eq_ofNat_of_zero_le h
    rw [Lib.itoa_nonneg]
    simp only [Int.natAbs_natCast] at hd
    omega
def setP (i0 i : Ins) (c : UInt8) : Ins :=
  if c = 100 then ⟨i.op, i0.right, i.bed, i.pos, i.to, i.car, i.rack⟩
  else if c = 110 then ⟨i.op, i.right, i0.bed, i0.pos, i.to, i.car, i.rack⟩
  else if c = 111 then ⟨i.op, i.right, i.bed, i.pos, i0.to, i.car, i.rack⟩
  else if c = 99 then ⟨i.op, i.right, i.bed, i.pos, i.to, i0.car, i.rack⟩
  else ⟨i.op, i.right, i.bed, i.pos, i.to, i.car, i0.rack⟩
def partI (i0 : Ins) (k : Nat) : Ins := ((partsI i0.op).take k).foldl (setP i0) ⟨i0.op, false, 0, 0, 0, 0, 0⟩
theorem partI_zero (i0 : Ins) : partI i0 0 = ⟨i0.op, false, 0, 0, 0, 0, 0⟩ := rfl
theorem partI_succ (i0 : Ins) (k : Nat) (h : k < (partsI i0.op).length) : partI i0 (k + 1) = setP i0 (partI i0 k) (partsI i0.op)[k]! := by
  unfold partI
  rw [List.take_succ_eq_append_getElem h, List.foldl_append, getElem!_pos _ k h]
  rfl
theorem partI_full {i0 : Ins} (h : InsP i0) : partI i0 (partsI i0.op).length = i0 := by
  unfold partI
  rw [List.take_length]
  unfold InsP at h
  obtain ⟨op, right, bed, pos, to, car, rack⟩ := i0
  simp only at h ⊢
  rcases h with ⟨h1 | h1, h2, h3, h4, h5, h6, h7⟩ | ⟨h1 | h1 | h1, h2, h3, h4, h5, h6⟩ | ⟨h1, h2, h3, h4, h5, h6⟩ | ⟨h1, h2, h3, h4, h5, h6, h7⟩ | ⟨h1, h2, h3, h4, h5, h6, h7, h8⟩ | ⟨h1, h2, h3, h4, h5, h6, h7⟩
  all_goals
    subst h1
    simp_all [partsI, setP]
def restT (i0 : Ins) (k : Nat) : List UInt8 := join 32 (((partsI i0.op).drop k).map (partT i0))
theorem parts_ne : ∀ a, a < 10 → 0 < a → partsI a ≠ [] := by decide
theorem textI_eq {i0 : Ins} (h : InsP i0) : textI i0 = nameI i0.op ++ 32 :: restT i0 0 := by
  unfold textI restT
  rw [List.drop_zero]
  have := parts_ne i0.op h.op_lt.2 h.op_lt.1
  cases hp : partsI i0.op with
  | nil => exact absurd hp this
  | cons c r => rw [List.map_cons, join]
theorem restT_last (i0 : Ins) (k : Nat) (h : k + 1 = (partsI i0.op).length) : restT i0 k = partT i0 (partsI i0.op)[k]! ∧ restT i0 (k + 1) = [] := by
  unfold restT
  constructor
  · rw [List.drop_eq_getElem_cons (by omega), List.drop_eq_nil_of_le (by omega), ← getElem!_pos _ k (by omega)]
    rfl
  · rw [List.drop_eq_nil_of_le (by omega)]; rfl
theorem restT_more (i0 : Ins) (k : Nat) (h : k + 1 < (partsI i0.op).length) : restT i0 k = partT i0 (partsI i0.op)[k]! ++ 32 :: restT i0 (k + 1) := by
  unfold restT
  rw [List.drop_eq_getElem_cons (by omega), List.drop_eq_getElem_cons (i := k + 1) h, ← getElem!_pos _ k (by omega), List.map_cons, List.map_cons, join]
theorem InsP.bounds {i : Ins} (h : InsP i) : i.bed ≤ 1 ∧ ndOK i.pos ∧ ndOK i.to ∧ (0 ≤ i.car ∧ i.car ≤ 6) ∧ -8 ≤ i.rack ∧ i.rack ≤ 8 := by
  unfold InsP ndOK at h
  unfold ndOK
  omega
theorem partsI_mem {op : Nat} (h : op < 10) : ∀ c ∈ partsI op, c = 100 ∨ c = 110 ∨ c = 111 ∨ c = 99 ∨ c = 114 := by
  rcases (by omega : op = 0 ∨ op = 1 ∨ op = 2 ∨ op = 3 ∨ op = 4 ∨ op = 5 ∨ op = 6 ∨ op = 7 ∨ op = 8 ∨ op = 9) with rfl | rfl | rfl | rfl | rfl | rfl | rfl | rfl | rfl | rfl <;> decide
theorem partsI_len {op : Nat} (h : op < 10) : (partsI op).length ≤ 4 := by
  rcases (by omega : op = 0 ∨ op = 1 ∨ op = 2 ∨ op = 3 ∨ op = 4 ∨ op = 5 ∨ op = 6 ∨ op = 7 ∨ op = 8 ∨ op = 9) with rfl | rfl | rfl | rfl | rfl | rfl | rfl | rfl | rfl | rfl <;> decide
theorem join_len (c : UInt8) (B : Nat) : ∀ ws : List (List UInt8), (∀ w ∈ ws, w.length ≤ B) → (join c ws).length ≤ ws.length * (B + 1)
  | [], _ => by simp [join]
  | [w], h => by have := h w (by simp); simp [join]; omega
  | w :: v :: ws, h => by
    have h1 := h w (by simp)
    have h2 := join_len c B (v :: ws) fun x hx => h x (List.mem_cons_of_mem _ hx)
    have e : (w :: v :: ws).length * (B + 1) = (v :: ws).length * (B + 1) + (B + 1) := by rw [List.length_cons, Nat.succ_mul]
    rw [join, List.length_append, List.length_cons, e]
    omega
theorem nameI_len : ∀ op, op < 10 → (nameI op).length ≤ 5 := by decide
theorem textI_len {i : Ins} (h : InsP i) : (textI i).length ≤ 100 := by
  have hb := h.bounds
  have h1 : ∀ z : Int, -1000 ≤ z ∧ z ≤ 1000 → (Lib.itoa z).length ≤ 13 := fun z hz => itoa_len (by omega) (by omega)
  have h2 : ∀ w ∈ nameI i.op :: (partsI i.op).map (partT i), w.length ≤ 14 := fun w hw => by
    rcases List.mem_cons.1 hw with rfl | hw
    · have := nameI_len i.op h.op_lt.2; omega
    · obtain ⟨c, _, rfl⟩ := List.mem_map.1 hw
      unfold partT
      split
      · split <;> simp
      split
      · have := h1 i.pos (by unfold ndOK at hb; omega); unfold ndl; simp; omega
      split
      · have := h1 i.to (by unfold ndOK at hb; omega); unfold ndl; simp; omega
      split
      · have := h1 i.car (by omega); omega
      · have := h1 i.rack (by omega); omega
  have h3 := join_len 32 14 _ h2
  have h4 := partsI_len h.op_lt.2
  have h5 : (nameI i.op :: (partsI i.op).map (partT i)).length ≤ 5 := by rw [List.length_cons, List.length_map]; omega
  unfold textI
  have := Nat.mul_le_mul_right 15 h5
  omega
end Go.Itp
namespace Go.Proofs.YtbefpfbidgfipaaDoor
open Go Go.Itp
set_option maxRecDepth 100000
set_option linter.unusedSimpArgs false
set_option linter.unusedVariables false
abbrev strV (l : List UInt8) : V := .sc (.string ⟨l.toArray⟩)
abbrev strs (s : Nat) (l : List (List UInt8)) : V := .sl s l.length (l.map sD)
theorem lt_succ_cases {P : Nat → Prop} {k : Nat} (h : ∀ j, j < k → P j) (hk : P k) : ∀ j, j < k + 1 → P j := fun j hj => by
  rcases Nat.lt_or_eq_of_le (Nat.le_of_lt_succ hj) with h1 | h1
  · exact h j h1
  · subst h1; exact hk
set_option maxHeartbeats 1000000
section
variable (w : World) (n : Nat)
def selfP (b : Nat) (p : V) : Prop := p = .sc (.pointer none) ∨ p = .ptr b 0
theorem copyCheck_w {C : Ctx} {st : VSt} {Q : V → VSt → Prop} (hC : C.E = EN w (n + 2)) (b e : Nat) (p g : V) (hb : aget st.own b = some (.box 77 e [p, g])) (hp : selfP b p) (hro : st.ro ≤ b)
    (hq : Q (.tup []) ⟨aset st.own b (.box 77 e [.ptr b 0, g]), st.next, st.ro⟩) : CallV C 57 [.ptr b 0] st Q := by
  refine callV_w hC rfl rfl (fun _ _ => rfl) (Nat.le_of_ble_eq_true rfl) hq fun C' hC' hn => ?_
  obtain ⟨H, nx, ro⟩ := st
  have h2 : (2 : Nat) ≤ [p, g].length := Nat.le_refl _
  rcases hp with rfl | rfl
  · simp (disch := first | omega | assumption | exact bd (by with_unfolding_all rfl) | exact Or.inl rfl | exact Or.inl trivial | exact okL_map _ (fun _ => rfl) _ | (simp only [VVlen] <;> omega) | fail) only [O1, WA, slotsL, opdsA, Nat.reduceEqDiff, Nat.reduceLT, Nat.reduceAdd, Nat.reduceBEq, Int.reduceAdd, Int.reduceSub, Int.reduceLT, Int.reduceLE, Int.reduceEq, Int.reduceNeg, ↓reduceIte, reduceCtorEq, List.replicate, c57, hb, eqNilP_ptr, eqNilP_nil]
    refine callV_same hC' (fun x s => ?_) ?_
    · show PR w _ [x] s = some (x, [])
      rfl
    simp (disch := first | omega | assumption | exact bd (by with_unfolding_all rfl) | exact Or.inl rfl | exact Or.inl trivial | exact okL_map _ (fun _ => rfl) _ | (simp only [VVlen] <;> omega) | fail) only [O1, WA, slotsL, opdsA, Nat.reduceEqDiff, Nat.reduceLT, Nat.reduceAdd, Nat.reduceBEq, Int.reduceAdd, Int.reduceSub, Int.reduceLT, Int.reduceLE, Int.reduceEq, Int.reduceNeg, ↓reduceIte, reduceCtorEq, List.replicate, hb, eqNilP_ptr]
    exact .refl _ _
  · have hs : aset H b (.box 77 e [.ptr b 0, g]) = H := aset_self _ _ _ hb
    simp (disch := first | omega | assumption | exact bd (by with_unfolding_all rfl) | exact Or.inl rfl | exact Or.inl trivial | exact okL_map _ (fun _ => rfl) _ | (simp only [VVlen] <;> omega) | fail) only [O1, WA, slotsL, opdsA, Nat.reduceEqDiff, Nat.reduceLT, Nat.reduceAdd, Nat.reduceBEq, Int.reduceAdd, Int.reduceSub, Int.reduceLT, Int.reduceLE, Int.reduceEq, Int.reduceNeg, ↓reduceIte, reduceCtorEq, List.replicate, c57, hb, eqPtrV_same, eqNilP_ptr, eqNilP_nil]
    rw [hs]
    exact .refl _ _
theorem writeString_w {C : Ctx} {st : VSt} {Q : V → VSt → Prop} (hC : C.E = EN w (n + 3)) (b r : Nat) (p : V) (acc s : ByteArray) (hb : aget st.own b = some (.box 77 1 [p, .gr 2 r acc.size])) (hr : aget st.own r = some (.gro 5 1 false (strD acc))) (hp : selfP b p) (hro : st.ro ≤ b) (hro2 : st.ro ≤ r) (hrb : r ≠ b) (hlt : b ≠ st.next)
    (hsz : acc.size + s.size ≤ 1099511627776) (hq : Q (.tup [.sc (.int .i64 s.size), .sc .nilIface]) ⟨(st.next, .gro 5 1 false (strD (acc ++ s))) :: aset (adel r st.own) b (.box 77 1 [.ptr b 0, .gr 2 st.next (acc.size + s.size)]), st.next + 1, st.ro⟩) :
    CallV C 36 [.ptr b 0, .sc (.string s)] st Q := by
  refine callV_w hC rfl rfl (fun _ _ => rfl) (Nat.le_of_ble_eq_true rfl) hq fun C' hC' hn => ?_
  obtain ⟨H, nx, ro⟩ := st
  have h1 := strD_len acc
  have h2 := strD_ok s
  have a1 : aget (aset H b (.box 77 1 [.ptr b 0, .gr 2 r acc.size])) b = some (.box 77 1 [.ptr b 0, .gr 2 r acc.size]) := aget_aset_eq hb
  have a2 : aget (aset H b (.box 77 1 [.ptr b 0, .gr 2 r acc.size])) r = some (.gro 5 1 false (strD acc)) := by rw [aget_aset _ _ _ _ _ hb, if_neg hrb]; exact hr
  have hbr : ¬ b = r := fun e => hrb e.symm
  have a3 : aget (adel r (aset H b (.box 77 1 [.ptr b 0, .gr 2 r acc.size]))) b = some (.box 77 1 [.ptr b 0, .gr 2 r acc.size]) := by rw [aget_adel, if_neg hbr]; exact a1
  simp (disch := first | omega | assumption | exact bd (by with_unfolding_all rfl) | exact Or.inl rfl | exact Or.inl trivial | exact okL_map _ (fun _ => rfl) _ | (simp only [VVlen] <;> omega) | fail) only [O1, WA, slotsL, opdsA, Nat.reduceEqDiff, Nat.reduceLT, Nat.reduceAdd, Nat.reduceBEq, Int.reduceAdd, Int.reduceSub, Int.reduceLT, Int.reduceLE, Int.reduceEq, Int.reduceNeg, ↓reduceIte, reduceCtorEq, List.replicate, c36]
  refine copyCheck_w w n hC' b 1 p _ hb hp hro ?_
  simp (disch := first | omega | assumption | exact bd (by with_unfolding_all rfl) | exact Or.inl rfl | exact Or.inl trivial | exact okL_map _ (fun _ => rfl) _ | (simp only [VVlen] <;> omega) | fail) only [O1, WA, slotsL, opdsA, Nat.reduceEqDiff, Nat.reduceLT, Nat.reduceAdd, Nat.reduceBEq, Int.reduceAdd, Int.reduceSub, Int.reduceLT, Int.reduceLE, Int.reduceEq, Int.reduceNeg, ↓reduceIte, reduceCtorEq, List.replicate, a1, a2, a3, srcOf_str, strD_eq, hbr, hlt, strD_append, frozA_none]
  rw [adel_aset _ _ _ _ hrb, aset_aset]
  exact .refl _ _
theorem string_w {C : Ctx} {st : VSt} {Q : V → VSt → Prop} (hC : C.E = EN w (n + 1)) (b r : Nat) (p : V) (acc : ByteArray) (hb : aget st.own b = some (.box 77 1 [p, .gr 2 r acc.size])) (hr : aget st.own r = some (.gro 5 1 false (strD acc))) (hro : st.ro ≤ b) (hro2 : st.ro ≤ r)
    (hsz : acc.size ≤ 1099511627776) (hq : ∀ st', st'.ro = st.ro → Q (.sc (.string acc)) st') : CallV C 38 [.ptr b 0] st Q := by
  obtain ⟨H, nx, ro⟩ := st
  by_cases h0 : acc.size = 0
  · rw [h0] at hb
    have hs : acc = ByteArray.empty := by
      apply ByteArray.ext; apply Array.ext'
      rw [List.eq_nil_of_length_eq_zero (show acc.data.toList.length = 0 by simpa using h0)]
      rfl
    refine callV_wW (st' := ⟨aset H b (.box 77 1 [p, .sc (.slice none 0 0)]), nx, ro⟩) hC rfl rfl (fun _ _ => rfl) (Nat.le_of_ble_eq_true rfl) (hq ⟨aset H b (.box 77 1 [p, .sc (.slice none 0 0)]), nx, ro⟩ rfl) (fun C' hn => ?_) fun C' hC' hn => ?_
    · exact weak_cell (C := C') (st := ⟨H, nx, ro⟩) (k := 1) hb rfl same_gr0
    have a1 : aget (aset H b (.box 77 1 [p, .sc (.slice none 0 0)])) b = some (.box 77 1 [p, .sc (.slice none 0 0)]) := aget_aset_eq hb
    rw [hs]
    simp (disch := first | omega | assumption | exact bd (by with_unfolding_all rfl) | exact Or.inl rfl | exact Or.inl trivial | exact okL_map _ (fun _ => rfl) _ | (simp only [VVlen] <;> omega) | fail) only [O1, WA, slotsL, opdsA, Nat.reduceEqDiff, Nat.reduceLT, Nat.reduceAdd, Nat.reduceBEq, Int.reduceAdd, Int.reduceSub, Int.reduceLT, Int.reduceLE, Int.reduceEq, Int.reduceNeg, ↓reduceIte, reduceCtorEq, List.replicate, c38, a1, vustr_nil]
    exact .refl _ _
  · refine callV_w hC rfl rfl (fun _ _ => rfl) (Nat.le_of_ble_eq_true rfl) (hq ⟨adel r H, nx, ro⟩ rfl) fun C' hC' hn => ?_
    have hv := vustr_gro ⟨H, nx, ro⟩ 5 1 r acc hr hro2 (by omega) hsz
    simp (disch := first | omega | assumption | exact bd (by with_unfolding_all rfl) | exact Or.inl rfl | exact Or.inl trivial | exact okL_map _ (fun _ => rfl) _ | (simp only [VVlen] <;> omega) | fail) only [O1, WA, slotsL, opdsA, Nat.reduceEqDiff, Nat.reduceLT, Nat.reduceAdd, Nat.reduceBEq, Int.reduceAdd, Int.reduceSub, Int.reduceLT, Int.reduceLE, Int.reduceEq, Int.reduceNeg, ↓reduceIte, reduceCtorEq, List.replicate, c38, hb, h0, hv]
    exact .refl _ _
end
section
variable (w : World) (n : Nat)
theorem indexByteString_o (st : VSt) (l : List UInt8) (c : UInt8) : VSpecO (EN w (n + 1)) 88 st [strV l, .sc (.int .u8 c.toNat)] (.sc (.int .i64 (idxB c l))) := by
  refine prim_o (ys := [.string ⟨l.toArray⟩, .int .u8 c.toNat]) (fun s => ?_) rfl
  refine orElse_left ?_
  show primA .indexByte 0 [.string ⟨l.toArray⟩, .int .u8 c.toNat] s = _
  unfold primA
  simp only [Int.toNat_natCast]
  rw [show c.toNat.toUInt8 = c by simp, firstIdxA_l]
theorem indexByte_p (l : List UInt8) (c : UInt8) : VSpec (EN w (n + 2)) 75 [strV l, .sc (.int .u8 c.toNat)] (.sc (.int .i64 (idxB c l))) ⟨[], 0, 0⟩ := by
  refine vspec_flat rfl rfl (fun _ _ => rfl) (Nat.le_of_ble_eq_true rfl) (oldVals w) rfl fun C hC h0 => ?_
  simp (disch := first | omega | assumption | exact bd (by with_unfolding_all rfl) | exact Or.inl rfl | exact Or.inl trivial | exact okL_map _ (fun _ => rfl) _ | (simp only [VVlen] <;> omega) | fail) only [O1, WA, slotsL, opdsA, Nat.reduceEqDiff, Nat.reduceLT, Nat.reduceAdd, Nat.reduceBEq, Int.reduceAdd, Int.reduceSub, Int.reduceLT, Int.reduceLE, Int.reduceEq, Int.reduceNeg, ↓reduceIte, reduceCtorEq, List.replicate, c75]
  refine callV_flat (by rw [hC]; exact indexByteString_o w n _ l c) ?_
  repeat' (first | (simp (disch := first | omega | assumption | exact bd (by with_unfolding_all rfl) | exact Or.inl rfl | exact Or.inl trivial | exact okL_map _ (fun _ => rfl) _ | (simp only [VVlen] <;> omega) | fail) only [O1, WA, slotsL, opdsA, Nat.reduceEqDiff, Nat.reduceLT, Nat.reduceAdd, Nat.reduceBEq, Int.reduceAdd, Int.reduceSub, Int.reduceLT, Int.reduceLE, Int.reduceEq, Int.reduceNeg, ↓reduceIte, reduceCtorEq, List.replicate]) | apply gC_drawW | ((first | apply gI_dec | apply gG_dec | apply gPG_dec | apply gI_var | apply gG_var | apply gPG_var) <;> intro _))
  exact weak_flat rfl h0 rfl
theorem index1_p (l : List UInt8) (c : UInt8) (hl : l.length ≤ 1000000000) : VSpec (EN w (n + 3)) 64 [strV l, strV [c]] (.sc (.int .i64 (idxB c l))) ⟨[], 0, 0⟩ := by
  refine vspec_flat rfl rfl (fun _ _ => rfl) (Nat.le_of_ble_eq_true rfl) (oldVals w) rfl fun C hC h0 => ?_
  have h1 : (ByteArray.mk [c].toArray).size = 1 := rfl
  have hlc : ((ByteArray.mk [c].toArray) = ByteArray.mk l.toArray) ↔ l = [c] := by
    constructor
    · intro h
      have := congrArg (fun b : ByteArray => b.data.toList) h
      simpa using this.symm
    · rintro rfl; rfl
  by_cases hc : l = [c]
  · subst hc
    have hi : idxB c [c] = 0 := idxB_app (a := []) [] (by simp)
    rw [hi]
    simp (disch := first | omega | assumption | exact bd (by with_unfolding_all rfl) | exact Or.inl rfl | exact Or.inl trivial | exact okL_map _ (fun _ => rfl) _ | (simp only [VVlen] <;> omega) | fail) only [O1, WA, slotsL, opdsA, Nat.reduceEqDiff, Nat.reduceLT, Nat.reduceAdd, Nat.reduceBEq, Int.reduceAdd, Int.reduceSub, Int.reduceLT, Int.reduceLE, Int.reduceEq, Int.reduceNeg, ↓reduceIte, reduceCtorEq, List.replicate, c64, h1]
    exact weak_flat rfl h0 rfl
  · have hb : idxStrV (strV [c]) (.sc (.int .i64 0)) = some (.sc (.int .u8 c.toNat)) := by
      rw [idxStr_l _ _ _ (by omega) (by simp)]
      rfl
    simp (disch := first | omega | assumption | exact bd (by with_unfolding_all rfl) | exact Or.inl rfl | exact Or.inl trivial | exact okL_map _ (fun _ => rfl) _ | (simp only [VVlen] <;> omega) | fail) only [O1, WA, slotsL, opdsA, Nat.reduceEqDiff, Nat.reduceLT, Nat.reduceAdd, Nat.reduceBEq, Int.reduceAdd, Int.reduceSub, Int.reduceLT, Int.reduceLE, Int.reduceEq, Int.reduceNeg, ↓reduceIte, reduceCtorEq, List.replicate, c64, h1, hlc, hc, hb]
    refine callV_flat ((indexByte_p w n l c).of hC rfl _ rfl) ?_
    repeat' (first | (simp (disch := first | omega | assumption | exact bd (by with_unfolding_all rfl) | exact Or.inl rfl | exact Or.inl trivial | exact okL_map _ (fun _ => rfl) _ | (simp only [VVlen] <;> omega) | fail) only [O1, WA, slotsL, opdsA, Nat.reduceEqDiff, Nat.reduceLT, Nat.reduceAdd, Nat.reduceBEq, Int.reduceAdd, Int.reduceSub, Int.reduceLT, Int.reduceLE, Int.reduceEq, Int.reduceNeg, ↓reduceIte, reduceCtorEq, List.replicate]) | apply gC_drawW | ((first | apply gI_dec | apply gG_dec | apply gPG_dec | apply gI_var | apply gG_var | apply gPG_var) <;> intro _))
    exact weak_flat rfl h0 rfl
theorem index_p (l : List UInt8) (c : UInt8) (hl : l.length ≤ 1000000000) : VSpec (EN w (n + 4)) 60 [strV l, strV [c]] (.sc (.int .i64 (idxB c l))) ⟨[], 0, 0⟩ := by
  refine vspec_flat rfl rfl (fun _ _ => rfl) (Nat.le_of_ble_eq_true rfl) (oldVals w) rfl fun C hC h0 => ?_
  simp (disch := first | omega | assumption | exact bd (by with_unfolding_all rfl) | exact Or.inl rfl | exact Or.inl trivial | exact okL_map _ (fun _ => rfl) _ | (simp only [VVlen] <;> omega) | fail) only [O1, WA, slotsL, opdsA, Nat.reduceEqDiff, Nat.reduceLT, Nat.reduceAdd, Nat.reduceBEq, Int.reduceAdd, Int.reduceSub, Int.reduceLT, Int.reduceLE, Int.reduceEq, Int.reduceNeg, ↓reduceIte, reduceCtorEq, List.replicate, c60]
  refine callV_flat ((index1_p w n l c hl).of hC rfl _ rfl) ?_
  repeat' (first | (simp (disch := first | omega | assumption | exact bd (by with_unfolding_all rfl) | exact Or.inl rfl | exact Or.inl trivial | exact okL_map _ (fun _ => rfl) _ | (simp only [VVlen] <;> omega) | fail) only [O1, WA, slotsL, opdsA, Nat.reduceEqDiff, Nat.reduceLT, Nat.reduceAdd, Nat.reduceBEq, Int.reduceAdd, Int.reduceSub, Int.reduceLT, Int.reduceLE, Int.reduceEq, Int.reduceNeg, ↓reduceIte, reduceCtorEq, List.replicate]) | apply gC_drawW | ((first | apply gI_dec | apply gG_dec | apply gPG_dec | apply gI_var | apply gG_var | apply gPG_var) <;> intro _))
  exact weak_flat rfl h0 rfl
def cutB (c : UInt8) (l : List UInt8) : List UInt8 × List UInt8 × Bool := if 0 ≤ idxB c l then (l.take (idxB c l).toNat, l.drop ((idxB c l).toNat + 1), true) else (l, [], false)
theorem cut1_p (l : List UInt8) (c : UInt8) (hl : l.length ≤ 1000000000) : VSpec (EN w (n + 4)) 51 [strV l, strV [c]] (.tup [strV (cutB c l).1, strV (cutB c l).2.1, .sc (.bool (cutB c l).2.2)]) ⟨[], 0, 0⟩ := by
  refine vspec_flat rfl rfl (fun _ _ => rfl) (Nat.le_of_ble_eq_true rfl) (oldVals w) rfl fun C hC h0 => ?_
  have h1 : (ByteArray.mk [c].toArray).size = 1 := rfl
  simp (disch := first | omega | assumption | exact bd (by with_unfolding_all rfl) | exact Or.inl rfl | exact Or.inl trivial | exact okL_map _ (fun _ => rfl) _ | (simp only [VVlen] <;> omega) | fail) only [O1, WA, slotsL, opdsA, Nat.reduceEqDiff, Nat.reduceLT, Nat.reduceAdd, Nat.reduceBEq, Int.reduceAdd, Int.reduceSub, Int.reduceLT, Int.reduceLE, Int.reduceEq, Int.reduceNeg, ↓reduceIte, reduceCtorEq, List.replicate, c51]
  refine callV_flat ((index1_p w n l c hl).of hC rfl _ rfl) ?_
  rcases byte_split c l with hf | ⟨a, r, rfl, hf⟩
  · have hi := idxB_free hf
    have e : cutB c l = (l, [], false) := by unfold cutB; rw [if_neg (by omega)]
    rw [e, hi]
    simp (disch := first | omega | assumption | exact bd (by with_unfolding_all rfl) | exact Or.inl rfl | exact Or.inl trivial | exact okL_map _ (fun _ => rfl) _ | (simp only [VVlen] <;> omega) | fail) only [O1, WA, slotsL, opdsA, Nat.reduceEqDiff, Nat.reduceLT, Nat.reduceAdd, Nat.reduceBEq, Int.reduceAdd, Int.reduceSub, Int.reduceLT, Int.reduceLE, Int.reduceEq, Int.reduceNeg, ↓reduceIte, reduceCtorEq, List.replicate]
    all_goals try (exfalso; omega)
    exact weak_flat rfl h0 rfl
  · have hi := idxB_app r hf
    have e : cutB c (a ++ c :: r) = (a, r, true) := by unfold cutB; rw [if_pos (by omega), hi]; simp
    rw [e, hi]
    have hal : a.length ≤ 1000000000 := by simp at hl; omega
    have hb : a.length + (c :: r).length ≤ 1000000000 := by simpa using hl
    have e1 := slcS_hi (a ++ c :: r) .i64 a.length (by omega) (by simp; omega)
    have e2 := slcS_lo (a ++ c :: r) .i64 ((a.length : Int) + 1) (by omega) (by simp; omega)
    rw [Int.toNat_natCast, List.take_left] at e1
    rw [show ((a.length : Int) + 1).toNat = a.length + 1 by omega, show (a ++ c :: r).drop (a.length + 1) = r by rw [← List.drop_drop]; simp] at e2
    have h1i : ((1 : Nat) : Int) = 1 := rfl
    simp (disch := first | omega | assumption | exact bd (by with_unfolding_all rfl) | exact Or.inl rfl | exact Or.inl trivial | exact okL_map _ (fun _ => rfl) _ | (simp only [VVlen] <;> omega) | fail) only [O1, WA, slotsL, opdsA, Nat.reduceEqDiff, Nat.reduceLT, Nat.reduceAdd, Nat.reduceBEq, Int.reduceAdd, Int.reduceSub, Int.reduceLT, Int.reduceLE, Int.reduceEq, Int.reduceNeg, ↓reduceIte, reduceCtorEq, List.replicate, h1, h1i, e1, e2]
    all_goals try (exfalso; omega)
    exact weak_flat rfl h0 rfl
theorem cut_p (l : List UInt8) (c : UInt8) (hl : l.length ≤ 1000000000) : VSpec (EN w (n + 5)) 26 [strV l, strV [c]] (.tup [strV (cutB c l).1, strV (cutB c l).2.1, .sc (.bool (cutB c l).2.2)]) ⟨[], 0, 0⟩ := by
  refine vspec_flat rfl rfl (fun _ _ => rfl) (Nat.le_of_ble_eq_true rfl) (oldVals w) rfl fun C hC h0 => ?_
  simp (disch := first | omega | assumption | exact bd (by with_unfolding_all rfl) | exact Or.inl rfl | exact Or.inl trivial | exact okL_map _ (fun _ => rfl) _ | (simp only [VVlen] <;> omega) | fail) only [O1, WA, slotsL, opdsA, Nat.reduceEqDiff, Nat.reduceLT, Nat.reduceAdd, Nat.reduceBEq, Int.reduceAdd, Int.reduceSub, Int.reduceLT, Int.reduceLE, Int.reduceEq, Int.reduceNeg, ↓reduceIte, reduceCtorEq, List.replicate, c26]
  refine callV_flat ((cut1_p w n l c hl).of hC rfl _ rfl) ?_
  simp (disch := first | omega | assumption | exact bd (by with_unfolding_all rfl) | exact Or.inl rfl | exact Or.inl trivial | exact okL_map _ (fun _ => rfl) _ | (simp only [VVlen] <;> omega) | fail) only [O1, WA, slotsL, opdsA, Nat.reduceEqDiff, Nat.reduceLT, Nat.reduceAdd, Nat.reduceBEq, Int.reduceAdd, Int.reduceSub, Int.reduceLT, Int.reduceLE, Int.reduceEq, Int.reduceNeg, ↓reduceIte, reduceCtorEq, List.replicate]
  exact weak_flat rfl h0 rfl
end
theorem count_words (c : UInt8) : ∀ (m : Nat) (l : List UInt8), l.length ≤ m → (words c l).length = Lib.countByte l c + 1
  | m, l, hm => by
    rcases byte_split c l with h | ⟨a, r, rfl, h⟩
    · rw [words_free h]
      unfold Lib.countByte
      rw [List.count_eq_zero_of_not_mem h]
      rfl
    · rw [words_app r h]
      cases m with
      | zero => simp at hm
      | succ m =>
        have ih := count_words c m r (by simp at hm; omega)
        unfold Lib.countByte at ih ⊢
        rw [List.length_cons, ih, List.count_append, List.count_eq_zero_of_not_mem h, List.count_cons_self]
        omega
section
variable (w : World) (n : Nat)
theorem countString_o (st : VSt) (l : List UInt8) (c : UInt8) : VSpecO (EN w (n + 1)) 59 st [strV l, .sc (.int .u8 c.toNat)] (.sc (.int .i64 (Lib.countByte l c))) := by
  refine prim_o (ys := [.string ⟨l.toArray⟩, .int .u8 c.toNat]) (fun s => ?_) rfl
  refine orElse_left ?_
  show primA .count 0 [.string ⟨l.toArray⟩, .int .u8 c.toNat] s = _
  unfold primA
  simp only [Int.toNat_natCast]
  have e : c.toNat.toUInt8 = c := by simp
  rw [Lib.foldl_data, Lib.count_foldl, e]
  simp
theorem count_p (l : List UInt8) (c : UInt8) (hl : l.length ≤ 1000000000) : VSpec (EN w (n + 2)) 39 [strV l, strV [c]] (.sc (.int .i64 (Lib.countByte l c))) ⟨[], 0, 0⟩ := by
  refine vspec_flat rfl rfl (fun _ _ => rfl) (Nat.le_of_ble_eq_true rfl) (oldVals w) rfl fun C hC h0 => ?_
  have h1 : (ByteArray.mk [c].toArray).size = 1 := rfl
  have hb : idxStrV (strV [c]) (.sc (.int .i64 0)) = some (.sc (.int .u8 c.toNat)) := by
    rw [idxStr_l _ _ _ (by omega) (by simp)]
    rfl
  simp (disch := first | omega | assumption | exact bd (by with_unfolding_all rfl) | exact Or.inl rfl | exact Or.inl trivial | exact okL_map _ (fun _ => rfl) _ | (simp only [VVlen] <;> omega) | fail) only [O1, WA, slotsL, opdsA, Nat.reduceEqDiff, Nat.reduceLT, Nat.reduceAdd, Nat.reduceBEq, Int.reduceAdd, Int.reduceSub, Int.reduceLT, Int.reduceLE, Int.reduceEq, Int.reduceNeg, ↓reduceIte, reduceCtorEq, List.replicate, c39, h1, hb]
  refine callV_flat (by rw [hC]; exact countString_o w n _ l c) ?_
  repeat' (first | (simp (disch := first | omega | assumption | exact bd (by with_unfolding_all rfl) | exact Or.inl rfl | exact Or.inl trivial | exact okL_map _ (fun _ => rfl) _ | (simp only [VVlen] <;> omega) | fail) only [O1, WA, slotsL, opdsA, Nat.reduceEqDiff, Nat.reduceLT, Nat.reduceAdd, Nat.reduceBEq, Int.reduceAdd, Int.reduceSub, Int.reduceLT, Int.reduceLE, Int.reduceEq, Int.reduceNeg, ↓reduceIte, reduceCtorEq, List.replicate]) | apply gC_drawW | ((first | apply gI_dec | apply gG_dec | apply gPG_dec | apply gI_var | apply gG_var | apply gPG_var) <;> intro _))
  exact weak_flat rfl h0 rfl
end
set_option maxHeartbeats 2000000
section
variable (w : World) (n : Nat)
theorem wStr_w {C : Ctx} {st : VSt} {Q : V → VSt → Prop} (hC : C.E = EN w (n + 3)) (b r : Nat) (p : V) (l x : List UInt8) (hb : aget st.own b = some (.box 77 1 [p, .gr 2 r l.length])) (hr : aget st.own r = some (.gro 5 1 false (strD ⟨l.toArray⟩))) (hp : selfP b p) (hro : st.ro ≤ b) (hro2 : st.ro ≤ r) (hrb : r ≠ b) (hlt : b ≠ st.next)
    (hsz : l.length + x.length ≤ 1099511627776) (hq : Q (.tup [.sc (.int .i64 x.length), .sc .nilIface]) ⟨(st.next, .gro 5 1 false (strD ⟨(l ++ x).toArray⟩)) :: aset (adel r st.own) b (.box 77 1 [.ptr b 0, .gr 2 st.next (l.length + x.length)]), st.next + 1, st.ro⟩) :
    CallV C 36 [.ptr b 0, strV x] st Q := by
  have h1 := mk_size l
  have h2 := mk_size x
  have h3 : (ByteArray.mk l.toArray) ++ (ByteArray.mk x.toArray) = ⟨(l ++ x).toArray⟩ := by
    apply ByteArray.ext; apply Array.ext'
    rw [ByteArray.data_append, Array.toList_append]
  refine writeString_w w n hC b r p ⟨l.toArray⟩ ⟨x.toArray⟩ (by rw [h1]; exact hb) hr hp hro hro2 hrb hlt (by rw [h1, h2]; exact hsz) ?_
  rw [h1, h2, h3]
  exact hq
theorem blen_p (st : VSt) (b e r m : Nat) (p : V) (hb : aget st.own b = some (.box 77 e [p, .gr 2 r m])) (hm : m ≤ 1000000) : VSpecO (EN w (n + 1)) 37 st [.ptr b 0] (.sc (.int .i64 m)) := by
  refine vspecO_g rfl rfl (fun _ _ => rfl) (Nat.le_of_ble_eq_true rfl) rfl fun C hC h0 => ⟨⟨st.own, st.next, st.next⟩, ?_⟩
  simp (disch := first | omega | assumption | exact bd (by with_unfolding_all rfl) | exact Or.inl rfl | exact Or.inl trivial | exact okL_map _ (fun _ => rfl) _ | (simp only [VVlen] <;> omega) | fail) only [O1, WA, slotsL, opdsA, Nat.reduceEqDiff, Nat.reduceLT, Nat.reduceAdd, Nat.reduceBEq, Int.reduceAdd, Int.reduceSub, Int.reduceLT, Int.reduceLE, Int.reduceEq, Int.reduceNeg, ↓reduceIte, reduceCtorEq, List.replicate, c37, hb]
  exact .refl _ _
end
section
variable (w : World) (n : Nat)
end
section
variable (w : World) (n : Nat)
end
def preC (c : UInt8) (l : List UInt8) : List UInt8 × Bool := if l.head? = some c then (l.tail, true) else (l, false)
section
variable (w : World) (n : Nat)
theorem hasPre_p (l : List UInt8) (c : UInt8) (hl : l.length ≤ 1000000) : VSpec (EN w (n + 1)) 79 [strV l, strV [c]] (.sc (.bool (decide (l.head? = some c)))) ⟨[], 0, 0⟩ := by
  refine vspec_flat rfl rfl (fun _ _ => rfl) (Nat.le_of_ble_eq_true rfl) (oldVals w) rfl fun C hC h0 => ?_
  have hsz := mk_size l
  have h1 : (ByteArray.mk [c].toArray).size = 1 := rfl
  cases l with
  | nil =>
    have h0' : (ByteArray.mk ([] : List UInt8).toArray).size = 0 := rfl
    simp (disch := first | omega | assumption | exact bd (by with_unfolding_all rfl) | exact Or.inl rfl | exact Or.inl trivial | exact okL_map _ (fun _ => rfl) _ | (simp only [VVlen] <;> omega) | fail) only [O1, WA, slotsL, opdsA, Nat.reduceEqDiff, Nat.reduceLT, Nat.reduceAdd, Nat.reduceBEq, Int.reduceAdd, Int.reduceSub, Int.reduceLT, Int.reduceLE, Int.reduceEq, Int.reduceNeg, ↓reduceIte, reduceCtorEq, List.replicate, c79, h1]
    all_goals try (exfalso; omega)
    exact weak_flat rfl h0 rfl
  | cons b r =>
    have e1 := slcS_hi (b :: r) .i64 (1 : Nat) (by omega) (by simp; omega)
    have e2 : (b :: r).take (((1 : Nat) : Int).toNat) = [b] := by simp
    rw [e2] at e1
    have e3 : ((1 : Nat) : Int) = 1 := rfl
    rw [e3] at e1
    have hz : (b :: r).length = r.length + 1 := rfl
    have e4 : ([b] = [c]) = (b = c) := by simp
    simp (disch := first | omega | assumption | exact bd (by with_unfolding_all rfl) | exact Or.inl rfl | exact Or.inl trivial | exact okL_map _ (fun _ => rfl) _ | (simp only [VVlen] <;> omega) | fail) only [O1, WA, slotsL, opdsA, Nat.reduceEqDiff, Nat.reduceLT, Nat.reduceAdd, Nat.reduceBEq, Int.reduceAdd, Int.reduceSub, Int.reduceLT, Int.reduceLE, Int.reduceEq, Int.reduceNeg, ↓reduceIte, reduceCtorEq, List.replicate, c79, h1, e1, e3, mk_inj]
    all_goals try (exfalso; omega)
    have e5 : decide ((b :: r).head? = some c) = decide ([b] = [c]) := by simp
    rw [e5]
    exact weak_flat rfl h0 rfl
theorem cutPre0_p (l : List UInt8) (c : UInt8) (hl : l.length ≤ 1000000) : VSpec (EN w (n + 2)) 65 [strV l, strV [c]] (.tup [strV (preC c l).1, .sc (.bool (preC c l).2)]) ⟨[], 0, 0⟩ := by
  refine vspec_flat rfl rfl (fun _ _ => rfl) (Nat.le_of_ble_eq_true rfl) (oldVals w) rfl fun C hC h0 => ?_
  have hsz := mk_size l
  have h1 : (ByteArray.mk [c].toArray).size = 1 := rfl
  have h3 : ((1 : Nat) : Int) = 1 := rfl
  have hp := hasPre_p w n l c hl
  by_cases h : l.head? = some c
  · have e : preC c l = (l.tail, true) := if_pos h
    rw [e]
    rw [decide_eq_true h] at hp
    have hne : 0 < l.length := by cases l with | nil => cases h | cons => simp
    have e1 := slcS_lo l .i64 1 (by omega) (by omega)
    rw [show (1 : Int).toNat = 1 from rfl, List.drop_one] at e1
    simp (disch := first | omega | assumption | exact bd (by with_unfolding_all rfl) | exact Or.inl rfl | exact Or.inl trivial | exact okL_map _ (fun _ => rfl) _ | (simp only [VVlen] <;> omega) | fail) only [O1, WA, slotsL, opdsA, Nat.reduceEqDiff, Nat.reduceLT, Nat.reduceAdd, Nat.reduceBEq, Int.reduceAdd, Int.reduceSub, Int.reduceLT, Int.reduceLE, Int.reduceEq, Int.reduceNeg, ↓reduceIte, reduceCtorEq, List.replicate, c65]
    refine callV_flat (by rw [hC]; exact hp.flat rfl rfl) ?_
    simp (disch := first | omega | assumption | exact bd (by with_unfolding_all rfl) | exact Or.inl rfl | exact Or.inl trivial | exact okL_map _ (fun _ => rfl) _ | (simp only [VVlen] <;> omega) | fail) only [O1, WA, slotsL, opdsA, Nat.reduceEqDiff, Nat.reduceLT, Nat.reduceAdd, Nat.reduceBEq, Int.reduceAdd, Int.reduceSub, Int.reduceLT, Int.reduceLE, Int.reduceEq, Int.reduceNeg, ↓reduceIte, reduceCtorEq, List.replicate, h1, h3, e1]
    exact weak_flat rfl h0 rfl
  · have e : preC c l = (l, false) := if_neg h
    rw [e]
    rw [decide_eq_false h] at hp
    simp (disch := first | omega | assumption | exact bd (by with_unfolding_all rfl) | exact Or.inl rfl | exact Or.inl trivial | exact okL_map _ (fun _ => rfl) _ | (simp only [VVlen] <;> omega) | fail) only [O1, WA, slotsL, opdsA, Nat.reduceEqDiff, Nat.reduceLT, Nat.reduceAdd, Nat.reduceBEq, Int.reduceAdd, Int.reduceSub, Int.reduceLT, Int.reduceLE, Int.reduceEq, Int.reduceNeg, ↓reduceIte, reduceCtorEq, List.replicate, c65]
    refine callV_flat (by rw [hC]; exact hp.flat rfl rfl) ?_
    simp (disch := first | omega | assumption | exact bd (by with_unfolding_all rfl) | exact Or.inl rfl | exact Or.inl trivial | exact okL_map _ (fun _ => rfl) _ | (simp only [VVlen] <;> omega) | fail) only [O1, WA, slotsL, opdsA, Nat.reduceEqDiff, Nat.reduceLT, Nat.reduceAdd, Nat.reduceBEq, Int.reduceAdd, Int.reduceSub, Int.reduceLT, Int.reduceLE, Int.reduceEq, Int.reduceNeg, ↓reduceIte, reduceCtorEq, List.replicate]
    exact weak_flat rfl h0 rfl
theorem cutPre_p (l : List UInt8) (c : UInt8) (hl : l.length ≤ 1000000) : VSpec (EN w (n + 3)) 52 [strV l, strV [c]] (.tup [strV (preC c l).1, .sc (.bool (preC c l).2)]) ⟨[], 0, 0⟩ := by
  refine vspec_flat rfl rfl (fun _ _ => rfl) (Nat.le_of_ble_eq_true rfl) (oldVals w) rfl fun C hC h0 => ?_
  simp (disch := first | omega | assumption | exact bd (by with_unfolding_all rfl) | exact Or.inl rfl | exact Or.inl trivial | exact okL_map _ (fun _ => rfl) _ | (simp only [VVlen] <;> omega) | fail) only [O1, WA, slotsL, opdsA, Nat.reduceEqDiff, Nat.reduceLT, Nat.reduceAdd, Nat.reduceBEq, Int.reduceAdd, Int.reduceSub, Int.reduceLT, Int.reduceLE, Int.reduceEq, Int.reduceNeg, ↓reduceIte, reduceCtorEq, List.replicate, c52]
  refine callV_flat (by rw [hC]; exact (cutPre0_p w n l c hl).flat rfl rfl) ?_
  simp (disch := first | omega | assumption | exact bd (by with_unfolding_all rfl) | exact Or.inl rfl | exact Or.inl trivial | exact okL_map _ (fun _ => rfl) _ | (simp only [VVlen] <;> omega) | fail) only [O1, WA, slotsL, opdsA, Nat.reduceEqDiff, Nat.reduceLT, Nat.reduceAdd, Nat.reduceBEq, Int.reduceAdd, Int.reduceSub, Int.reduceLT, Int.reduceLE, Int.reduceEq, Int.reduceNeg, ↓reduceIte, reduceCtorEq, List.replicate]
  exact weak_flat rfl h0 rfl
theorem trimPre_p (l : List UInt8) (c : UInt8) (hl : l.length ≤ 1000000) : VSpec (EN w (n + 3)) 53 [strV l, strV [c]] (strV (preC c l).1) ⟨[], 0, 0⟩ := by
  have t0 : VSpec (EN w (n + 2)) 66 [strV l, strV [c]] (strV (preC c l).1) ⟨[], 0, 0⟩ := by
    refine vspec_flat rfl rfl (fun _ _ => rfl) (Nat.le_of_ble_eq_true rfl) (oldVals w) rfl fun C hC h0 => ?_
    have hsz := mk_size l
    have h1 : (ByteArray.mk [c].toArray).size = 1 := rfl
    have h3 : ((1 : Nat) : Int) = 1 := rfl
    have hp := hasPre_p w n l c hl
    by_cases h : l.head? = some c
    · have e : preC c l = (l.tail, true) := if_pos h
      rw [e]
      rw [decide_eq_true h] at hp
      have hne : 0 < l.length := by cases l with | nil => cases h | cons => simp
      have e1 := slcS_lo l .i64 1 (by omega) (by omega)
      rw [show (1 : Int).toNat = 1 from rfl, List.drop_one] at e1
      simp (disch := first | omega | assumption | exact bd (by with_unfolding_all rfl) | exact Or.inl rfl | exact Or.inl trivial | exact okL_map _ (fun _ => rfl) _ | (simp only [VVlen] <;> omega) | fail) only [O1, WA, slotsL, opdsA, Nat.reduceEqDiff, Nat.reduceLT, Nat.reduceAdd, Nat.reduceBEq, Int.reduceAdd, Int.reduceSub, Int.reduceLT, Int.reduceLE, Int.reduceEq, Int.reduceNeg, ↓reduceIte, reduceCtorEq, List.replicate, c66]
      refine callV_flat (by rw [hC]; exact hp.flat rfl rfl) ?_
      simp (disch := first | omega | assumption | exact bd (by with_unfolding_all rfl) | exact Or.inl rfl | exact Or.inl trivial | exact okL_map _ (fun _ => rfl) _ | (simp only [VVlen] <;> omega) | fail) only [O1, WA, slotsL, opdsA, Nat.reduceEqDiff, Nat.reduceLT, Nat.reduceAdd, Nat.reduceBEq, Int.reduceAdd, Int.reduceSub, Int.reduceLT, Int.reduceLE, Int.reduceEq, Int.reduceNeg, ↓reduceIte, reduceCtorEq, List.replicate, h1, h3, e1]
      exact weak_flat rfl h0 rfl
    · have e : preC c l = (l, false) := if_neg h
      rw [e]
      rw [decide_eq_false h] at hp
      simp (disch := first | omega | assumption | exact bd (by with_unfolding_all rfl) | exact Or.inl rfl | exact Or.inl trivial | exact okL_map _ (fun _ => rfl) _ | (simp only [VVlen] <;> omega) | fail) only [O1, WA, slotsL, opdsA, Nat.reduceEqDiff, Nat.reduceLT, Nat.reduceAdd, Nat.reduceBEq, Int.reduceAdd, Int.reduceSub, Int.reduceLT, Int.reduceLE, Int.reduceEq, Int.reduceNeg, ↓reduceIte, reduceCtorEq, List.replicate, c66]
      refine callV_flat (by rw [hC]; exact hp.flat rfl rfl) ?_
      simp (disch := first | omega | assumption | exact bd (by with_unfolding_all rfl) | exact Or.inl rfl | exact Or.inl trivial | exact okL_map _ (fun _ => rfl) _ | (simp only [VVlen] <;> omega) | fail) only [O1, WA, slotsL, opdsA, Nat.reduceEqDiff, Nat.reduceLT, Nat.reduceAdd, Nat.reduceBEq, Int.reduceAdd, Int.reduceSub, Int.reduceLT, Int.reduceLE, Int.reduceEq, Int.reduceNeg, ↓reduceIte, reduceCtorEq, List.replicate]
      exact weak_flat rfl h0 rfl
  refine vspec_flat rfl rfl (fun _ _ => rfl) (Nat.le_of_ble_eq_true rfl) (oldVals w) rfl fun C hC h0 => ?_
  simp (disch := first | omega | assumption | exact bd (by with_unfolding_all rfl) | exact Or.inl rfl | exact Or.inl trivial | exact okL_map _ (fun _ => rfl) _ | (simp only [VVlen] <;> omega) | fail) only [O1, WA, slotsL, opdsA, Nat.reduceEqDiff, Nat.reduceLT, Nat.reduceAdd, Nat.reduceBEq, Int.reduceAdd, Int.reduceSub, Int.reduceLT, Int.reduceLE, Int.reduceEq, Int.reduceNeg, ↓reduceIte, reduceCtorEq, List.replicate, c53]
  refine callV_flat (by rw [hC]; exact t0.flat rfl rfl) ?_
  repeat' (first | (simp (disch := first | omega | assumption | exact bd (by with_unfolding_all rfl) | exact Or.inl rfl | exact Or.inl trivial | exact okL_map _ (fun _ => rfl) _ | (simp only [VVlen] <;> omega) | fail) only [O1, WA, slotsL, opdsA, Nat.reduceEqDiff, Nat.reduceLT, Nat.reduceAdd, Nat.reduceBEq, Int.reduceAdd, Int.reduceSub, Int.reduceLT, Int.reduceLE, Int.reduceEq, Int.reduceNeg, ↓reduceIte, reduceCtorEq, List.replicate]) | apply gC_drawW | ((first | apply gI_dec | apply gG_dec | apply gPG_dec | apply gI_var | apply gG_var | apply gPG_var) <;> intro _))
  exact weak_flat rfl h0 rfl
theorem contains_p (l : List UInt8) (c : UInt8) (hl : l.length ≤ 1000000) : VSpec (EN w (n + 5)) 40 [strV l, strV [c]] (.sc (.bool (decide (0 ≤ idxB c l)))) ⟨[], 0, 0⟩ := by
  refine vspec_flat rfl rfl (fun _ _ => rfl) (Nat.le_of_ble_eq_true rfl) (oldVals w) rfl fun C hC h0 => ?_
  simp (disch := first | omega | assumption | exact bd (by with_unfolding_all rfl) | exact Or.inl rfl | exact Or.inl trivial | exact okL_map _ (fun _ => rfl) _ | (simp only [VVlen] <;> omega) | fail) only [O1, WA, slotsL, opdsA, Nat.reduceEqDiff, Nat.reduceLT, Nat.reduceAdd, Nat.reduceBEq, Int.reduceAdd, Int.reduceSub, Int.reduceLT, Int.reduceLE, Int.reduceEq, Int.reduceNeg, ↓reduceIte, reduceCtorEq, List.replicate, c40]
  refine callV_flat (by rw [hC]; exact (index_p w n l c (by omega)).flat rfl rfl) ?_
  simp (disch := first | omega | assumption | exact bd (by with_unfolding_all rfl) | exact Or.inl rfl | exact Or.inl trivial | exact okL_map _ (fun _ => rfl) _ | (simp only [VVlen] <;> omega) | fail) only [O1, WA, slotsL, opdsA, Nat.reduceEqDiff, Nat.reduceLT, Nat.reduceAdd, Nat.reduceBEq, Int.reduceAdd, Int.reduceSub, Int.reduceLT, Int.reduceLE, Int.reduceEq, Int.reduceNeg, ↓reduceIte, reduceCtorEq, List.replicate]
  exact weak_flat rfl h0 rfl
theorem bneedle_p (z : Int) : VSpec (EN w (n + 1)) 43 [.sc (.int .i64 z)] (.sc (.bool (decide (ndOK z)))) ⟨[], 0, 0⟩ := by
  refine vspec_flat rfl rfl (fun _ _ => rfl) (Nat.le_of_ble_eq_true rfl) (oldVals w) rfl fun C hC h0 => ?_
  by_cases h : ndOK z
  · rw [decide_eq_true h]
    unfold ndOK at h
    simp (disch := first | omega | assumption | exact bd (by with_unfolding_all rfl) | exact Or.inl rfl | exact Or.inl trivial | exact okL_map _ (fun _ => rfl) _ | (simp only [VVlen] <;> omega) | fail) only [O1, WA, slotsL, opdsA, Nat.reduceEqDiff, Nat.reduceLT, Nat.reduceAdd, Nat.reduceBEq, Int.reduceAdd, Int.reduceSub, Int.reduceLT, Int.reduceLE, Int.reduceEq, Int.reduceNeg, ↓reduceIte, reduceCtorEq, List.replicate, c43]
    all_goals try (exfalso; omega)
    exact weak_flat rfl h0 rfl
  · rw [decide_eq_false h]
    unfold ndOK at h
    repeat' (first | (simp (disch := first | omega | assumption | exact bd (by with_unfolding_all rfl) | exact Or.inl rfl | exact Or.inl trivial | exact okL_map _ (fun _ => rfl) _ | (simp only [VVlen] <;> omega) | fail) only [O1, WA, slotsL, opdsA, Nat.reduceEqDiff, Nat.reduceLT, Nat.reduceAdd, Nat.reduceBEq, Int.reduceAdd, Int.reduceSub, Int.reduceLT, Int.reduceLE, Int.reduceEq, Int.reduceNeg, ↓reduceIte, reduceCtorEq, List.replicate, c43]) | apply gC_drawW | ((first | apply gI_dec | apply gG_dec | apply gPG_dec | apply gI_var | apply gG_var | apply gPG_var) <;> intro _))
    all_goals try (exfalso; omega)
    all_goals exact weak_flat rfl h0 rfl
end
end Go.Proofs.YtbefpfbidgfipaaDoor
namespace Go.Itp
def AC.l : AC → AC
  | .seq a _ => a
  | x => x
def AC.r : AC → AC
  | .seq _ b => b
  | x => x
end Go.Itp
namespace Go.Proofs.YtbefpfbidgfipaaDoor
open Go Go.Itp
set_option maxRecDepth 100000
set_option maxHeartbeats 2000000
set_option linter.unusedSimpArgs false
set_option linter.unusedVariables false
abbrev insL (o : Nat) (r : Bool) (b : Nat) (p t c k : Int) : List V := [.sc (.int .u8 o), .sc (.bool r), .sc (.int .u8 b), .sc (.int .i64 p), .sc (.int .i64 t), .sc (.int .i64 c), .sc (.int .i64 k)]
abbrev insB (o : Nat) (r : Bool) (b : Nat) (p t c k : Int) : Itp.Obj := .box 23 1 (insL o r b p t c k)
section
variable (w : World) (n : Nat)
theorem binstr_tail {C : Ctx} (hC : C.E = EN w (n + 1)) (h0 : C.w0.nx = 0) (o : Nat) (r : Bool) (b : Nat) (p t c k : Int) (o' : Nat) (r' : Bool) (b' : Nat) (p' t' c' k' : Int) (ok : Bool) (E : Bool) (R : Int)
    (hE : (decide ((o' : Int) = 0) && (r' == false && (decide ((b' : Int) = 0) && (decide (p' = 0) && (decide (t' = 0) && (decide (c' = 0) && decide (k' = 0))))))) = E)
    (h : R = if ok = true ∧ E = true ∧ b ≤ 1 ∧ ndOK p ∧ ndOK t then 0 else 8) {T : AC} (hT : T = AC.r (AC.r (AC.r (AC.r (AC.r (AC.r c22.code)))))) :
    gC C T [] [(1, .ptr 0 0), (4, .ptr 1 0), (5, .sc (.bool ok))] ⟨[(1, insB o' r' b' p' t' c' k'), (0, insB o r b p t c k)], 2, 0⟩ (RetV C c22.res (.sc (.int .i64 R)) ⟨[], 0, 0⟩) := by
  have hp := (bneedle_p w n p).of hC rfl
  have ht := (bneedle_p w n t).of hC rfl
  simp only [c22, AC.r] at hT
  subst hT
  cases ok
  · rw [if_neg (by simp)] at h
    subst h
    simp (disch := first | omega | assumption | exact bd (by with_unfolding_all rfl) | exact Or.inl rfl | exact Or.inl trivial | exact okL_map _ (fun _ => rfl) _ | (simp only [VVlen] <;> omega) | fail) only [O1, WA, slotsL, opdsA, Nat.reduceEqDiff, Nat.reduceLT, Nat.reduceAdd, Nat.reduceBEq, Int.reduceAdd, Int.reduceSub, Int.reduceLT, Int.reduceLE, Int.reduceEq, Int.reduceNeg, ↓reduceIte, reduceCtorEq, List.replicate, c22]
    exact weak_flat rfl h0 rfl
  cases E
  · rw [if_neg (by simp)] at h
    subst h
    simp (disch := first | omega | assumption | exact bd (by with_unfolding_all rfl) | exact Or.inl rfl | exact Or.inl trivial | exact okL_map _ (fun _ => rfl) _ | (simp only [VVlen] <;> omega) | fail) only [O1, WA, slotsL, opdsA, Nat.reduceEqDiff, Nat.reduceLT, Nat.reduceAdd, Nat.reduceBEq, Int.reduceAdd, Int.reduceSub, Int.reduceLT, Int.reduceLE, Int.reduceEq, Int.reduceNeg, ↓reduceIte, reduceCtorEq, List.replicate, c22, hE]
    exact weak_flat rfl h0 rfl
  by_cases hb : b ≤ 1
  case neg =>
    rw [if_neg (fun hh => hb hh.2.2.1)] at h
    subst h
    simp (disch := first | omega | assumption | exact bd (by with_unfolding_all rfl) | exact Or.inl rfl | exact Or.inl trivial | exact okL_map _ (fun _ => rfl) _ | (simp only [VVlen] <;> omega) | fail) only [O1, WA, slotsL, opdsA, Nat.reduceEqDiff, Nat.reduceLT, Nat.reduceAdd, Nat.reduceBEq, Int.reduceAdd, Int.reduceSub, Int.reduceLT, Int.reduceLE, Int.reduceEq, Int.reduceNeg, ↓reduceIte, reduceCtorEq, List.replicate, c22, hE]
    all_goals try (exfalso; omega)
    exact weak_flat rfl h0 rfl
  by_cases h1 : ndOK p
  case neg =>
    rw [if_neg (fun hh => h1 hh.2.2.2.1)] at h
    subst h
    rw [decide_eq_false h1] at hp
    simp (disch := first | omega | assumption | exact bd (by with_unfolding_all rfl) | exact Or.inl rfl | exact Or.inl trivial | exact okL_map _ (fun _ => rfl) _ | (simp only [VVlen] <;> omega) | fail) only [O1, WA, slotsL, opdsA, Nat.reduceEqDiff, Nat.reduceLT, Nat.reduceAdd, Nat.reduceBEq, Int.reduceAdd, Int.reduceSub, Int.reduceLT, Int.reduceLE, Int.reduceEq, Int.reduceNeg, ↓reduceIte, reduceCtorEq, List.replicate, c22, hE]
    all_goals try (exfalso; omega)
    refine callV_flat (hp _ rfl) ?_
    simp (disch := first | omega | assumption | exact bd (by with_unfolding_all rfl) | exact Or.inl rfl | exact Or.inl trivial | exact okL_map _ (fun _ => rfl) _ | (simp only [VVlen] <;> omega) | fail) only [O1, WA, slotsL, opdsA, Nat.reduceEqDiff, Nat.reduceLT, Nat.reduceAdd, Nat.reduceBEq, Int.reduceAdd, Int.reduceSub, Int.reduceLT, Int.reduceLE, Int.reduceEq, Int.reduceNeg, ↓reduceIte, reduceCtorEq, List.replicate]
    exact weak_flat rfl h0 rfl
  rw [decide_eq_true h1] at hp
  simp (disch := first | omega | assumption | exact bd (by with_unfolding_all rfl) | exact Or.inl rfl | exact Or.inl trivial | exact okL_map _ (fun _ => rfl) _ | (simp only [VVlen] <;> omega) | fail) only [O1, WA, slotsL, opdsA, Nat.reduceEqDiff, Nat.reduceLT, Nat.reduceAdd, Nat.reduceBEq, Int.reduceAdd, Int.reduceSub, Int.reduceLT, Int.reduceLE, Int.reduceEq, Int.reduceNeg, ↓reduceIte, reduceCtorEq, List.replicate, c22, hE]
  all_goals try (exfalso; omega)
  refine callV_flat (hp _ rfl) ?_
  simp (disch := first | omega | assumption | exact bd (by with_unfolding_all rfl) | exact Or.inl rfl | exact Or.inl trivial | exact okL_map _ (fun _ => rfl) _ | (simp only [VVlen] <;> omega) | fail) only [O1, WA, slotsL, opdsA, Nat.reduceEqDiff, Nat.reduceLT, Nat.reduceAdd, Nat.reduceBEq, Int.reduceAdd, Int.reduceSub, Int.reduceLT, Int.reduceLE, Int.reduceEq, Int.reduceNeg, ↓reduceIte, reduceCtorEq, List.replicate]
  refine callV_flat (ht _ rfl) ?_
  by_cases h2 : ndOK t
  · rw [if_pos ⟨rfl, rfl, hb, h1, h2⟩] at h
    subst h
    rw [decide_eq_true h2]
    simp (disch := first | omega | assumption | exact bd (by with_unfolding_all rfl) | exact Or.inl rfl | exact Or.inl trivial | exact okL_map _ (fun _ => rfl) _ | (simp only [VVlen] <;> omega) | fail) only [O1, WA, slotsL, opdsA, Nat.reduceEqDiff, Nat.reduceLT, Nat.reduceAdd, Nat.reduceBEq, Int.reduceAdd, Int.reduceSub, Int.reduceLT, Int.reduceLE, Int.reduceEq, Int.reduceNeg, ↓reduceIte, reduceCtorEq, List.replicate]
    exact weak_flat rfl h0 rfl
  · rw [if_neg (fun hh => h2 hh.2.2.2.2)] at h
    subst h
    rw [decide_eq_false h2]
    simp (disch := first | omega | assumption | exact bd (by with_unfolding_all rfl) | exact Or.inl rfl | exact Or.inl trivial | exact okL_map _ (fun _ => rfl) _ | (simp only [VVlen] <;> omega) | fail) only [O1, WA, slotsL, opdsA, Nat.reduceEqDiff, Nat.reduceLT, Nat.reduceAdd, Nat.reduceBEq, Int.reduceAdd, Int.reduceSub, Int.reduceLT, Int.reduceLE, Int.reduceEq, Int.reduceNeg, ↓reduceIte, reduceCtorEq, List.replicate]
    exact weak_flat rfl h0 rfl
theorem binstr_p (i : Ins) : VSpec (EN w (n + 2)) 22 [insV i] (.sc (.int .i64 (if insOK i = true then 0 else 8))) ⟨[], 0, 0⟩ := by
  refine vspec_flat rfl rfl (fun _ _ => rfl) (Nat.le_of_ble_eq_true rfl) (oldVals w) rfl fun C hC h0 => ?_
  obtain ⟨T, hT⟩ : ∃ T, T = AC.r (AC.r (AC.r (AC.r (AC.r (AC.r c22.code))))) := ⟨_, rfl⟩
  have hc : c22.code = .seq (AC.l c22.code) (.seq (AC.l (AC.r c22.code)) (.seq (AC.l (AC.r (AC.r c22.code))) (.seq (AC.l (AC.r (AC.r (AC.r c22.code)))) (.seq (AC.l (AC.r (AC.r (AC.r (AC.r c22.code))))) (.seq (AC.l (AC.r (AC.r (AC.r (AC.r (AC.r c22.code)))))) T))))) := by rw [hT]; rfl
  rw [hc]
  obtain ⟨op, right, bed, pos, to, car, rack⟩ := i
  have key : ∀ x : Prop, [Decidable x] → (InsP ⟨op, right, bed, pos, to, car, rack⟩ ↔ x) → (if insOK ⟨op, right, bed, pos, to, car, rack⟩ = true then (0 : Int) else 8) = if x then 0 else 8 := fun x _ h => by
    by_cases hx : x
    · rw [if_pos hx, if_pos (insOK_iff.2 (h.2 hx))]
    · rw [if_neg hx, if_neg (fun hh => hx (h.1 (insOK_iff.1 hh)))]
  have tl := fun (o' : Nat) (r' : Bool) (b' : Nat) (p' t' c' k' : Int) (ok E : Bool) (hE) (h) => binstr_tail w n hC h0 op right bed pos to car rack o' r' b' p' t' c' k' ok E _ hE (key _ h) hT
  unfold InsP at tl
  by_cases h1 : op = 1 ∨ op = 2
  · rcases h1 with rfl | rfl
    all_goals
      repeat' (first | (simp (disch := first | omega | assumption | exact bd (by with_unfolding_all rfl) | exact Or.inl rfl | exact Or.inl trivial | exact okL_map _ (fun _ => rfl) _ | (simp only [VVlen] <;> omega) | fail) only [O1, WA, slotsL, opdsA, Nat.reduceEqDiff, Nat.reduceLT, Nat.reduceAdd, Nat.reduceBEq, Int.reduceAdd, Int.reduceSub, Int.reduceLT, Int.reduceLE, Int.reduceEq, Int.reduceNeg, ↓reduceIte, reduceCtorEq, List.replicate, c22, insV, AC.l, AC.r]) | apply gC_drawW | ((first | apply gI_dec | apply gG_dec | apply gPG_dec | apply gI_var | apply gG_var | apply gPG_var) <;> intro _))
      all_goals try (exfalso; omega)
      all_goals refine tl 0 right bed pos to 0 rack _ _ rfl ?_
      all_goals
        cases right <;> simp only [ndOK, Bool.and_eq_true, decide_eq_true_eq, beq_iff_eq, true_and, and_true, reduceCtorEq, false_and, and_false, or_false, false_or, Nat.reduceEqDiff, true_or, or_true, iff_false, true_iff, false_iff] <;> omega
  by_cases h2 : op = 3 ∨ op = 4 ∨ op = 5
  · rcases h2 with rfl | rfl | rfl
    all_goals
      repeat' (first | (simp (disch := first | omega | assumption | exact bd (by with_unfolding_all rfl) | exact Or.inl rfl | exact Or.inl trivial | exact okL_map _ (fun _ => rfl) _ | (simp only [VVlen] <;> omega) | fail) only [O1, WA, slotsL, opdsA, Nat.reduceEqDiff, Nat.reduceLT, Nat.reduceAdd, Nat.reduceBEq, Int.reduceAdd, Int.reduceSub, Int.reduceLT, Int.reduceLE, Int.reduceEq, Int.reduceNeg, ↓reduceIte, reduceCtorEq, List.replicate, c22, insV, AC.l, AC.r]) | apply gC_drawW | ((first | apply gI_dec | apply gG_dec | apply gPG_dec | apply gI_var | apply gG_var | apply gPG_var) <;> intro _))
      all_goals try (exfalso; omega)
      all_goals refine tl 0 false 0 0 to 0 rack _ _ rfl ?_
      all_goals
        cases right <;> simp only [ndOK, Bool.and_eq_true, decide_eq_true_eq, beq_iff_eq, true_and, and_true, reduceCtorEq, false_and, and_false, or_false, false_or, Nat.reduceEqDiff, true_or, or_true, iff_false, true_iff, false_iff] <;> omega
  by_cases h3 : op = 6
  · subst h3
    all_goals
      repeat' (first | (simp (disch := first | omega | assumption | exact bd (by with_unfolding_all rfl) | exact Or.inl rfl | exact Or.inl trivial | exact okL_map _ (fun _ => rfl) _ | (simp only [VVlen] <;> omega) | fail) only [O1, WA, slotsL, opdsA, Nat.reduceEqDiff, Nat.reduceLT, Nat.reduceAdd, Nat.reduceBEq, Int.reduceAdd, Int.reduceSub, Int.reduceLT, Int.reduceLE, Int.reduceEq, Int.reduceNeg, ↓reduceIte, reduceCtorEq, List.replicate, c22, insV, AC.l, AC.r]) | apply gC_drawW | ((first | apply gI_dec | apply gG_dec | apply gPG_dec | apply gI_var | apply gG_var | apply gPG_var) <;> intro _))
      all_goals try (exfalso; omega)
      all_goals refine tl 0 false 0 0 0 0 rack _ _ rfl ?_
      all_goals
        cases right <;> simp only [ndOK, Bool.and_eq_true, decide_eq_true_eq, beq_iff_eq, true_and, and_true, reduceCtorEq, false_and, and_false, or_false, false_or, Nat.reduceEqDiff, true_or, or_true, iff_false, true_iff, false_iff] <;> omega
  by_cases h4 : op = 7
  · subst h4
    all_goals
      repeat' (first | (simp (disch := first | omega | assumption | exact bd (by with_unfolding_all rfl) | exact Or.inl rfl | exact Or.inl trivial | exact okL_map _ (fun _ => rfl) _ | (simp only [VVlen] <;> omega) | fail) only [O1, WA, slotsL, opdsA, Nat.reduceEqDiff, Nat.reduceLT, Nat.reduceAdd, Nat.reduceBEq, Int.reduceAdd, Int.reduceSub, Int.reduceLT, Int.reduceLE, Int.reduceEq, Int.reduceNeg, ↓reduceIte, reduceCtorEq, List.replicate, c22, insV, AC.l, AC.r]) | apply gC_drawW | ((first | apply gI_dec | apply gG_dec | apply gPG_dec | apply gI_var | apply gG_var | apply gPG_var) <;> intro _))
      all_goals try (exfalso; omega)
      all_goals refine tl 0 right 0 0 0 car rack _ _ rfl ?_
      all_goals
        cases right <;> simp only [ndOK, Bool.and_eq_true, decide_eq_true_eq, beq_iff_eq, true_and, and_true, reduceCtorEq, false_and, and_false, or_false, false_or, Nat.reduceEqDiff, true_or, or_true, iff_false, true_iff, false_iff] <;> omega
  by_cases h5 : op = 8
  · subst h5
    have hw : IntKind.i64.wrap (0 - rack) = -rack ∨ 8 < rack ∨ rack < -8 := by
      by_cases h : -8 ≤ rack ∧ rack ≤ 8
      · left; rw [wrap64 _ (by omega) (by omega)]; omega
      · omega
    repeat' (first | (simp (disch := first | omega | assumption | exact bd (by with_unfolding_all rfl) | exact Or.inl rfl | exact Or.inl trivial | exact okL_map _ (fun _ => rfl) _ | (simp only [VVlen] <;> omega) | fail) only [O1, WA, slotsL, opdsA, Nat.reduceEqDiff, Nat.reduceLT, Nat.reduceAdd, Nat.reduceBEq, Int.reduceAdd, Int.reduceSub, Int.reduceLT, Int.reduceLE, Int.reduceEq, Int.reduceNeg, ↓reduceIte, reduceCtorEq, List.replicate, c22, insV, AC.l, AC.r]) | apply gC_drawW | ((first | apply gI_dec | apply gG_dec | apply gPG_dec | apply gI_var | apply gG_var | apply gPG_var) <;> intro _))
    all_goals refine tl 0 right bed pos to car 0 _ _ rfl ?_
    all_goals generalize IntKind.i64.wrap (0 - rack) = NR at *
    all_goals
      cases right <;> simp only [ndOK, Bool.and_eq_true, decide_eq_true_eq, beq_iff_eq, true_and, and_true, reduceCtorEq, false_and, and_false, or_false, false_or, Nat.reduceEqDiff, true_or, or_true, iff_false, true_iff, false_iff] <;> omega
  by_cases h6 : op = 9
  · subst h6
    all_goals
      repeat' (first | (simp (disch := first | omega | assumption | exact bd (by with_unfolding_all rfl) | exact Or.inl rfl | exact Or.inl trivial | exact okL_map _ (fun _ => rfl) _ | (simp only [VVlen] <;> omega) | fail) only [O1, WA, slotsL, opdsA, Nat.reduceEqDiff, Nat.reduceLT, Nat.reduceAdd, Nat.reduceBEq, Int.reduceAdd, Int.reduceSub, Int.reduceLT, Int.reduceLE, Int.reduceEq, Int.reduceNeg, ↓reduceIte, reduceCtorEq, List.replicate, c22, insV, AC.l, AC.r]) | apply gC_drawW | ((first | apply gI_dec | apply gG_dec | apply gPG_dec | apply gI_var | apply gG_var | apply gPG_var) <;> intro _))
      all_goals try (exfalso; omega)
      all_goals refine tl 0 right 0 0 to car rack _ _ rfl ?_
      all_goals
        cases right <;> simp only [ndOK, Bool.and_eq_true, decide_eq_true_eq, beq_iff_eq, true_and, and_true, reduceCtorEq, false_and, and_false, or_false, false_or, Nat.reduceEqDiff, true_or, or_true, iff_false, true_iff, false_iff] <;> omega
  repeat' (first | (simp (disch := first | omega | assumption | exact bd (by with_unfolding_all rfl) | exact Or.inl rfl | exact Or.inl trivial | exact okL_map _ (fun _ => rfl) _ | (simp only [VVlen] <;> omega) | fail) only [O1, WA, slotsL, opdsA, Nat.reduceEqDiff, Nat.reduceLT, Nat.reduceAdd, Nat.reduceBEq, Int.reduceAdd, Int.reduceSub, Int.reduceLT, Int.reduceLE, Int.reduceEq, Int.reduceNeg, ↓reduceIte, reduceCtorEq, List.replicate, c22, insV, AC.l, AC.r]) | apply gC_drawW | ((first | apply gI_dec | apply gG_dec | apply gPG_dec | apply gI_var | apply gG_var | apply gPG_var) <;> intro _))
  all_goals try (exfalso; omega)
  all_goals refine tl 0 right bed pos to car rack _ _ rfl ?_
  all_goals
    cases right <;> simp only [ndOK, Bool.and_eq_true, decide_eq_true_eq, beq_iff_eq, true_and, and_true, reduceCtorEq, false_and, and_false, or_false, false_or, Nat.reduceEqDiff, true_or, or_true, iff_false, true_iff, false_iff] <;> omega
end
end Go.Proofs.YtbefpfbidgfipaaDoor
namespace Go.Proofs.YtbefpfbidgfipaaDoor
open Go Go.Itp
set_option maxRecDepth 100000
set_option maxHeartbeats 2000000
set_option linter.unusedSimpArgs false
set_option linter.unusedVariables false
def wordsD : List D := (List.range 10).flatMap fun k => [sD (nameI k), sD (partsI k)]
section
variable (w : World) (n : Nat)
theorem wordsD_sc : ∀ d ∈ wordsD, ∃ x, d = .sc x := fun d hd => by
  obtain ⟨k, _, hk⟩ := List.mem_flatMap.1 hd
  simp only [List.mem_cons, List.not_mem_nil, or_false] at hk
  rcases hk with rfl | rfl <;> exact ⟨_, rfl⟩
theorem codewords_1 (H : VHp) (nx : Nat) : VSpec1 (EN w (n + 1)) 28 ⟨H, nx, nx⟩ [] (.ref nx 0 10 10) (.row 59 2 false false wordsD) := by
  refine vspec1_r rfl rfl (fun _ _ => rfl) (Nat.le_of_ble_eq_true rfl) wordsD_sc fun C hC h0 => ⟨⟨(nx, .row 59 2 false false wordsD) :: H, nx + 1, nx⟩, nx, ?_, Nat.le_refl _, ?_⟩
  · simp [aget]
  · simp (disch := first | omega | assumption | exact bd (by with_unfolding_all rfl) | exact Or.inl rfl | exact Or.inl trivial | exact okL_map _ (fun _ => rfl) _ | (simp only [VVlen] <;> omega) | fail) only [O1, WA, slotsL, opdsA, Nat.reduceEqDiff, Nat.reduceLT, Nat.reduceAdd, Nat.reduceBEq, Int.reduceAdd, Int.reduceSub, Int.reduceLT, Int.reduceLE, Int.reduceEq, Int.reduceNeg, ↓reduceIte, reduceCtorEq, List.replicate, c28]
    change gV C (some (.ref nx 0 10 10, some (.row 59 2 false false wordsD), [])) _ _ _ _ _ _ _ _
    simp (disch := first | omega | assumption | exact bd (by with_unfolding_all rfl) | exact Or.inl rfl | exact Or.inl trivial | exact okL_map _ (fun _ => rfl) _ | (simp only [VVlen] <;> omega) | fail) only [O1, WA, slotsL, opdsA, Nat.reduceEqDiff, Nat.reduceLT, Nat.reduceAdd, Nat.reduceBEq, Int.reduceAdd, Int.reduceSub, Int.reduceLT, Int.reduceLE, Int.reduceEq, Int.reduceNeg, ↓reduceIte, reduceCtorEq, List.replicate]
    rw [frozA_none]
    exact .refl _ _
theorem codewords_p : VSpec (EN w (n + 1)) 28 [] (.ref 0 0 10 10) ⟨[(0, .row 59 2 false false wordsD)], 1, 0⟩ := by
  refine vspec_g rfl rfl (fun _ _ => rfl) (Nat.le_of_ble_eq_true rfl) (oldVals w) retOK_ref rfl fun C hC h0 => ?_
  simp (disch := first | omega | assumption | exact bd (by with_unfolding_all rfl) | exact Or.inl rfl | exact Or.inl trivial | exact okL_map _ (fun _ => rfl) _ | (simp only [VVlen] <;> omega) | fail) only [O1, WA, slotsL, opdsA, Nat.reduceEqDiff, Nat.reduceLT, Nat.reduceAdd, Nat.reduceBEq, Int.reduceAdd, Int.reduceSub, Int.reduceLT, Int.reduceLE, Int.reduceEq, Int.reduceNeg, ↓reduceIte, reduceCtorEq, List.replicate, c28]
  change gV C (some (.ref 0 0 10 10, some (.row 59 2 false false wordsD), [])) _ _ _ _ _ _ _ _
  simp (disch := first | omega | assumption | exact bd (by with_unfolding_all rfl) | exact Or.inl rfl | exact Or.inl trivial | exact okL_map _ (fun _ => rfl) _ | (simp only [VVlen] <;> omega) | fail) only [O1, WA, slotsL, opdsA, Nat.reduceEqDiff, Nat.reduceLT, Nat.reduceAdd, Nat.reduceBEq, Int.reduceAdd, Int.reduceSub, Int.reduceLT, Int.reduceLE, Int.reduceEq, Int.reduceNeg, ↓reduceIte, reduceCtorEq, List.replicate]
  exact .refl _ _
theorem cneedle_p (b : Nat) (hb : b ≤ 1) (z : Int) (h0 : -1000000 ≤ z) (h1 : z ≤ 1000000) : VSpec (EN w (n + 2)) 44 [.sc (.int .u8 b), .sc (.int .i64 z)] (strV (ndl b z)) ⟨[], 0, 0⟩ := by
  refine vspec_flat rfl rfl (fun _ _ => rfl) (Nat.le_of_ble_eq_true rfl) (oldVals w) rfl fun C hC hz => ?_
  have hi : ∀ st, VSpecO C.E 45 st [.sc (.int .i64 z)] (strV (Lib.itoa z)) := fun st => by rw [hC]; exact itoa_s w n st z (by omega) (by omega)
  have hs : slcSV (some (.int .u8 b)) (some (.int .u8 (IntKind.u8.wrap ((b : Int) + 1)))) (.sc (.string ⟨#[102, 98]⟩)) = some (strV [if b = 1 then 98 else 102]) := by
    rcases (by omega : b = 0 ∨ b = 1) with rfl | rfl <;> rfl
  simp (disch := first | omega | assumption | exact bd (by with_unfolding_all rfl) | exact Or.inl rfl | exact Or.inl trivial | exact okL_map _ (fun _ => rfl) _ | (simp only [VVlen] <;> omega) | fail) only [O1, WA, slotsL, opdsA, Nat.reduceEqDiff, Nat.reduceLT, Nat.reduceAdd, Nat.reduceBEq, Int.reduceAdd, Int.reduceSub, Int.reduceLT, Int.reduceLE, Int.reduceEq, Int.reduceNeg, ↓reduceIte, reduceCtorEq, List.replicate, c44, hs]
  have hil := itoa_len (z := z) (by omega) (by omega)
  have hc := cat_l [if b = 1 then 98 else 102] (Lib.itoa z) (by simp; omega)
  refine call0_of (hi _) ?_
  simp (disch := first | omega | assumption | exact bd (by with_unfolding_all rfl) | exact Or.inl rfl | exact Or.inl trivial | exact okL_map _ (fun _ => rfl) _ | (simp only [VVlen] <;> omega) | fail) only [O1, WA, slotsL, opdsA, Nat.reduceEqDiff, Nat.reduceLT, Nat.reduceAdd, Nat.reduceBEq, Int.reduceAdd, Int.reduceSub, Int.reduceLT, Int.reduceLE, Int.reduceEq, Int.reduceNeg, ↓reduceIte, reduceCtorEq, List.replicate, hc]
  exact weak_flat rfl hz rfl
def wordAt (op : Nat) : V := .agg [strV (nameI op), strV (partsI op)]
theorem wordsD_at {op : Nat} (h : op < 10) : dload wordsD (op * 2) (some 2) = some (wordAt op) := by
  rcases (by omega : op = 0 ∨ op = 1 ∨ op = 2 ∨ op = 3 ∨ op = 4 ∨ op = 5 ∨ op = 6 ∨ op = 7 ∨ op = 8 ∨ op = 9) with rfl | rfl | rfl | rfl | rfl | rfl | rfl | rfl | rfl | rfl <;> rfl
attribute [local irreducible] wordsD
abbrev insB' (i : Ins) : Itp.Obj := .box 23 1 [.sc (.int .u8 i.op), .sc (.bool i.right), .sc (.int .u8 i.bed), .sc (.int .i64 i.pos), .sc (.int .i64 i.to), .sc (.int .i64 i.car), .sc (.int .i64 i.rack)]
abbrev outL (i : Ins) (p : List UInt8) : List (List UInt8) := nameI i.op :: p.map (partT i)
abbrev lineH (i : Ins) (k : Nat) (ob : Itp.Obj) : VHp := [(4, itO ⟨(partsI i.op).toArray⟩ k), (3, ob), (0, insB' i)]
def lineS (i : Ins) (p : List UInt8) (fr : VFr) (st : VSt) : Prop :=
  (p = [] ∧ fr = [(1, .ptr 0 0), (4, .ref 3 0 1 1), (17, .ptr 4 0)] ∧ st = ⟨lineH i 0 (.row 9 1 false false [sD (nameI i.op)]), 5, 0⟩) ∨
  (0 < p.length ∧ fr = [(1, .ptr 0 0), (4, .gr 2 3 (p.length + 1)), (17, .ptr 4 0)] ∧ st = ⟨lineH i p.length (.gro 9 1 false ((outL i p).map sD)), 5, 0⟩)
theorem line_p (i : Ins) (hv : InsP i) : VSpec (EN w (n + 3)) 23 [insV i] (strV (textI i)) ⟨[], 0, 0⟩ := by
  refine vspec_flat rfl rfl (fun _ _ => rfl) (Nat.le_of_ble_eq_true rfl) (oldVals w) rfl fun C hC h0 => ?_
  have hop := hv.op_lt
  have hbd := hv.bounds
  have hwo := wordsD_at hop.2
  have hpl := partsI_len hop.2
  have hrn : C.E.rounds = many := by rw [hC, callP_rounds]
  have hrs := fun nx => rangeSV_str nx ⟨(partsI i.op).toArray⟩ (by rw [mk_size]; omega)
  simp (disch := first | omega | assumption | exact bd (by with_unfolding_all rfl) | exact Or.inl rfl | exact Or.inl trivial | exact okL_map _ (fun _ => rfl) _ | (simp only [VVlen] <;> omega) | fail) only [O1, WA, slotsL, opdsA, Nat.reduceEqDiff, Nat.reduceLT, Nat.reduceAdd, Nat.reduceBEq, Int.reduceAdd, Int.reduceSub, Int.reduceLT, Int.reduceLE, Int.reduceEq, Int.reduceNeg, ↓reduceIte, reduceCtorEq, List.replicate, c23, insV]
  refine call1_of (by rw [hC]; exact codewords_1 w (n + 1) _ _) ?_
  simp (disch := first | omega | assumption | exact bd (by with_unfolding_all rfl) | exact Or.inl rfl | exact Or.inl trivial | exact okL_map _ (fun _ => rfl) _ | (simp only [VVlen] <;> omega) | fail) only [O1, WA, slotsL, opdsA, Nat.reduceEqDiff, Nat.reduceLT, Nat.reduceAdd, Nat.reduceBEq, Int.reduceAdd, Int.reduceSub, Int.reduceLT, Int.reduceLE, Int.reduceEq, Int.reduceNeg, ↓reduceIte, reduceCtorEq, List.replicate, hwo, wordAt, pv_rangeS, hrs]
  refine g_while (fun m fr st => ∃ p r : List UInt8, m = r.length ∧ partsI i.op = p ++ r ∧ lineS i p fr st) (partsI i.op).length ?_ ⟨_, _, ?_, [], _, rfl, rfl, .inl ⟨rfl, rfl, rfl⟩⟩ ?_
  · rw [hrn]; unfold many; omega
  · exact weak_to [(4, 4), (3, 3), (0, 0)] 5 h0 rfl rfl rfl rfl
  rintro m fr st ⟨p, r, rfl, hs, hst⟩
  have hsl : (partsI i.op).length = p.length + r.length := by rw [hs]; simp
  have hne := parts_ne i.op hop.2 hop.1
  cases r with
  | nil =>
    rw [List.append_nil] at hs
    rcases hst with ⟨rfl, rfl, rfl⟩ | ⟨hp0, rfl, rfl⟩
    · exact absurd hs hne
    have hnx := fun ob => next_end (partsI i.op) (by omega) (lineH i p.length ob) 5 4 (by show some (itO ⟨(partsI i.op).toArray⟩ p.length) = _; rw [hs])
    have hol : ((outL i p).map sD).length = p.length + 1 := by simp
    have htx : join 32 (outL i p) = textI i := by unfold textI; rw [hs]
    have hjl := textI_len hv
    have hjs : ∀ st : VSt, aget st.own 3 = some (.gro 9 1 false ((outL i p).map sD)) → VSpecO C.E 46 st [.gr 2 3 (p.length + 1), strV [32]] (strV (textI i)) := fun st h => by
      have h1 : snapL st.own [.gr 2 3 (p.length + 1), strV [32]] = some [strs 2 (outL i p), strV [32]] := by
        have e3 : snapV st.own (.gr 2 3 (p.length + 1)) = some (strs 2 (outL i p)) := by
          have := snap_grD (n := p.length + 1) h hol
          rw [this]
          simp
        show (snapV st.own (.gr 2 3 (p.length + 1))).bind _ = _
        rw [e3]
        rfl
      have hj := (VSpec.ofO (join_s w (n + 1) ⟨[], 0, 0⟩ 2 (by decide) (outL i p) [32] (by simp; omega) (by rw [join_one, htx]; omega)))
      rw [join_one, htx] at hj
      rw [hC]
      exact hj.flat rfl h1
    simp (disch := first | omega | assumption | exact bd (by with_unfolding_all rfl) | exact Or.inl rfl | exact Or.inl trivial | exact okL_map _ (fun _ => rfl) _ | (simp only [VVlen] <;> omega) | fail) only [O1, WA, slotsL, opdsA, Nat.reduceEqDiff, Nat.reduceLT, Nat.reduceAdd, Nat.reduceBEq, Int.reduceAdd, Int.reduceSub, Int.reduceLT, Int.reduceLE, Int.reduceEq, Int.reduceNeg, ↓reduceIte, reduceCtorEq, List.replicate, c23l0, pv_nextS, wv_nextS, hnx]
    refine callV_flat (hjs _ rfl) ?_
    repeat' (first | (simp (disch := first | omega | assumption | exact bd (by with_unfolding_all rfl) | exact Or.inl rfl | exact Or.inl trivial | exact okL_map _ (fun _ => rfl) _ | (simp only [VVlen] <;> omega) | fail) only [O1, WA, slotsL, opdsA, Nat.reduceEqDiff, Nat.reduceLT, Nat.reduceAdd, Nat.reduceBEq, Int.reduceAdd, Int.reduceSub, Int.reduceLT, Int.reduceLE, Int.reduceEq, Int.reduceNeg, ↓reduceIte, reduceCtorEq, List.replicate]) | apply gC_drawW | ((first | apply gI_dec | apply gG_dec | apply gPG_dec | apply gI_var | apply gG_var | apply gPG_var) <;> intro _))
    exact weak_flat rfl h0 rfl
  | cons b r3 =>
    have hmem : b ∈ partsI i.op := by rw [hs]; simp
    have hb := partsI_mem hop.2 b hmem
    have hb128 : b.toNat < 128 := by rcases hb with rfl | rfl | rfl | rfl | rfl <;> decide
    have hnx := fun ob => next_small (partsI i.op) p r3 b hs hb128 (by omega) (lineH i p.length ob) 5 4 rfl
    have hdone : ∀ (x : List UInt8) (fr : VFr) (st : VSt), x = partT i b → Weak C fr st [(1, .ptr 0 0), (4, .gr 2 3 (p.length + 2)), (17, .ptr 4 0)] ⟨lineH i (p.length + 1) (.gro 9 1 false ((outL i p).map sD ++ [sD x])), 5, 0⟩ →
        ∃ m' fr' st', m' < (b :: r3).length ∧ Weak C fr st fr' st' ∧ ∃ p r : List UInt8, m' = r.length ∧ partsI i.op = p ++ r ∧ lineS i p fr' st' := fun x fr st hx hw => by
      subst hx
      refine ⟨r3.length, _, _, by simp, hw, p ++ [b], r3, rfl, by rw [hs]; simp, .inr ⟨by simp, ?_, ?_⟩⟩
      · rw [List.length_append]; rfl
      · rw [List.length_append]
        simp [outL]
    have hi : ∀ st z, -1000000 ≤ z → z ≤ 1000000 → VSpecO C.E 45 st [.sc (.int .i64 z)] (strV (Lib.itoa z)) := fun st z h1 h2 => by rw [hC]; exact itoa_s w (n + 1) st z (by omega) (by omega)
    obtain ⟨hb1, hb2, hb3, hb4, hb5⟩ := hbd
    have hn1 := fun st => (cneedle_p w n i.bed hb1 i.pos (by omega) (by omega)).of hC rfl st rfl
    have hn2 := fun st => (cneedle_p w n (1 - i.bed) (by omega) i.to (by omega) (by omega)).of hC rfl st rfl
    have hwr : IntKind.u8.wrap (1 - (i.bed : Int)) = ((1 - i.bed : Nat) : Int) := by rw [wrap_u8 _ (by omega) (by omega)]; omega
    have d100 : (((100 : UInt8).toNat : Nat) : Int) = 100 := rfl
    have d110 : (((110 : UInt8).toNat : Nat) : Int) = 110 := rfl
    have d111 : (((111 : UInt8).toNat : Nat) : Int) = 111 := rfl
    have d99 : (((99 : UInt8).toNat : Nat) : Int) = 99 := rfl
    have d114 : (((114 : UInt8).toNat : Nat) : Int) = 114 := rfl
    rcases hb with rfl | rfl | rfl | rfl | rfl
    · rcases hst with ⟨rfl, rfl, rfl⟩ | ⟨hp0, rfl, rfl⟩
      all_goals try simp only [List.length_nil] at hnx
      all_goals
        repeat' (first | (simp (disch := first | omega | assumption | exact bd (by with_unfolding_all rfl) | exact Or.inl rfl | exact Or.inl trivial | exact okL_map _ (fun _ => rfl) _ | (simp only [VVlen] <;> omega) | fail) only [O1, WA, slotsL, opdsA, Nat.reduceEqDiff, Nat.reduceLT, Nat.reduceAdd, Nat.reduceBEq, Int.reduceAdd, Int.reduceSub, Int.reduceLT, Int.reduceLE, Int.reduceEq, Int.reduceNeg, ↓reduceIte, reduceCtorEq, List.replicate, c23l0, pv_nextS, wv_nextS, hnx, d100, d110, d111, d99, d114]) | apply gC_drawW | ((first | apply gI_dec | apply gG_dec | apply gPG_dec | apply gI_var | apply gG_var | apply gPG_var) <;> intro _))
      all_goals exact hdone _ _ _ (by rename_i hr; simp [partT, hr]) (weak_to [(4, 4), (6, 3), (0, 0)] 5 h0 rfl rfl rfl rfl)
    · rcases hst with ⟨rfl, rfl, rfl⟩ | ⟨hp0, rfl, rfl⟩
      all_goals try simp only [List.length_nil] at hnx
      all_goals
        repeat' (first | (simp (disch := first | omega | assumption | exact bd (by with_unfolding_all rfl) | exact Or.inl rfl | exact Or.inl trivial | exact okL_map _ (fun _ => rfl) _ | (simp only [VVlen] <;> omega) | fail) only [O1, WA, slotsL, opdsA, Nat.reduceEqDiff, Nat.reduceLT, Nat.reduceAdd, Nat.reduceBEq, Int.reduceAdd, Int.reduceSub, Int.reduceLT, Int.reduceLE, Int.reduceEq, Int.reduceNeg, ↓reduceIte, reduceCtorEq, List.replicate, c23l0, pv_nextS, wv_nextS, hnx, d100, d110, d111, d99, d114]) | apply gC_drawW | ((first | apply gI_dec | apply gG_dec | apply gPG_dec | apply gI_var | apply gG_var | apply gPG_var) <;> intro _))
        refine callV_flat (hn1 _) ?_
        repeat' (first | (simp (disch := first | omega | assumption | exact bd (by with_unfolding_all rfl) | exact Or.inl rfl | exact Or.inl trivial | exact okL_map _ (fun _ => rfl) _ | (simp only [VVlen] <;> omega) | fail) only [O1, WA, slotsL, opdsA, Nat.reduceEqDiff, Nat.reduceLT, Nat.reduceAdd, Nat.reduceBEq, Int.reduceAdd, Int.reduceSub, Int.reduceLT, Int.reduceLE, Int.reduceEq, Int.reduceNeg, ↓reduceIte, reduceCtorEq, List.replicate]) | apply gC_drawW | ((first | apply gI_dec | apply gG_dec | apply gPG_dec | apply gI_var | apply gG_var | apply gPG_var) <;> intro _))
      all_goals exact hdone _ _ _ rfl (weak_to [(4, 4), (6, 3), (0, 0)] 5 h0 rfl rfl rfl rfl)
    · rcases hst with ⟨rfl, rfl, rfl⟩ | ⟨hp0, rfl, rfl⟩
      all_goals try simp only [List.length_nil] at hnx
      all_goals
        repeat' (first | (simp (disch := first | omega | assumption | exact bd (by with_unfolding_all rfl) | exact Or.inl rfl | exact Or.inl trivial | exact okL_map _ (fun _ => rfl) _ | (simp only [VVlen] <;> omega) | fail) only [O1, WA, slotsL, opdsA, Nat.reduceEqDiff, Nat.reduceLT, Nat.reduceAdd, Nat.reduceBEq, Int.reduceAdd, Int.reduceSub, Int.reduceLT, Int.reduceLE, Int.reduceEq, Int.reduceNeg, ↓reduceIte, reduceCtorEq, List.replicate, c23l0, pv_nextS, wv_nextS, hnx, d100, d110, d111, d99, d114, hwr]) | apply gC_drawW | ((first | apply gI_dec | apply gG_dec | apply gPG_dec | apply gI_var | apply gG_var | apply gPG_var) <;> intro _))
        refine callV_flat (hn2 _) ?_
        repeat' (first | (simp (disch := first | omega | assumption | exact bd (by with_unfolding_all rfl) | exact Or.inl rfl | exact Or.inl trivial | exact okL_map _ (fun _ => rfl) _ | (simp only [VVlen] <;> omega) | fail) only [O1, WA, slotsL, opdsA, Nat.reduceEqDiff, Nat.reduceLT, Nat.reduceAdd, Nat.reduceBEq, Int.reduceAdd, Int.reduceSub, Int.reduceLT, Int.reduceLE, Int.reduceEq, Int.reduceNeg, ↓reduceIte, reduceCtorEq, List.replicate]) | apply gC_drawW | ((first | apply gI_dec | apply gG_dec | apply gPG_dec | apply gI_var | apply gG_var | apply gPG_var) <;> intro _))
      all_goals exact hdone _ _ _ rfl (weak_to [(4, 4), (6, 3), (0, 0)] 5 h0 rfl rfl rfl rfl)
    · rcases hst with ⟨rfl, rfl, rfl⟩ | ⟨hp0, rfl, rfl⟩
      all_goals try simp only [List.length_nil] at hnx
      all_goals
        repeat' (first | (simp (disch := first | omega | assumption | exact bd (by with_unfolding_all rfl) | exact Or.inl rfl | exact Or.inl trivial | exact okL_map _ (fun _ => rfl) _ | (simp only [VVlen] <;> omega) | fail) only [O1, WA, slotsL, opdsA, Nat.reduceEqDiff, Nat.reduceLT, Nat.reduceAdd, Nat.reduceBEq, Int.reduceAdd, Int.reduceSub, Int.reduceLT, Int.reduceLE, Int.reduceEq, Int.reduceNeg, ↓reduceIte, reduceCtorEq, List.replicate, c23l0, pv_nextS, wv_nextS, hnx, d100, d110, d111, d99, d114]) | apply gC_drawW | ((first | apply gI_dec | apply gG_dec | apply gPG_dec | apply gI_var | apply gG_var | apply gPG_var) <;> intro _))
        refine callV_flat (hi _ _ (by omega) (by omega)) ?_
        repeat' (first | (simp (disch := first | omega | assumption | exact bd (by with_unfolding_all rfl) | exact Or.inl rfl | exact Or.inl trivial | exact okL_map _ (fun _ => rfl) _ | (simp only [VVlen] <;> omega) | fail) only [O1, WA, slotsL, opdsA, Nat.reduceEqDiff, Nat.reduceLT, Nat.reduceAdd, Nat.reduceBEq, Int.reduceAdd, Int.reduceSub, Int.reduceLT, Int.reduceLE, Int.reduceEq, Int.reduceNeg, ↓reduceIte, reduceCtorEq, List.replicate]) | apply gC_drawW | ((first | apply gI_dec | apply gG_dec | apply gPG_dec | apply gI_var | apply gG_var | apply gPG_var) <;> intro _))
      all_goals exact hdone _ _ _ rfl (weak_to [(4, 4), (6, 3), (0, 0)] 5 h0 rfl rfl rfl rfl)
    · rcases hst with ⟨rfl, rfl, rfl⟩ | ⟨hp0, rfl, rfl⟩
      all_goals try simp only [List.length_nil] at hnx
      all_goals
        repeat' (first | (simp (disch := first | omega | assumption | exact bd (by with_unfolding_all rfl) | exact Or.inl rfl | exact Or.inl trivial | exact okL_map _ (fun _ => rfl) _ | (simp only [VVlen] <;> omega) | fail) only [O1, WA, slotsL, opdsA, Nat.reduceEqDiff, Nat.reduceLT, Nat.reduceAdd, Nat.reduceBEq, Int.reduceAdd, Int.reduceSub, Int.reduceLT, Int.reduceLE, Int.reduceEq, Int.reduceNeg, ↓reduceIte, reduceCtorEq, List.replicate, c23l0, pv_nextS, wv_nextS, hnx, d100, d110, d111, d99, d114]) | apply gC_drawW | ((first | apply gI_dec | apply gG_dec | apply gPG_dec | apply gI_var | apply gG_var | apply gPG_var) <;> intro _))
        refine callV_flat (hi _ _ (by omega) (by omega)) ?_
        repeat' (first | (simp (disch := first | omega | assumption | exact bd (by with_unfolding_all rfl) | exact Or.inl rfl | exact Or.inl trivial | exact okL_map _ (fun _ => rfl) _ | (simp only [VVlen] <;> omega) | fail) only [O1, WA, slotsL, opdsA, Nat.reduceEqDiff, Nat.reduceLT, Nat.reduceAdd, Nat.reduceBEq, Int.reduceAdd, Int.reduceSub, Int.reduceLT, Int.reduceLE, Int.reduceEq, Int.reduceNeg, ↓reduceIte, reduceCtorEq, List.replicate]) | apply gC_drawW | ((first | apply gI_dec | apply gG_dec | apply gPG_dec | apply gI_var | apply gG_var | apply gPG_var) <;> intro _))
      all_goals exact hdone _ _ _ rfl (weak_to [(4, 4), (6, 3), (0, 0)] 5 h0 rfl rfl rfl rfl)
end
set_option maxHeartbeats 20000000
section
variable (w : World) (n : Nat)
end
set_option maxHeartbeats 2000000
noncomputable def lineF (i : Ins) : List UInt8 × Int := if insOK i = true then (textI i, 0) else ([], 8)
section
variable (w : World) (n : Nat)
theorem cLine_p (i : Ins) : VSpec (EN w (n + 4)) 8 [insV i] (.tup [strV (lineF i).1, .sc (.int .i64 (lineF i).2)]) ⟨[], 0, 0⟩ := by
  refine vspec_flat rfl rfl (fun _ _ => rfl) (Nat.le_of_ble_eq_true rfl) (oldVals w) rfl fun C hC h0 => ?_
  have hi := binstr_p w (n + 1) i
  by_cases h : insOK i = true
  · have e : lineF i = (textI i, 0) := if_pos h
    rw [e]
    rw [if_pos h] at hi
    have hl := line_p w n i (insOK_iff.1 h)
    unfold insV at hi hl ⊢
    simp (disch := first | omega | assumption | exact bd (by with_unfolding_all rfl) | exact Or.inl rfl | exact Or.inl trivial | exact okL_map _ (fun _ => rfl) _ | (simp only [VVlen] <;> omega) | fail) only [O1, WA, slotsL, opdsA, Nat.reduceEqDiff, Nat.reduceLT, Nat.reduceAdd, Nat.reduceBEq, Int.reduceAdd, Int.reduceSub, Int.reduceLT, Int.reduceLE, Int.reduceEq, Int.reduceNeg, ↓reduceIte, reduceCtorEq, List.replicate, c8]
    refine callV_flat (by rw [hC]; exact hi.flat rfl rfl) ?_
    simp (disch := first | omega | assumption | exact bd (by with_unfolding_all rfl) | exact Or.inl rfl | exact Or.inl trivial | exact okL_map _ (fun _ => rfl) _ | (simp only [VVlen] <;> omega) | fail) only [O1, WA, slotsL, opdsA, Nat.reduceEqDiff, Nat.reduceLT, Nat.reduceAdd, Nat.reduceBEq, Int.reduceAdd, Int.reduceSub, Int.reduceLT, Int.reduceLE, Int.reduceEq, Int.reduceNeg, ↓reduceIte, reduceCtorEq, List.replicate]
    refine callV_flat (by rw [hC]; exact hl.flat rfl rfl) ?_
    repeat' (first | (simp (disch := first | omega | assumption | exact bd (by with_unfolding_all rfl) | exact Or.inl rfl | exact Or.inl trivial | exact okL_map _ (fun _ => rfl) _ | (simp only [VVlen] <;> omega) | fail) only [O1, WA, slotsL, opdsA, Nat.reduceEqDiff, Nat.reduceLT, Nat.reduceAdd, Nat.reduceBEq, Int.reduceAdd, Int.reduceSub, Int.reduceLT, Int.reduceLE, Int.reduceEq, Int.reduceNeg, ↓reduceIte, reduceCtorEq, List.replicate]) | apply gC_drawW | ((first | apply gI_dec | apply gG_dec | apply gPG_dec | apply gI_var | apply gG_var | apply gPG_var) <;> intro _))
    exact weak_flat rfl h0 rfl
  · have e : lineF i = ([], 8) := if_neg h
    rw [e]
    rw [if_neg h] at hi
    unfold insV at hi ⊢
    simp (disch := first | omega | assumption | exact bd (by with_unfolding_all rfl) | exact Or.inl rfl | exact Or.inl trivial | exact okL_map _ (fun _ => rfl) _ | (simp only [VVlen] <;> omega) | fail) only [O1, WA, slotsL, opdsA, Nat.reduceEqDiff, Nat.reduceLT, Nat.reduceAdd, Nat.reduceBEq, Int.reduceAdd, Int.reduceSub, Int.reduceLT, Int.reduceLE, Int.reduceEq, Int.reduceNeg, ↓reduceIte, reduceCtorEq, List.replicate, c8]
    refine callV_flat (by rw [hC]; exact hi.flat rfl rfl) ?_
    simp (disch := first | omega | assumption | exact bd (by with_unfolding_all rfl) | exact Or.inl rfl | exact Or.inl trivial | exact okL_map _ (fun _ => rfl) _ | (simp only [VVlen] <;> omega) | fail) only [O1, WA, slotsL, opdsA, Nat.reduceEqDiff, Nat.reduceLT, Nat.reduceAdd, Nat.reduceBEq, Int.reduceAdd, Int.reduceSub, Int.reduceLT, Int.reduceLE, Int.reduceEq, Int.reduceNeg, ↓reduceIte, reduceCtorEq, List.replicate]
    exact weak_flat rfl h0 rfl
end
set_option maxHeartbeats 4000000
section
variable (w : World) (n : Nat)
end
set_option maxHeartbeats 2000000
def numA (l : List UInt8) : Option Int := match Lib.atoiAll l with
  | .ok v => some v
  | _ => none
theorem numA_ok {l : List UInt8} {v : Int} (h : numA l = some v) : Lib.atoiAll l = .ok v := by
  unfold numA at h
  split at h
  · rename_i u hu; cases h; exact hu
  · cases h
theorem numA_none {l : List UInt8} (h : numA l = none) (v : Int) : Lib.atoiAll l ≠ .ok v := by
  intro e
  unfold numA at h
  rw [e] at h
  cases h
theorem numA_itoa {z : Int} (h0 : -1000000 ≤ z) (h1 : z ≤ 1000000) : numA (Lib.itoa z) = some z := by
  unfold numA
  rw [atoi_itoa' (by omega) (by omega)]
section
variable (w : World) (n : Nat)
theorem atoi_ex (l : List UInt8) (hl : l.length ≤ 1000000) (hes : (errO Tryd.prog w "strconv.ErrSyntax").isSome = true) (her : (errO Tryd.prog w "strconv.ErrRange").isSome = true) :
    ∃ z : Int, (∀ z0, numA l = some z0 → z = z0) ∧ ((VSpec (EN w (n + 1)) 31 [strV l] (.tup [.sc (.int .i64 z), .sc .nilIface]) ⟨[], 0, 0⟩) ∨ ∃ cs : List Value, VSpec (EN w (n + 1)) 31 [strV l] (.tup [.sc (.int .i64 z), .ifc 99 (.ptr 0 0)]) ⟨[(0, .box 112 1 (cs.map V.sc))], 1, 0⟩) := by
  have hs : (ByteArray.mk l.toArray).size ≤ 281474976710656 := by rw [mk_size]; omega
  cases hu : numA l with
  | some v => exact ⟨v, fun z0 h => Option.some.inj h, .inl (VSpec.ofO (atoi_s w n ⟨[], 0, 0⟩ ⟨l.toArray⟩ v hs (numA_ok hu)))⟩
  | none =>
    obtain ⟨k, cs, sp⟩ := atoi_f w n ⟨l.toArray⟩ hs hes her (numA_none hu)
    exact ⟨k, fun z0 h => (by cases h), .inr ⟨cs, sp⟩⟩
theorem atoi_call {C : Ctx} {st : VSt} {Q : V → VSt → Prop} {l : List UInt8} {z : Int} (hC : C.E = EN w (n + 1)) (hz : (VSpec (EN w (n + 1)) 31 [strV l] (.tup [.sc (.int .i64 z), .sc .nilIface]) ⟨[], 0, 0⟩) ∨ ∃ cs : List Value, VSpec (EN w (n + 1)) 31 [strV l] (.tup [.sc (.int .i64 z), .ifc 99 (.ptr 0 0)]) ⟨[(0, .box 112 1 (cs.map V.sc))], 1, 0⟩)
    (h1 : Q (.tup [.sc (.int .i64 z), .sc .nilIface]) st) (h2 : ∀ (o : Nat) (cs : List V), o = st.next → Q (.tup [.sc (.int .i64 z), .ifc 99 (.ptr o 0)]) ⟨(o, .box 112 1 cs) :: st.own, st.next + 1, st.ro⟩) : CallV C 31 [strV l] st Q := by
  rcases hz with hz | ⟨cs, hz⟩
  · exact callV_fin (by rw [hC]; exact hz) rfl rfl (fun _ => rfl) h1
  · refine callV_of (by rw [hC]; exact hz) rfl rfl rfl ?_
    obtain ⟨H, nx, ro⟩ := st
    have := h2 nx (vshL nx (cs.map V.sc)) rfl
    simp only [vsh, vshL, shH, shO, fzSL, fzS, frozA_none, Nat.add_zero, Nat.zero_add, List.nil_append, List.cons_append] at this ⊢
    exact this
theorem hook_ex (s : List UInt8) (hs : s.length ≤ 1000000) (hes : (errO Tryd.prog w "strconv.ErrSyntax").isSome = true) (her : (errO Tryd.prog w "strconv.ErrRange").isSome = true) :
    ∃ (b : Nat) (z : Int), (VSpec (EN w (n + 4)) 30 [strV s] (.tup [.sc (.int .u8 b), .sc (.int .i64 z)]) ⟨[], 0, 0⟩) ∧ b ≤ 1 ∧ ∀ b0 z0, b0 ≤ 1 → -1000000 ≤ z0 → z0 ≤ 1000000 → s = ndl b0 z0 → b = b0 ∧ z = z0 := by
  by_cases hb : s.head? = some 98
  · obtain ⟨z, hz1, hz2⟩ := atoi_ex w (n + 2) s.tail (by simp; omega) hes her
    refine ⟨1, z, ?_, Nat.le_refl _, fun b0 z0 h1 h2 h3 h4 => ?_⟩
    · refine vspec_flat rfl rfl (fun _ _ => rfl) (Nat.le_of_ble_eq_true rfl) (oldVals w) rfl fun C hC h0 => ?_
      have e : preC 98 s = (s.tail, true) := if_pos hb
      have hp := cutPre_p w n s 98 hs
      rw [e] at hp
      simp (disch := first | omega | assumption | exact bd (by with_unfolding_all rfl) | exact Or.inl rfl | exact Or.inl trivial | exact okL_map _ (fun _ => rfl) _ | (simp only [VVlen] <;> omega) | fail) only [O1, WA, slotsL, opdsA, Nat.reduceEqDiff, Nat.reduceLT, Nat.reduceAdd, Nat.reduceBEq, Int.reduceAdd, Int.reduceSub, Int.reduceLT, Int.reduceLE, Int.reduceEq, Int.reduceNeg, ↓reduceIte, reduceCtorEq, List.replicate, c30]
      refine callV_flat (by rw [hC]; exact hp.flat rfl rfl) ?_
      simp (disch := first | omega | assumption | exact bd (by with_unfolding_all rfl) | exact Or.inl rfl | exact Or.inl trivial | exact okL_map _ (fun _ => rfl) _ | (simp only [VVlen] <;> omega) | fail) only [O1, WA, slotsL, opdsA, Nat.reduceEqDiff, Nat.reduceLT, Nat.reduceAdd, Nat.reduceBEq, Int.reduceAdd, Int.reduceSub, Int.reduceLT, Int.reduceLE, Int.reduceEq, Int.reduceNeg, ↓reduceIte, reduceCtorEq, List.replicate]
      refine atoi_call w (n + 2) hC hz2 ?_ (fun o cs ho => ?_)
      all_goals
        repeat' (first | (simp (disch := first | omega | assumption | exact bd (by with_unfolding_all rfl) | exact Or.inl rfl | exact Or.inl trivial | exact okL_map _ (fun _ => rfl) _ | (simp only [VVlen] <;> omega) | fail) only [O1, WA, slotsL, opdsA, Nat.reduceEqDiff, Nat.reduceLT, Nat.reduceAdd, Nat.reduceBEq, Int.reduceAdd, Int.reduceSub, Int.reduceLT, Int.reduceLE, Int.reduceEq, Int.reduceNeg, ↓reduceIte, reduceCtorEq, List.replicate]) | apply gC_drawW | ((first | apply gI_dec | apply gG_dec | apply gPG_dec | apply gI_var | apply gG_var | apply gPG_var) <;> intro _))
        exact weak_flat rfl h0 rfl
    · subst h4
      rcases (by omega : b0 = 0 ∨ b0 = 1) with rfl | rfl
      · exact absurd hb (by simp [ndl])
      · exact ⟨rfl, hz1 z0 (numA_itoa h2 h3)⟩
  · obtain ⟨z, hz1, hz2⟩ := atoi_ex w (n + 2) (preC 102 s).1 (by unfold preC; split <;> (try simp) <;> omega) hes her
    refine ⟨0, z, ?_, by omega, fun b0 z0 h1 h2 h3 h4 => ?_⟩
    · refine vspec_flat rfl rfl (fun _ _ => rfl) (Nat.le_of_ble_eq_true rfl) (oldVals w) rfl fun C hC h0 => ?_
      have e : preC 98 s = (s, false) := if_neg hb
      have hp := cutPre_p w n s 98 hs
      have ht := trimPre_p w n s 102 hs
      rw [e] at hp
      simp (disch := first | omega | assumption | exact bd (by with_unfolding_all rfl) | exact Or.inl rfl | exact Or.inl trivial | exact okL_map _ (fun _ => rfl) _ | (simp only [VVlen] <;> omega) | fail) only [O1, WA, slotsL, opdsA, Nat.reduceEqDiff, Nat.reduceLT, Nat.reduceAdd, Nat.reduceBEq, Int.reduceAdd, Int.reduceSub, Int.reduceLT, Int.reduceLE, Int.reduceEq, Int.reduceNeg, ↓reduceIte, reduceCtorEq, List.replicate, c30]
      refine callV_flat (by rw [hC]; exact hp.flat rfl rfl) ?_
      simp (disch := first | omega | assumption | exact bd (by with_unfolding_all rfl) | exact Or.inl rfl | exact Or.inl trivial | exact okL_map _ (fun _ => rfl) _ | (simp only [VVlen] <;> omega) | fail) only [O1, WA, slotsL, opdsA, Nat.reduceEqDiff, Nat.reduceLT, Nat.reduceAdd, Nat.reduceBEq, Int.reduceAdd, Int.reduceSub, Int.reduceLT, Int.reduceLE, Int.reduceEq, Int.reduceNeg, ↓reduceIte, reduceCtorEq, List.replicate]
      refine callV_flat (by rw [hC]; exact ht.flat rfl rfl) ?_
      repeat' (first | (simp (disch := first | omega | assumption | exact bd (by with_unfolding_all rfl) | exact Or.inl rfl | exact Or.inl trivial | exact okL_map _ (fun _ => rfl) _ | (simp only [VVlen] <;> omega) | fail) only [O1, WA, slotsL, opdsA, Nat.reduceEqDiff, Nat.reduceLT, Nat.reduceAdd, Nat.reduceBEq, Int.reduceAdd, Int.reduceSub, Int.reduceLT, Int.reduceLE, Int.reduceEq, Int.reduceNeg, ↓reduceIte, reduceCtorEq, List.replicate]) | apply gC_drawW | ((first | apply gI_dec | apply gG_dec | apply gPG_dec | apply gI_var | apply gG_var | apply gPG_var) <;> intro _))
      refine atoi_call w (n + 2) hC hz2 ?_ (fun o cs ho => ?_)
      all_goals
        repeat' (first | (simp (disch := first | omega | assumption | exact bd (by with_unfolding_all rfl) | exact Or.inl rfl | exact Or.inl trivial | exact okL_map _ (fun _ => rfl) _ | (simp only [VVlen] <;> omega) | fail) only [O1, WA, slotsL, opdsA, Nat.reduceEqDiff, Nat.reduceLT, Nat.reduceAdd, Nat.reduceBEq, Int.reduceAdd, Int.reduceSub, Int.reduceLT, Int.reduceLE, Int.reduceEq, Int.reduceNeg, ↓reduceIte, reduceCtorEq, List.replicate]) | apply gC_drawW | ((first | apply gI_dec | apply gG_dec | apply gPG_dec | apply gI_var | apply gG_var | apply gPG_var) <;> intro _))
        exact weak_flat rfl h0 rfl
    · subst h4
      rcases (by omega : b0 = 0 ∨ b0 = 1) with rfl | rfl
      · refine ⟨rfl, hz1 z0 ?_⟩
        have : (preC 102 (ndl 0 z0)).1 = Lib.itoa z0 := by unfold ndl preC; simp
        rw [this]
        exact numA_itoa h2 h3
      · exact absurd rfl hb
end
section
variable (w : World) (n : Nat)
end
section
variable (w : World) (n : Nat)
end
def idxN (nm : List UInt8) : Nat → Int
  | 0 => -1
  | k + 1 => if 0 ≤ idxN nm k then idxN nm k else if nameI k = nm then k else -1
theorem idxN_none {nm : List UInt8} : ∀ k, (∀ j, j < k → nameI j ≠ nm) → idxN nm k = -1
  | 0, _ => rfl
  | k + 1, h => by rw [idxN, idxN_none k (fun j hj => h j (by omega)), if_neg (by omega), if_neg (h k (by omega))]
theorem idxN_at {nm : List UInt8} {i : Nat} (hi : nameI i = nm) (h : ∀ j, j < i → nameI j ≠ nm) : ∀ k, i < k → idxN nm k = i
  | 0, hk => by omega
  | k + 1, hk => by
    rw [idxN]
    by_cases e : i = k
    · subst e; rw [idxN_none i h, if_neg (by omega), if_pos hi]
    · rw [idxN_at hi h k (by omega), if_pos (by omega)]
theorem idxN_range (nm : List UInt8) : ∀ k, -1 ≤ idxN nm k ∧ idxN nm k < k
  | 0 => by simp [idxN]
  | k + 1 => by
    have := idxN_range nm k
    rw [idxN]
    split
    · omega
    · split <;> omega
theorem idxN_name {op : Nat} (h0 : 0 < op) (h1 : op < 10) : idxN (nameI op) 10 = op := idxN_at rfl (fun j hj e => by
    rcases Nat.eq_zero_or_pos j with h | h
    · subst h; exact nameI_ne op h1 h0 e.symm
    · have := nameI_inj j (by omega) op h1 h h0 e
      omega) 10 h1
section
variable (w : World) (n : Nat)
theorem readf_o (st : VSt) (b e : Nat) (nm a c : List UInt8) (hb : aget st.own b = some (.box 9 e [strV nm])) (hn : b ≠ st.next) : VSpecO (EN w (n + 1)) 29 st [.agg [strV a, strV c], .ptr b 0] (.sc (.bool (decide (a = nm)))) := by
  refine vspecO_g rfl rfl (fun _ _ => rfl) (Nat.le_of_ble_eq_true rfl) rfl fun C hC h0 => ⟨⟨(st.next, .box 59 1 [strV a, strV c]) :: st.own, st.next + 1, st.next⟩, ?_⟩
  simp (disch := first | omega | assumption | exact bd (by with_unfolding_all rfl) | exact Or.inl rfl | exact Or.inl trivial | exact okL_map _ (fun _ => rfl) _ | (simp only [VVlen] <;> omega) | fail) only [O1, WA, slotsL, opdsA, Nat.reduceEqDiff, Nat.reduceLT, Nat.reduceAdd, Nat.reduceBEq, Int.reduceAdd, Int.reduceSub, Int.reduceLT, Int.reduceLE, Int.reduceEq, Int.reduceNeg, ↓reduceIte, reduceCtorEq, List.replicate, c29, frozA_none, hn, hb, mk_inj]
  exact .refl _ _
theorem indexFunc_o (st : VSt) (b o e : Nat) (nm : List UInt8) (hb : aget st.own b = some (.box 9 e [strV nm])) (hn : b ≠ st.next) (ho : aget st.own o = some (.row 59 2 false false wordsD)) :
    VSpecO (EN w (n + 2)) 27 st [.ref o 0 10 10, .fn 29 [] [.ptr b 0]] (.sc (.int .i64 (idxN nm 10))) := by
  refine vspecO_g rfl rfl (fun _ _ => rfl) (Nat.le_of_ble_eq_true rfl) rfl fun C hC h0 => ⟨⟨st.own, st.next, st.next⟩, ?_⟩
  simp (disch := first | omega | assumption | exact bd (by with_unfolding_all rfl) | exact Or.inl rfl | exact Or.inl trivial | exact okL_map _ (fun _ => rfl) _ | (simp only [VVlen] <;> omega) | fail) only [O1, WA, slotsL, opdsA, Nat.reduceEqDiff, Nat.reduceLT, Nat.reduceAdd, Nat.reduceBEq, Int.reduceAdd, Int.reduceSub, Int.reduceLT, Int.reduceLE, Int.reduceEq, Int.reduceNeg, ↓reduceIte, reduceCtorEq, List.replicate, c27]
  refine g_while (fun m fr st' => ∃ k : Nat, m = 10 - k ∧ k ≤ 10 ∧ (∀ j, j < k → nameI j ≠ nm) ∧ fr = [(0, .ref o 0 10 10), (1, .fn 29 [] [.ptr b 0]), (7, .sc (.int .i64 ((10 : Nat) : Int))), (8, .sc (.int .i64 k))] ∧ st' = ⟨st.own, st.next, st.next⟩) 10 ?_ ⟨_, _, .refl _ _, 0, rfl, by omega, fun j hj => absurd hj (Nat.not_lt_zero _), rfl, rfl⟩ ?_
  · rw [hC, callP_rounds]; unfold many; omega
  rintro m fr st' ⟨k, rfl, hk, hj, rfl, rfl⟩
  have h10 : ((10 : Nat) : Int) = 10 := rfl
  by_cases hlt : k < 10
  · have hwo := wordsD_at hlt
    have hf := readf_o w n ⟨st.own, st.next, st.next⟩ b e nm (nameI k) (partsI k) hb hn
    by_cases hx : nameI k = nm
    · rw [decide_eq_true hx] at hf
      rw [idxN_at hx hj 10 hlt]
      simp (disch := first | omega | assumption | exact bd (by with_unfolding_all rfl) | exact Or.inl rfl | exact Or.inl trivial | exact okL_map _ (fun _ => rfl) _ | (simp only [VVlen] <;> omega) | fail) only [O1, WA, slotsL, opdsA, Nat.reduceEqDiff, Nat.reduceLT, Nat.reduceAdd, Nat.reduceBEq, Int.reduceAdd, Int.reduceSub, Int.reduceLT, Int.reduceLE, Int.reduceEq, Int.reduceNeg, ↓reduceIte, reduceCtorEq, List.replicate, c27l0, ho, hwo, wordAt, h10]
      all_goals try (exfalso; omega)
      refine callV_flat (by rw [hC]; exact hf) ?_
      simp (disch := first | omega | assumption | exact bd (by with_unfolding_all rfl) | exact Or.inl rfl | exact Or.inl trivial | exact okL_map _ (fun _ => rfl) _ | (simp only [VVlen] <;> omega) | fail) only [O1, WA, slotsL, opdsA, Nat.reduceEqDiff, Nat.reduceLT, Nat.reduceAdd, Nat.reduceBEq, Int.reduceAdd, Int.reduceSub, Int.reduceLT, Int.reduceLE, Int.reduceEq, Int.reduceNeg, ↓reduceIte, reduceCtorEq, List.replicate]
      exact .refl _ _
    · rw [decide_eq_false hx] at hf
      simp (disch := first | omega | assumption | exact bd (by with_unfolding_all rfl) | exact Or.inl rfl | exact Or.inl trivial | exact okL_map _ (fun _ => rfl) _ | (simp only [VVlen] <;> omega) | fail) only [O1, WA, slotsL, opdsA, Nat.reduceEqDiff, Nat.reduceLT, Nat.reduceAdd, Nat.reduceBEq, Int.reduceAdd, Int.reduceSub, Int.reduceLT, Int.reduceLE, Int.reduceEq, Int.reduceNeg, ↓reduceIte, reduceCtorEq, List.replicate, c27l0, ho, hwo, wordAt, h10]
      all_goals try (exfalso; omega)
      refine callV_flat (by rw [hC]; exact hf) ?_
      simp (disch := first | omega | assumption | exact bd (by with_unfolding_all rfl) | exact Or.inl rfl | exact Or.inl trivial | exact okL_map _ (fun _ => rfl) _ | (simp only [VVlen] <;> omega) | fail) only [O1, WA, slotsL, opdsA, Nat.reduceEqDiff, Nat.reduceLT, Nat.reduceAdd, Nat.reduceBEq, Int.reduceAdd, Int.reduceSub, Int.reduceLT, Int.reduceLE, Int.reduceEq, Int.reduceNeg, ↓reduceIte, reduceCtorEq, List.replicate]
      exact ⟨_, _, _, by omega, .refl _ _, k + 1, rfl, hlt, lt_succ_cases hj hx, rfl, rfl⟩
  · have : k = 10 := by omega
    subst this
    rw [idxN_none 10 hj]
    simp (disch := first | omega | assumption | exact bd (by with_unfolding_all rfl) | exact Or.inl rfl | exact Or.inl trivial | exact okL_map _ (fun _ => rfl) _ | (simp only [VVlen] <;> omega) | fail) only [O1, WA, slotsL, opdsA, Nat.reduceEqDiff, Nat.reduceLT, Nat.reduceAdd, Nat.reduceBEq, Int.reduceAdd, Int.reduceSub, Int.reduceLT, Int.reduceLE, Int.reduceEq, Int.reduceNeg, ↓reduceIte, reduceCtorEq, List.replicate, c27l0, h10]
    all_goals try (exfalso; omega)
    exact .refl _ _
end
set_option maxHeartbeats 4000000
theorem wordsD_snd {op : Nat} (h : op < 10) : dload wordsD (op * 2 + 1) none = some (strV (partsI op)) := by
  rcases (by omega : op = 0 ∨ op = 1 ∨ op = 2 ∨ op = 3 ∨ op = 4 ∨ op = 5 ∨ op = 6 ∨ op = 7 ∨ op = 8 ∨ op = 9) with rfl | rfl | rfl | rfl | rfl | rfl | rfl | rfl | rfl | rfl <;> rfl
attribute [local irreducible] wordsD
theorem cutB_len (c : UInt8) (l : List UInt8) : (cutB c l).1.length ≤ l.length ∧ (cutB c l).2.1.length ≤ l.length := by
  unfold cutB
  split
  · constructor <;> simp
    omega
  · exact ⟨Nat.le_refl _, Nat.zero_le _⟩
theorem cutB_app {c : UInt8} {a : List UInt8} (r : List UInt8) (h : c ∉ a) : cutB c (a ++ c :: r) = (a, r, true) := by
  have hi := idxB_app r h
  unfold cutB
  rw [if_pos (by omega), hi]
  simp
theorem cutB_free {c : UInt8} {a : List UInt8} (h : c ∉ a) : cutB c a = (a, [], false) := by
  have hi := idxB_free h
  unfold cutB
  rw [if_neg (by omega)]
theorem cutB_head {i0 : Ins} (h : InsP i0) : (cutB 32 (textI i0)).1 = nameI i0.op ∧ (cutB 32 (textI i0)).2.1 = restT i0 0 := by
  rw [textI_eq h, cutB_app _ (nameI_no _).1]
  exact ⟨rfl, rfl⟩
theorem cutB_rest (i0 : Ins) (k : Nat) (h : k < (partsI i0.op).length) : (cutB 32 (restT i0 k)).1 = partT i0 (partsI i0.op)[k]! ∧ (cutB 32 (restT i0 k)).2.1 = restT i0 (k + 1) := by
  by_cases hk : k + 1 = (partsI i0.op).length
  · obtain ⟨h1, h2⟩ := restT_last i0 k hk
    rw [h1, h2, cutB_free (partT_no _ _).1]
    exact ⟨rfl, rfl⟩
  · rw [restT_more i0 k (by omega), cutB_app _ (partT_no _ _).1]
    exact ⟨rfl, rfl⟩
def resI : Option Ins → V
  | some i => .tup [insV i, .sc (.int .i64 0)]
  | none => .tup [insV ins0, .sc (.int .i64 12)]
section
variable (w : World) (n : Nat)
theorem read_none {C : Ctx} (hC : C.E = EN w (n + 5)) (h0 : C.w0.nx = 0) (s : List UInt8) (hs : s.length ≤ 1000000) (hix : idxN (cutB 32 s).1 10 < 1) : gC C c10.code [] (vargs 0 [strV s]) ⟨[], 0, 0⟩ (RetV C c10.res (resI none) ⟨[], 0, 0⟩) := by
  have hcut := cut_p w n s 32 (by omega)
  have hio : ∀ st : VSt, aget st.own 1 = some (.box 9 1 [strV (cutB 32 s).1]) → 1 ≠ st.next → aget st.own 2 = some (.row 59 2 false false wordsD) → VSpecO (EN w (n + 5)) 27 st [.ref 2 0 10 10, .fn 29 [] [.ptr 1 0]] (.sc (.int .i64 (idxN (cutB 32 s).1 10))) := fun st hb hn ho => indexFunc_o w (n + 3) st 1 2 1 (cutB 32 s).1 hb hn ho
  simp (disch := first | omega | assumption | exact bd (by with_unfolding_all rfl) | exact Or.inl rfl | exact Or.inl trivial | exact okL_map _ (fun _ => rfl) _ | (simp only [VVlen] <;> omega) | fail) only [O1, WA, slotsL, opdsA, Nat.reduceEqDiff, Nat.reduceLT, Nat.reduceAdd, Nat.reduceBEq, Int.reduceAdd, Int.reduceSub, Int.reduceLT, Int.reduceLE, Int.reduceEq, Int.reduceNeg, ↓reduceIte, reduceCtorEq, List.replicate, c10]
  refine callV_flat (by rw [hC]; exact hcut.flat rfl rfl) ?_
  simp (disch := first | omega | assumption | exact bd (by with_unfolding_all rfl) | exact Or.inl rfl | exact Or.inl trivial | exact okL_map _ (fun _ => rfl) _ | (simp only [VVlen] <;> omega) | fail) only [O1, WA, slotsL, opdsA, Nat.reduceEqDiff, Nat.reduceLT, Nat.reduceAdd, Nat.reduceBEq, Int.reduceAdd, Int.reduceSub, Int.reduceLT, Int.reduceLE, Int.reduceEq, Int.reduceNeg, ↓reduceIte, reduceCtorEq, List.replicate]
  refine callV_of (by rw [hC]; exact codewords_p w (n + 4)) rfl rfl rfl ?_
  simp (disch := first | omega | assumption | exact bd (by with_unfolding_all rfl) | exact Or.inl rfl | exact Or.inl trivial | exact okL_map _ (fun _ => rfl) _ | (simp only [VVlen] <;> omega) | fail) only [O1, WA, slotsL, opdsA, Nat.reduceEqDiff, Nat.reduceLT, Nat.reduceAdd, Nat.reduceBEq, Int.reduceAdd, Int.reduceSub, Int.reduceLT, Int.reduceLE, Int.reduceEq, Int.reduceNeg, ↓reduceIte, reduceCtorEq, List.replicate, vsh, vshL, shH, shO, fzSL, fzS]
  refine callV_flat (by rw [hC]; exact hio _ rfl (show (1 : Nat) ≠ 3 from by decide) rfl) ?_
  simp (disch := first | omega | assumption | exact bd (by with_unfolding_all rfl) | exact Or.inl rfl | exact Or.inl trivial | exact okL_map _ (fun _ => rfl) _ | (simp only [VVlen] <;> omega) | fail) only [O1, WA, slotsL, opdsA, Nat.reduceEqDiff, Nat.reduceLT, Nat.reduceAdd, Nat.reduceBEq, Int.reduceAdd, Int.reduceSub, Int.reduceLT, Int.reduceLE, Int.reduceEq, Int.reduceNeg, ↓reduceIte, reduceCtorEq, List.replicate]
  all_goals try (exfalso; omega)
  exact weak_flat rfl h0 rfl
abbrev readH (op : Nat) (k : Nat) (i : Ins) : VHp := [(2, itO ⟨(partsI op).toArray⟩ k), (1, insB' i), (0, insB' ins0)]
abbrev readQ (s : List UInt8) (op k : Nat) (rest : List UInt8) (i : Ins) : Prop := ∀ i0, InsP i0 → s = textI i0 → i0.op = op ∧ rest = restT i0 k ∧ i = partI i0 k
theorem read_loop {C : Ctx} (hC : C.E = EN w (n + 5)) (h0 : C.w0.nx = 0) (hes : (errO Tryd.prog w "strconv.ErrSyntax").isSome = true) (her : (errO Tryd.prog w "strconv.ErrRange").isSome = true) (s : List UInt8) (hs : s.length ≤ 1000000) (op : Nat) (hop : 0 < op) (hop2 : op < 10) {K : List KF} {P : VPost}
    (hgo : ∀ i : Ins, (∀ i0, InsP i0 → s = textI i0 → i = i0) → ∀ rest, gK C K (.exit 0) [(0, strV s), (2, .ptr 0 0), (5, strV rest), (8, .ptr 1 0), (32, .ptr 2 0), (33, .tup [.sc (.bool false)]), (34, .sc (.bool false))] ⟨readH op (partsI op).length i, 3, 0⟩ P)
    {fr0 : VFr} {st0 : VSt} {rest0 : List UInt8} {i1 : Ins} (hr0 : rest0.length ≤ s.length) (hq0 : readQ s op 0 rest0 i1) (hst : Weak C fr0 st0 [(0, strV s), (2, .ptr 0 0), (5, strV rest0), (8, .ptr 1 0), (32, .ptr 2 0)] ⟨readH op 0 i1, 3, 0⟩) :
    gL C [0, 2, 5, 8, 32] c10l0 K fr0 st0 P := by
  have hrn : C.E.rounds = many := by rw [hC, callP_rounds]
  have hpl := partsI_len hop2
  refine g_while (fun m fr st => ∃ (p r rest : List UInt8) (i : Ins), m = r.length ∧ partsI op = p ++ r ∧ rest.length ≤ s.length ∧ readQ s op p.length rest i ∧ fr = [(0, strV s), (2, .ptr 0 0), (5, strV rest), (8, .ptr 1 0), (32, .ptr 2 0)] ∧ st = ⟨readH op p.length i, 3, 0⟩) (partsI op).length ?_ ⟨_, _, hst, [], _, _, _, rfl, rfl, hr0, hq0, rfl, rfl⟩ ?_
  · rw [hrn]; unfold many; omega
  rintro m fr st ⟨p, r, rest, i, rfl, hs1, hrl, hq, rfl, rfl⟩
  have hsl : (partsI op).length = p.length + r.length := by rw [hs1]; simp
  cases r with
  | nil =>
    rw [List.append_nil] at hs1
    have hnx := next_end (partsI op) (by omega) (readH op p.length i) 3 2 (by show some (itO ⟨(partsI op).toArray⟩ p.length) = _; rw [hs1])
    have hgo := hgo i (fun i0 h1 h2 => by
      obtain ⟨a, _, b⟩ := hq i0 h1 h2
      rw [b, ← hs1, ← a]
      exact partI_full h1) rest
    rw [show (partsI op).length = p.length from by rw [hs1]] at hgo
    simp (disch := first | omega | assumption | exact bd (by with_unfolding_all rfl) | exact Or.inl rfl | exact Or.inl trivial | exact okL_map _ (fun _ => rfl) _ | (simp only [VVlen] <;> omega) | fail) only [O1, WA, slotsL, opdsA, Nat.reduceEqDiff, Nat.reduceLT, Nat.reduceAdd, Nat.reduceBEq, Int.reduceAdd, Int.reduceSub, Int.reduceLT, Int.reduceLE, Int.reduceEq, Int.reduceNeg, ↓reduceIte, reduceCtorEq, List.replicate, c10l0, pv_nextS, wv_nextS, hnx]
    exact hgo
  | cons b r3 =>
    have hmem : b ∈ partsI op := by rw [hs1]; simp
    have hb := partsI_mem hop2 b hmem
    have hb128 : b.toNat < 128 := by rcases hb with rfl | rfl | rfl | rfl | rfl <;> decide
    have hnx := next_small (partsI op) p r3 b hs1 hb128 (by omega) (readH op p.length i) 3 2 rfl
    have hat : (partsI op)[p.length]! = b := by rw [hs1]; exact at_mid p r3 b
    have hlt : p.length < (partsI op).length := by rw [hsl]; simp
    have hcut := cut_p w n rest 32 (by omega)
    have hcl := cutB_len 32 rest
    have hqc : ∀ i0, InsP i0 → s = textI i0 → (cutB 32 rest).1 = partT i0 b ∧ (cutB 32 rest).2.1 = restT i0 (p.length + 1) := fun i0 h1 h2 => by
      obtain ⟨a, c, _⟩ := hq i0 h1 h2
      rw [c]
      have := cutB_rest i0 p.length (by rw [a]; exact hlt)
      rw [a, hat] at this
      exact this
    generalize hcu : (cutB 32 rest).1 = wd at *
    generalize hcr : (cutB 32 rest).2.1 = rest' at *
    generalize hcb : (cutB 32 rest).2.2 = fd at *
    have hdone : ∀ (i' : Ins) (fr : VFr) (st : VSt), (∀ i0, InsP i0 → s = textI i0 → i' = setP i0 i b) → Weak C fr st [(0, strV s), (2, .ptr 0 0), (5, strV rest'), (8, .ptr 1 0), (32, .ptr 2 0)] ⟨readH op (p.length + 1) i', 3, 0⟩ →
        ∃ m' fr' st', m' < (b :: r3).length ∧ Weak C fr st fr' st' ∧ ∃ (p r rest : List UInt8) (i : Ins), m' = r.length ∧ partsI op = p ++ r ∧ rest.length ≤ s.length ∧ readQ s op p.length rest i ∧ fr' = [(0, strV s), (2, .ptr 0 0), (5, strV rest), (8, .ptr 1 0), (32, .ptr 2 0)] ∧ st' = ⟨readH op p.length i, 3, 0⟩ := fun i' fr st hi hw => by
      have hpl1 : (p ++ [b]).length = p.length + 1 := by simp
      refine ⟨r3.length, _, _, by simp, hw, p ++ [b], r3, rest', i', rfl, by rw [hs1]; simp, by omega, fun i0 h1 h2 => ?_, rfl, by rw [hpl1]⟩
      obtain ⟨a, c, d⟩ := hq i0 h1 h2
      rw [hpl1]
      refine ⟨a, (hqc i0 h1 h2).2, ?_⟩
      rw [hi i0 h1 h2, d, partI_succ i0 p.length (by rw [a]; exact hlt), a, hat]
    have d100 : (((100 : UInt8).toNat : Nat) : Int) = 100 := rfl
    have d110 : (((110 : UInt8).toNat : Nat) : Int) = 110 := rfl
    have d111 : (((111 : UInt8).toNat : Nat) : Int) = 111 := rfl
    have d99 : (((99 : UInt8).toNat : Nat) : Int) = 99 := rfl
    have d114 : (((114 : UInt8).toNat : Nat) : Int) = 114 := rfl
    have h43 : (⟨#[43]⟩ : ByteArray) = ⟨([43] : List UInt8).toArray⟩ := rfl
    have hwl : wd.length ≤ 1000000 := by omega
    rcases hb with rfl | rfl | rfl | rfl | rfl
    · simp (disch := first | omega | assumption | exact bd (by with_unfolding_all rfl) | exact Or.inl rfl | exact Or.inl trivial | exact okL_map _ (fun _ => rfl) _ | (simp only [VVlen] <;> omega) | fail) only [O1, WA, slotsL, opdsA, Nat.reduceEqDiff, Nat.reduceLT, Nat.reduceAdd, Nat.reduceBEq, Int.reduceAdd, Int.reduceSub, Int.reduceLT, Int.reduceLE, Int.reduceEq, Int.reduceNeg, ↓reduceIte, reduceCtorEq, List.replicate, c10l0, pv_nextS, wv_nextS, hnx, d100, d110, d111, d99, d114]
      refine callV_flat (by rw [hC]; exact hcut.flat rfl rfl) ?_
      simp (disch := first | omega | assumption | exact bd (by with_unfolding_all rfl) | exact Or.inl rfl | exact Or.inl trivial | exact okL_map _ (fun _ => rfl) _ | (simp only [VVlen] <;> omega) | fail) only [O1, WA, slotsL, opdsA, Nat.reduceEqDiff, Nat.reduceLT, Nat.reduceAdd, Nat.reduceBEq, Int.reduceAdd, Int.reduceSub, Int.reduceLT, Int.reduceLE, Int.reduceEq, Int.reduceNeg, ↓reduceIte, reduceCtorEq, List.replicate, d100, d110, d111, d99, d114, h43, mk_inj]
      refine hdone ⟨i.op, decide (wd = [43]), i.bed, i.pos, i.to, i.car, i.rack⟩ _ _ (fun i0 h1 h2 => ?_) (weak_to [(2, 2), (1, 1), (0, 0)] 3 h0 rfl rfl rfl rfl)
      rw [(hqc i0 h1 h2).1]
      unfold setP partT
      simp only [if_true]
      cases i0.right <;> rfl
    · obtain ⟨hb, hz, hk, hble, hprop⟩ := hook_ex w (n + 1) wd hwl hes her
      simp (disch := first | omega | assumption | exact bd (by with_unfolding_all rfl) | exact Or.inl rfl | exact Or.inl trivial | exact okL_map _ (fun _ => rfl) _ | (simp only [VVlen] <;> omega) | fail) only [O1, WA, slotsL, opdsA, Nat.reduceEqDiff, Nat.reduceLT, Nat.reduceAdd, Nat.reduceBEq, Int.reduceAdd, Int.reduceSub, Int.reduceLT, Int.reduceLE, Int.reduceEq, Int.reduceNeg, ↓reduceIte, reduceCtorEq, List.replicate, c10l0, pv_nextS, wv_nextS, hnx, d100, d110, d111, d99, d114]
      refine callV_flat (by rw [hC]; exact hcut.flat rfl rfl) ?_
      simp (disch := first | omega | assumption | exact bd (by with_unfolding_all rfl) | exact Or.inl rfl | exact Or.inl trivial | exact okL_map _ (fun _ => rfl) _ | (simp only [VVlen] <;> omega) | fail) only [O1, WA, slotsL, opdsA, Nat.reduceEqDiff, Nat.reduceLT, Nat.reduceAdd, Nat.reduceBEq, Int.reduceAdd, Int.reduceSub, Int.reduceLT, Int.reduceLE, Int.reduceEq, Int.reduceNeg, ↓reduceIte, reduceCtorEq, List.replicate, d100, d110, d111, d99, d114, h43, mk_inj]
      refine callV_flat (by rw [hC]; exact hk.flat rfl rfl) ?_
      simp (disch := first | omega | assumption | exact bd (by with_unfolding_all rfl) | exact Or.inl rfl | exact Or.inl trivial | exact okL_map _ (fun _ => rfl) _ | (simp only [VVlen] <;> omega) | fail) only [O1, WA, slotsL, opdsA, Nat.reduceEqDiff, Nat.reduceLT, Nat.reduceAdd, Nat.reduceBEq, Int.reduceAdd, Int.reduceSub, Int.reduceLT, Int.reduceLE, Int.reduceEq, Int.reduceNeg, ↓reduceIte, reduceCtorEq, List.replicate]
      refine hdone ⟨i.op, i.right, hb, hz, i.to, i.car, i.rack⟩ _ _ (fun i0 h1 h2 => ?_) (weak_to [(2, 2), (1, 1), (0, 0)] 3 h0 rfl rfl rfl rfl)
      have hbd := h1.bounds
      unfold ndOK at hbd
      obtain ⟨e1, e2⟩ := hprop i0.bed i0.pos hbd.1 (by omega) (by omega) (hqc i0 h1 h2).1
      rw [e1, e2]
      rfl
    · obtain ⟨hb, hz, hk, hble, hprop⟩ := hook_ex w (n + 1) wd hwl hes her
      simp (disch := first | omega | assumption | exact bd (by with_unfolding_all rfl) | exact Or.inl rfl | exact Or.inl trivial | exact okL_map _ (fun _ => rfl) _ | (simp only [VVlen] <;> omega) | fail) only [O1, WA, slotsL, opdsA, Nat.reduceEqDiff, Nat.reduceLT, Nat.reduceAdd, Nat.reduceBEq, Int.reduceAdd, Int.reduceSub, Int.reduceLT, Int.reduceLE, Int.reduceEq, Int.reduceNeg, ↓reduceIte, reduceCtorEq, List.replicate, c10l0, pv_nextS, wv_nextS, hnx, d100, d110, d111, d99, d114]
      refine callV_flat (by rw [hC]; exact hcut.flat rfl rfl) ?_
      simp (disch := first | omega | assumption | exact bd (by with_unfolding_all rfl) | exact Or.inl rfl | exact Or.inl trivial | exact okL_map _ (fun _ => rfl) _ | (simp only [VVlen] <;> omega) | fail) only [O1, WA, slotsL, opdsA, Nat.reduceEqDiff, Nat.reduceLT, Nat.reduceAdd, Nat.reduceBEq, Int.reduceAdd, Int.reduceSub, Int.reduceLT, Int.reduceLE, Int.reduceEq, Int.reduceNeg, ↓reduceIte, reduceCtorEq, List.replicate, d100, d110, d111, d99, d114, h43, mk_inj]
      refine callV_flat (by rw [hC]; exact hk.flat rfl rfl) ?_
      simp (disch := first | omega | assumption | exact bd (by with_unfolding_all rfl) | exact Or.inl rfl | exact Or.inl trivial | exact okL_map _ (fun _ => rfl) _ | (simp only [VVlen] <;> omega) | fail) only [O1, WA, slotsL, opdsA, Nat.reduceEqDiff, Nat.reduceLT, Nat.reduceAdd, Nat.reduceBEq, Int.reduceAdd, Int.reduceSub, Int.reduceLT, Int.reduceLE, Int.reduceEq, Int.reduceNeg, ↓reduceIte, reduceCtorEq, List.replicate]
      refine hdone ⟨i.op, i.right, i.bed, i.pos, hz, i.car, i.rack⟩ _ _ (fun i0 h1 h2 => ?_) (weak_to [(2, 2), (1, 1), (0, 0)] 3 h0 rfl rfl rfl rfl)
      have hbd := h1.bounds
      unfold ndOK at hbd
      obtain ⟨e1, e2⟩ := hprop (1 - i0.bed) i0.to (by omega) (by omega) (by omega) (hqc i0 h1 h2).1
      rw [e2]
      rfl
    · obtain ⟨hz, hprop, hk⟩ := atoi_ex w (n + 4) wd hwl hes her
      simp (disch := first | omega | assumption | exact bd (by with_unfolding_all rfl) | exact Or.inl rfl | exact Or.inl trivial | exact okL_map _ (fun _ => rfl) _ | (simp only [VVlen] <;> omega) | fail) only [O1, WA, slotsL, opdsA, Nat.reduceEqDiff, Nat.reduceLT, Nat.reduceAdd, Nat.reduceBEq, Int.reduceAdd, Int.reduceSub, Int.reduceLT, Int.reduceLE, Int.reduceEq, Int.reduceNeg, ↓reduceIte, reduceCtorEq, List.replicate, c10l0, pv_nextS, wv_nextS, hnx, d100, d110, d111, d99, d114]
      refine callV_flat (by rw [hC]; exact hcut.flat rfl rfl) ?_
      simp (disch := first | omega | assumption | exact bd (by with_unfolding_all rfl) | exact Or.inl rfl | exact Or.inl trivial | exact okL_map _ (fun _ => rfl) _ | (simp only [VVlen] <;> omega) | fail) only [O1, WA, slotsL, opdsA, Nat.reduceEqDiff, Nat.reduceLT, Nat.reduceAdd, Nat.reduceBEq, Int.reduceAdd, Int.reduceSub, Int.reduceLT, Int.reduceLE, Int.reduceEq, Int.reduceNeg, ↓reduceIte, reduceCtorEq, List.replicate, d100, d110, d111, d99, d114, h43, mk_inj]
      refine atoi_call w (n + 4) hC hk ?_ (fun o cs ho => ?_)
      all_goals
        try subst ho
        repeat' (first | (simp (disch := first | omega | assumption | exact bd (by with_unfolding_all rfl) | exact Or.inl rfl | exact Or.inl trivial | exact okL_map _ (fun _ => rfl) _ | (simp only [VVlen] <;> omega) | fail) only [O1, WA, slotsL, opdsA, Nat.reduceEqDiff, Nat.reduceLT, Nat.reduceAdd, Nat.reduceBEq, Int.reduceAdd, Int.reduceSub, Int.reduceLT, Int.reduceLE, Int.reduceEq, Int.reduceNeg, ↓reduceIte, reduceCtorEq, List.replicate]) | apply gC_drawW | ((first | apply gI_dec | apply gG_dec | apply gPG_dec | apply gI_var | apply gG_var | apply gPG_var) <;> intro _))
        refine hdone ⟨i.op, i.right, i.bed, i.pos, i.to, hz, i.rack⟩ _ _ (fun i0 h1 h2 => ?_) (weak_to [(2, 2), (1, 1), (0, 0)] 3 h0 rfl rfl rfl rfl)
        have hbd := h1.bounds
        have e1 := hprop i0.car (by rw [(hqc i0 h1 h2).1]; exact numA_itoa (by omega) (by omega))
        rw [e1]
        rfl
    · obtain ⟨hz, hprop, hk⟩ := atoi_ex w (n + 4) wd hwl hes her
      simp (disch := first | omega | assumption | exact bd (by with_unfolding_all rfl) | exact Or.inl rfl | exact Or.inl trivial | exact okL_map _ (fun _ => rfl) _ | (simp only [VVlen] <;> omega) | fail) only [O1, WA, slotsL, opdsA, Nat.reduceEqDiff, Nat.reduceLT, Nat.reduceAdd, Nat.reduceBEq, Int.reduceAdd, Int.reduceSub, Int.reduceLT, Int.reduceLE, Int.reduceEq, Int.reduceNeg, ↓reduceIte, reduceCtorEq, List.replicate, c10l0, pv_nextS, wv_nextS, hnx, d100, d110, d111, d99, d114]
      refine callV_flat (by rw [hC]; exact hcut.flat rfl rfl) ?_
      simp (disch := first | omega | assumption | exact bd (by with_unfolding_all rfl) | exact Or.inl rfl | exact Or.inl trivial | exact okL_map _ (fun _ => rfl) _ | (simp only [VVlen] <;> omega) | fail) only [O1, WA, slotsL, opdsA, Nat.reduceEqDiff, Nat.reduceLT, Nat.reduceAdd, Nat.reduceBEq, Int.reduceAdd, Int.reduceSub, Int.reduceLT, Int.reduceLE, Int.reduceEq, Int.reduceNeg, ↓reduceIte, reduceCtorEq, List.replicate, d100, d110, d111, d99, d114, h43, mk_inj]
      refine atoi_call w (n + 4) hC hk ?_ (fun o cs ho => ?_)
      all_goals
        try subst ho
        repeat' (first | (simp (disch := first | omega | assumption | exact bd (by with_unfolding_all rfl) | exact Or.inl rfl | exact Or.inl trivial | exact okL_map _ (fun _ => rfl) _ | (simp only [VVlen] <;> omega) | fail) only [O1, WA, slotsL, opdsA, Nat.reduceEqDiff, Nat.reduceLT, Nat.reduceAdd, Nat.reduceBEq, Int.reduceAdd, Int.reduceSub, Int.reduceLT, Int.reduceLE, Int.reduceEq, Int.reduceNeg, ↓reduceIte, reduceCtorEq, List.replicate]) | apply gC_drawW | ((first | apply gI_dec | apply gG_dec | apply gPG_dec | apply gI_var | apply gG_var | apply gPG_var) <;> intro _))
        refine hdone ⟨i.op, i.right, i.bed, i.pos, i.to, i.car, hz⟩ _ _ (fun i0 h1 h2 => ?_) (weak_to [(2, 2), (1, 1), (0, 0)] 3 h0 rfl rfl rfl rfl)
        have hbd := h1.bounds
        have e1 := hprop i0.rack (by rw [(hqc i0 h1 h2).1]; exact numA_itoa (by omega) (by omega))
        rw [e1]
        rfl
theorem readO_none {s : List UInt8} (h : ∀ i, InsP i → textI i ≠ s) : readO s = none := (accI_eq (r := none) h).symm
theorem idxN_of {s : List UInt8} {i0 : Ins} (h : InsP i0) (hs : s = textI i0) : idxN (cutB 32 s).1 10 = i0.op := by
  rw [hs, (cutB_head h).1]
  exact idxN_name h.op_lt.1 h.op_lt.2
theorem read_p (hes : (errO Tryd.prog w "strconv.ErrSyntax").isSome = true) (her : (errO Tryd.prog w "strconv.ErrRange").isSome = true) (s : List UInt8) (hs : s.length ≤ 1000000) : VSpec (EN w (n + 6)) 10 [strV s] (resI (readO s)) ⟨[], 0, 0⟩ := by
  refine vspec_flat rfl rfl (fun _ _ => rfl) (Nat.le_of_ble_eq_true rfl) (oldVals w) (by cases readO s <;> rfl) fun C hC h0 => ?_
  by_cases hix1 : idxN (cutB 32 s).1 10 < 1
  · rw [readO_none fun i0 h1 h2 => by
      have := idxN_of h1 h2.symm
      have := h1.op_lt
      omega]
    exact read_none w n hC h0 s hs hix1
  obtain ⟨op, hix⟩ : ∃ op : Nat, idxN (cutB 32 s).1 10 = op := ⟨(idxN (cutB 32 s).1 10).toNat, by omega⟩
  have hrg := idxN_range (cutB 32 s).1 10
  have hop : 0 < op := by omega
  have hop2 : op < 10 := by omega
  have hcut := cut_p w n s 32 (by omega)
  have hio : ∀ st : VSt, aget st.own 1 = some (.box 9 1 [strV (cutB 32 s).1]) → 1 ≠ st.next → aget st.own 2 = some (.row 59 2 false false wordsD) → VSpecO (EN w (n + 5)) 27 st [.ref 2 0 10 10, .fn 29 [] [.ptr 1 0]] (.sc (.int .i64 op)) := fun st hb hn ho => by
    rw [← hix]; exact indexFunc_o w (n + 3) st 1 2 1 (cutB 32 s).1 hb hn ho
  have hrs := fun nx => rangeSV_str nx ⟨(partsI op).toArray⟩ (by have := partsI_len hop2; rw [mk_size]; omega)
  have hwu : IntKind.u8.wrap (op : Int) = op := wrap_u8 _ (by omega) (by omega)
  have hwo := wordsD_snd hop2
  have hcl := cutB_len 32 s
  simp (disch := first | omega | assumption | exact bd (by with_unfolding_all rfl) | exact Or.inl rfl | exact Or.inl trivial | exact okL_map _ (fun _ => rfl) _ | (simp only [VVlen] <;> omega) | fail) only [O1, WA, slotsL, opdsA, Nat.reduceEqDiff, Nat.reduceLT, Nat.reduceAdd, Nat.reduceBEq, Int.reduceAdd, Int.reduceSub, Int.reduceLT, Int.reduceLE, Int.reduceEq, Int.reduceNeg, ↓reduceIte, reduceCtorEq, List.replicate, c10]
  refine callV_flat (by rw [hC]; exact hcut.flat rfl rfl) ?_
  simp (disch := first | omega | assumption | exact bd (by with_unfolding_all rfl) | exact Or.inl rfl | exact Or.inl trivial | exact okL_map _ (fun _ => rfl) _ | (simp only [VVlen] <;> omega) | fail) only [O1, WA, slotsL, opdsA, Nat.reduceEqDiff, Nat.reduceLT, Nat.reduceAdd, Nat.reduceBEq, Int.reduceAdd, Int.reduceSub, Int.reduceLT, Int.reduceLE, Int.reduceEq, Int.reduceNeg, ↓reduceIte, reduceCtorEq, List.replicate]
  refine callV_of (by rw [hC]; exact codewords_p w (n + 4)) rfl rfl rfl ?_
  simp (disch := first | omega | assumption | exact bd (by with_unfolding_all rfl) | exact Or.inl rfl | exact Or.inl trivial | exact okL_map _ (fun _ => rfl) _ | (simp only [VVlen] <;> omega) | fail) only [O1, WA, slotsL, opdsA, Nat.reduceEqDiff, Nat.reduceLT, Nat.reduceAdd, Nat.reduceBEq, Int.reduceAdd, Int.reduceSub, Int.reduceLT, Int.reduceLE, Int.reduceEq, Int.reduceNeg, ↓reduceIte, reduceCtorEq, List.replicate, vsh, vshL, shH, shO, fzSL, fzS]
  refine callV_flat (by rw [hC]; exact hio _ rfl (show (1 : Nat) ≠ 3 from by decide) rfl) ?_
  simp (disch := first | omega | assumption | exact bd (by with_unfolding_all rfl) | exact Or.inl rfl | exact Or.inl trivial | exact okL_map _ (fun _ => rfl) _ | (simp only [VVlen] <;> omega) | fail) only [O1, WA, slotsL, opdsA, Nat.reduceEqDiff, Nat.reduceLT, Nat.reduceAdd, Nat.reduceBEq, Int.reduceAdd, Int.reduceSub, Int.reduceLT, Int.reduceLE, Int.reduceEq, Int.reduceNeg, ↓reduceIte, reduceCtorEq, List.replicate, hwu]
  all_goals try (exfalso; omega)
  refine callV_of (by rw [hC]; exact codewords_p w (n + 4)) rfl rfl rfl ?_
  simp (disch := first | omega | assumption | exact bd (by with_unfolding_all rfl) | exact Or.inl rfl | exact Or.inl trivial | exact okL_map _ (fun _ => rfl) _ | (simp only [VVlen] <;> omega) | fail) only [O1, WA, slotsL, opdsA, Nat.reduceEqDiff, Nat.reduceLT, Nat.reduceAdd, Nat.reduceBEq, Int.reduceAdd, Int.reduceSub, Int.reduceLT, Int.reduceLE, Int.reduceEq, Int.reduceNeg, ↓reduceIte, reduceCtorEq, List.replicate, vsh, vshL, shH, shO, fzSL, fzS, hwo, pv_rangeS, hrs]
  refine read_loop w n hC h0 hes her s hs op hop hop2 (fun i hi rest => ?_) (i1 := ⟨op, false, 0, 0, 0, 0, 0⟩) hcl.2 (fun i0 h1 h2 => ?_) (weak_to [(5, 2), (3, 1), (0, 0)] 3 h0 rfl rfl rfl rfl)
  · have hbi := binstr_p w (n + 3) i
    by_cases hv : insOK i = true
    · have hl := line_p w (n + 2) i (insOK_iff.1 hv)
      rw [if_pos hv] at hbi
      unfold insV at hbi hl
      by_cases ht : textI i = s
      · have hr : readO s = some i := by rw [← ht]; exact readO_text (insOK_iff.1 hv)
        rw [hr]
        simp (disch := first | omega | assumption | exact bd (by with_unfolding_all rfl) | exact Or.inl rfl | exact Or.inl trivial | exact okL_map _ (fun _ => rfl) _ | (simp only [VVlen] <;> omega) | fail) only [O1, WA, slotsL, opdsA, Nat.reduceEqDiff, Nat.reduceLT, Nat.reduceAdd, Nat.reduceBEq, Int.reduceAdd, Int.reduceSub, Int.reduceLT, Int.reduceLE, Int.reduceEq, Int.reduceNeg, ↓reduceIte, reduceCtorEq, List.replicate]
        refine callV_flat (by rw [hC]; exact hbi.flat rfl rfl) ?_
        simp (disch := first | omega | assumption | exact bd (by with_unfolding_all rfl) | exact Or.inl rfl | exact Or.inl trivial | exact okL_map _ (fun _ => rfl) _ | (simp only [VVlen] <;> omega) | fail) only [O1, WA, slotsL, opdsA, Nat.reduceEqDiff, Nat.reduceLT, Nat.reduceAdd, Nat.reduceBEq, Int.reduceAdd, Int.reduceSub, Int.reduceLT, Int.reduceLE, Int.reduceEq, Int.reduceNeg, ↓reduceIte, reduceCtorEq, List.replicate]
        refine callV_flat (by rw [hC]; exact hl.flat rfl rfl) ?_
        simp (disch := first | omega | assumption | exact bd (by with_unfolding_all rfl) | exact Or.inl rfl | exact Or.inl trivial | exact okL_map _ (fun _ => rfl) _ | (simp only [VVlen] <;> omega) | fail) only [O1, WA, slotsL, opdsA, Nat.reduceEqDiff, Nat.reduceLT, Nat.reduceAdd, Nat.reduceBEq, Int.reduceAdd, Int.reduceSub, Int.reduceLT, Int.reduceLE, Int.reduceEq, Int.reduceNeg, ↓reduceIte, reduceCtorEq, List.replicate, ht]
        exact weak_flat rfl h0 rfl
      · rw [readO_none fun i0 h1 h2 => ht (by rw [hi i0 h1 h2.symm]; exact h2)]
        simp (disch := first | omega | assumption | exact bd (by with_unfolding_all rfl) | exact Or.inl rfl | exact Or.inl trivial | exact okL_map _ (fun _ => rfl) _ | (simp only [VVlen] <;> omega) | fail) only [O1, WA, slotsL, opdsA, Nat.reduceEqDiff, Nat.reduceLT, Nat.reduceAdd, Nat.reduceBEq, Int.reduceAdd, Int.reduceSub, Int.reduceLT, Int.reduceLE, Int.reduceEq, Int.reduceNeg, ↓reduceIte, reduceCtorEq, List.replicate]
        refine callV_flat (by rw [hC]; exact hbi.flat rfl rfl) ?_
        simp (disch := first | omega | assumption | exact bd (by with_unfolding_all rfl) | exact Or.inl rfl | exact Or.inl trivial | exact okL_map _ (fun _ => rfl) _ | (simp only [VVlen] <;> omega) | fail) only [O1, WA, slotsL, opdsA, Nat.reduceEqDiff, Nat.reduceLT, Nat.reduceAdd, Nat.reduceBEq, Int.reduceAdd, Int.reduceSub, Int.reduceLT, Int.reduceLE, Int.reduceEq, Int.reduceNeg, ↓reduceIte, reduceCtorEq, List.replicate]
        refine callV_flat (by rw [hC]; exact hl.flat rfl rfl) ?_
        simp (disch := first | omega | assumption | exact bd (by with_unfolding_all rfl) | exact Or.inl rfl | exact Or.inl trivial | exact okL_map _ (fun _ => rfl) _ | (simp only [VVlen] <;> omega) | fail) only [O1, WA, slotsL, opdsA, Nat.reduceEqDiff, Nat.reduceLT, Nat.reduceAdd, Nat.reduceBEq, Int.reduceAdd, Int.reduceSub, Int.reduceLT, Int.reduceLE, Int.reduceEq, Int.reduceNeg, ↓reduceIte, reduceCtorEq, List.replicate, ht, mk_inj]
        exact weak_flat rfl h0 rfl
    · rw [readO_none fun i0 h1 h2 => hv (by rw [hi i0 h1 h2.symm]; exact insOK_iff.2 h1)]
      rw [if_neg hv] at hbi
      unfold insV at hbi
      simp (disch := first | omega | assumption | exact bd (by with_unfolding_all rfl) | exact Or.inl rfl | exact Or.inl trivial | exact okL_map _ (fun _ => rfl) _ | (simp only [VVlen] <;> omega) | fail) only [O1, WA, slotsL, opdsA, Nat.reduceEqDiff, Nat.reduceLT, Nat.reduceAdd, Nat.reduceBEq, Int.reduceAdd, Int.reduceSub, Int.reduceLT, Int.reduceLE, Int.reduceEq, Int.reduceNeg, ↓reduceIte, reduceCtorEq, List.replicate]
      refine callV_flat (by rw [hC]; exact hbi.flat rfl rfl) ?_
      simp (disch := first | omega | assumption | exact bd (by with_unfolding_all rfl) | exact Or.inl rfl | exact Or.inl trivial | exact okL_map _ (fun _ => rfl) _ | (simp only [VVlen] <;> omega) | fail) only [O1, WA, slotsL, opdsA, Nat.reduceEqDiff, Nat.reduceLT, Nat.reduceAdd, Nat.reduceBEq, Int.reduceAdd, Int.reduceSub, Int.reduceLT, Int.reduceLE, Int.reduceEq, Int.reduceNeg, ↓reduceIte, reduceCtorEq, List.replicate]
      exact weak_flat rfl h0 rfl
  · have h3 := idxN_of h1 h2
    have h4 : i0.op = op := by omega
    refine ⟨h4, ?_, ?_⟩
    · rw [h2]; exact (cutB_head h1).2
    · rw [partI_zero, h4]
end
end Go.Proofs.YtbefpfbidgfipaaDoor
namespace Go.Proofs.YtbefpfbidgfipaaDoor
open Go Go.Itp
set_option maxRecDepth 100000
set_option maxHeartbeats 2000000
set_option linter.unusedSimpArgs false
set_option linter.unusedVariables false
section
variable (w : World) (n : Nat)
end
set_option maxHeartbeats 4000000
theorem itoa_len4 {z : Int} (h0 : -1000 < z) (h1 : z < 1000) : (Lib.itoa z).length ≤ 4 := by
  have hd := decDigits_len 2 z.natAbs (by simpa using (by omega : z.natAbs < 1000))
  rcases Int.lt_or_le z 0 with h | h
  · have e : Lib.itoa z = 45 :: Lib.decDigits z.natAbs := by unfold Lib.itoa; rw [if_pos h]
    rw [e]; simp; omega
  · obtain ⟨u, rfl⟩ := Int.eq_ofNat_of_zero_le h
    rw [Lib.itoa_nonneg]
    simp only [Int.natAbs_natCast] at hd
    omega
theorem nameI_len5 : ∀ op, op < 10 → (nameI op).length ≤ 5 := by decide
theorem textI_len40 {i : Ins} (h : InsP i) : (textI i).length ≤ 40 := by
  have hb := h.bounds
  have h1 : ∀ z : Int, -101 ≤ z ∧ z ≤ 101 → (Lib.itoa z).length ≤ 4 := fun z hz => itoa_len4 (by omega) (by omega)
  have h2 : ∀ w ∈ nameI i.op :: (partsI i.op).map (partT i), w.length ≤ 5 := fun w hw => by
    rcases List.mem_cons.1 hw with rfl | hw
    · exact nameI_len5 i.op h.op_lt.2
    · obtain ⟨c, _, rfl⟩ := List.mem_map.1 hw
      unfold partT
      split
      · split <;> simp
      split
      · have := h1 i.pos (by unfold ndOK at hb; omega); unfold ndl; simp; omega
      split
      · have := h1 i.to (by unfold ndOK at hb; omega); unfold ndl; simp; omega
      split
      · have := h1 i.car (by omega); omega
      · have := h1 i.rack (by omega); omega
  have h3 := join_len 32 5 _ h2
  have h4 := partsI_len h.op_lt.2
  have h5 : (nameI i.op :: (partsI i.op).map (partT i)).length ≤ 5 := by rw [List.length_cons, List.length_map]; omega
  unfold textI
  have := Nat.mul_le_mul_right 6 h5
  omega
section
variable (w : World) (n : Nat)
end
section
variable (w : World) (n : Nat)
end

instance : Inhabited Ins := ⟨ins0⟩
def insD (L : List Ins) : List D := L.flatMap fun a => (insC a).map D.sc
theorem insD_len (L : List Ins) : (insD L).length = L.length * 7 := by
  induction L with
  | nil => rfl
  | cons p L ih =>
    have e : insD (p :: L) = (insC p).map D.sc ++ insD L := by simp [insD]
    rw [e, List.length_append, ih]; simp [insC]; omega
theorem insD_agg (L : List Ins) (k : Nat) (hk : k < L.length) : dload (insD L) (k * 7) (some 7) = some (insV L[k]!) := by
  have := dload_flat (fun p : Ins => (insC p).map D.sc) 7 L (fun _ => rfl) (by decide) k hk
  unfold insD
  rw [this]
  rfl
def tx (L : List Ins) : List UInt8 := (L.map fun i => textI i ++ [10]).flatten
noncomputable def textsF (L : List Ins) : List UInt8 × Int := if 2000 < L.length then ([], 4) else if L.all insOK = true then (if 40000 < (tx L).length then ([], 4) else (tx L, 0)) else ([], 8)
theorem tx_take (L : List Ins) (k : Nat) (hk : k < L.length) : tx (L.take (k + 1)) = tx (L.take k) ++ (textI L[k]! ++ [10]) := by
  unfold tx
  rw [List.take_succ_eq_append_getElem hk, List.map_append, List.flatten_append, getElem!_pos _ k hk]
  simp
theorem all_take {L : List Ins} {k : Nat} (hk : k < L.length) (h : (L.take k).all insOK = true) (h2 : insOK L[k]! = true) : (L.take (k + 1)).all insOK = true := by
  rw [List.take_succ_eq_append_getElem hk, List.all_append, h]
  rw [getElem!_pos _ k hk] at h2
  simp [h2]
theorem all_bad {L : List Ins} {k : Nat} (hk : k < L.length) (h2 : insOK L[k]! = false) : ¬ L.all insOK = true := fun h => by
  rw [getElem!_pos _ k hk] at h2
  have := List.all_eq_true.1 h _ (List.getElem_mem hk)
  rw [this] at h2; cases h2
theorem tx_len {L : List Ins} (h : L.all insOK = true) : (tx L).length ≤ L.length * 41 := by
  induction L with
  | nil => simp [tx]
  | cons i L ih =>
    have e : tx (i :: L) = textI i ++ [10] ++ tx L := by simp [tx]
    simp only [List.all_cons, Bool.and_eq_true] at h
    have h1 := textI_len40 (insOK_iff.1 h.1)
    have h2 := ih h.2
    rw [e, List.length_append, List.length_append, List.length_cons]
    simp
    omega
section
variable (w : World) (n : Nat)
theorem ctext_p (s : Nat) (L : List Ins) (hL : L.length ≤ 140737488351232) : VSpec (EN w (n + 5)) 13 [.sl s L.length (insD L)] (.tup [strV (textsF L).1, .sc (.int .i64 (textsF L).2)]) ⟨[], 0, 0⟩ := by
  refine vspec_flat rfl rfl (fun _ _ => rfl) (Nat.le_of_ble_eq_true rfl) (oldVals w) rfl fun C hC h0 => ?_
  have hrn : C.E.rounds = many := by rw [hC, callP_rounds]
  have hil := insD_len L
  have nb : ∀ a b : Nat, Nat.beq a b = false → a ≠ b := fun a b => Nat.ne_of_beq_eq_false
  unfold textsF
  by_cases h2 : 2000 < L.length
  · rw [if_pos h2]
    simp (disch := first | omega | assumption | exact bd (by with_unfolding_all rfl) | exact Or.inl rfl | exact Or.inl trivial | exact okL_map _ (fun _ => rfl) _ | (simp only [VVlen] <;> omega) | fail) only [O1, WA, slotsL, opdsA, Nat.reduceEqDiff, Nat.reduceLT, Nat.reduceAdd, Nat.reduceBEq, Int.reduceAdd, Int.reduceSub, Int.reduceLT, Int.reduceLE, Int.reduceEq, Int.reduceNeg, ↓reduceIte, reduceCtorEq, List.replicate, c13]
    all_goals try (exfalso; omega)
    exact weak_flat rfl h0 rfl
  rw [if_neg h2]
  simp (disch := first | omega | assumption | exact bd (by with_unfolding_all rfl) | exact Or.inl rfl | exact Or.inl trivial | exact okL_map _ (fun _ => rfl) _ | (simp only [VVlen] <;> omega) | fail) only [O1, WA, slotsL, opdsA, Nat.reduceEqDiff, Nat.reduceLT, Nat.reduceAdd, Nat.reduceBEq, Int.reduceAdd, Int.reduceSub, Int.reduceLT, Int.reduceLE, Int.reduceEq, Int.reduceNeg, ↓reduceIte, reduceCtorEq, List.replicate, c13]
  all_goals try (exfalso; omega)
  refine g_while (fun m fr st => ∃ (k : Nat) (p : V), m = L.length - k ∧ k ≤ L.length ∧ selfP 0 p ∧ (L.take k).all insOK = true ∧ fr = [(4, .ptr 0 0), (12, .sl s L.length (insD L)), (13, .sc (.int .i64 L.length)), (14, .sc (.int .i64 k))] ∧
    st = ⟨[(1, .gro 5 1 false (strD ⟨(tx (L.take k)).toArray⟩)), (0, .box 77 1 [p, .gr 2 1 (tx (L.take k)).length])], 2, 0⟩) L.length ?_ ⟨_, _, weak_nilCell (l := [.sc (.pointer none), .sc (.slice none 0 0)]) 0 77 1 1 5 1 rfl rfl (Nat.ne_of_beq_eq_false rfl), 0, .sc (.pointer none), by omega, Nat.zero_le _, .inl rfl, rfl, rfl, rfl⟩ ?_
  · rw [hrn]; unfold many; omega
  rintro m fr st ⟨k, p, rfl, hk, hp, hall, rfl, rfl⟩
  have htl := tx_len hall
  have htk : (L.take k).length = k := by rw [List.length_take]; omega
  rw [htk] at htl
  by_cases hlt : k < L.length
  case neg =>
    have : k = L.length := by omega
    subst this
    rw [List.take_length] at hall htl ⊢
    rw [if_pos hall]
    generalize tx L = F at *
    have hFz := mk_size F
    have hbl := fun (st : VSt) (h : aget st.own 0 = some (.box 77 1 [p, .gr 2 1 F.length])) => blen_p w (n + 3) st 0 1 1 F.length p h (by omega)
    by_cases hb : 40000 < F.length
    · rw [if_pos hb]
      simp (disch := first | omega | assumption | exact bd (by with_unfolding_all rfl) | exact Or.inl rfl | exact Or.inl trivial | exact okL_map _ (fun _ => rfl) _ | (simp only [VVlen] <;> omega) | fail) only [O1, WA, slotsL, opdsA, Nat.reduceEqDiff, Nat.reduceLT, Nat.reduceAdd, Nat.reduceBEq, Int.reduceAdd, Int.reduceSub, Int.reduceLT, Int.reduceLE, Int.reduceEq, Int.reduceNeg, ↓reduceIte, reduceCtorEq, List.replicate, c13l0]
      refine callV_flat (by rw [hC]; refine hbl _ ?_; rfl) ?_
      simp (disch := first | omega | assumption | exact bd (by with_unfolding_all rfl) | exact Or.inl rfl | exact Or.inl trivial | exact okL_map _ (fun _ => rfl) _ | (simp only [VVlen] <;> omega) | fail) only [O1, WA, slotsL, opdsA, Nat.reduceEqDiff, Nat.reduceLT, Nat.reduceAdd, Nat.reduceBEq, Int.reduceAdd, Int.reduceSub, Int.reduceLT, Int.reduceLE, Int.reduceEq, Int.reduceNeg, ↓reduceIte, reduceCtorEq, List.replicate]
      all_goals try (exfalso; omega)
      exact weak_flat rfl h0 rfl
    · rw [if_neg hb]
      simp (disch := first | omega | assumption | exact bd (by with_unfolding_all rfl) | exact Or.inl rfl | exact Or.inl trivial | exact okL_map _ (fun _ => rfl) _ | (simp only [VVlen] <;> omega) | fail) only [O1, WA, slotsL, opdsA, Nat.reduceEqDiff, Nat.reduceLT, Nat.reduceAdd, Nat.reduceBEq, Int.reduceAdd, Int.reduceSub, Int.reduceLT, Int.reduceLE, Int.reduceEq, Int.reduceNeg, ↓reduceIte, reduceCtorEq, List.replicate, c13l0]
      refine callV_flat (by rw [hC]; refine hbl _ ?_; rfl) ?_
      simp (disch := first | omega | assumption | exact bd (by with_unfolding_all rfl) | exact Or.inl rfl | exact Or.inl trivial | exact okL_map _ (fun _ => rfl) _ | (simp only [VVlen] <;> omega) | fail) only [O1, WA, slotsL, opdsA, Nat.reduceEqDiff, Nat.reduceLT, Nat.reduceAdd, Nat.reduceBEq, Int.reduceAdd, Int.reduceSub, Int.reduceLT, Int.reduceLE, Int.reduceEq, Int.reduceNeg, ↓reduceIte, reduceCtorEq, List.replicate]
      all_goals try (exfalso; omega)
      refine string_w w (n + 3) hC 0 1 p ⟨F.toArray⟩ (by rw [hFz]; rfl) rfl (Nat.zero_le _) (Nat.zero_le _) (by omega) fun st' hst => ?_
      repeat' (first | (simp (disch := first | omega | assumption | exact bd (by with_unfolding_all rfl) | exact Or.inl rfl | exact Or.inl trivial | exact okL_map _ (fun _ => rfl) _ | (simp only [VVlen] <;> omega) | fail) only [O1, WA, slotsL, opdsA, Nat.reduceEqDiff, Nat.reduceLT, Nat.reduceAdd, Nat.reduceBEq, Int.reduceAdd, Int.reduceSub, Int.reduceLT, Int.reduceLE, Int.reduceEq, Int.reduceNeg, ↓reduceIte, reduceCtorEq, List.replicate]) | apply gC_drawW | ((first | apply gI_dec | apply gG_dec | apply gPG_dec | apply gI_var | apply gG_var | apply gPG_var) <;> intro _))
      exact weak_flat rfl h0 hst
  have hag := insD_agg L k hlt
  have hts := tx_take L k hlt
  have hb1 := fun h => all_take hlt hall h
  have hb2 := fun h => all_bad hlt h
  have hln := cLine_p w n L[k]!
  generalize hX : L[k]! = X at *
  by_cases hv : insOK X = true
  · have hb3 := hb1 hv
    have hX4 := textI_len40 (insOK_iff.1 hv)
    have e1 : lineF X = (textI X, 0) := by unfold lineF; rw [if_pos hv]
    rw [e1] at hln
    generalize textI X = T at *
    generalize tx (L.take k) = F at *
    obtain ⟨xo, xr, xb, xp, xt, xc, xk⟩ := X
    unfold insV at hag hln
    simp (disch := first | omega | assumption | exact bd (by with_unfolding_all rfl) | exact Or.inl rfl | exact Or.inl trivial | exact okL_map _ (fun _ => rfl) _ | (simp only [VVlen] <;> omega) | fail) only [O1, WA, slotsL, opdsA, Nat.reduceEqDiff, Nat.reduceLT, Nat.reduceAdd, Nat.reduceBEq, Int.reduceAdd, Int.reduceSub, Int.reduceLT, Int.reduceLE, Int.reduceEq, Int.reduceNeg, ↓reduceIte, reduceCtorEq, List.replicate, c13l0, hag]
    all_goals try (exfalso; omega)
    refine callV_flat (by rw [hC]; exact hln.flat rfl rfl) ?_
    simp (disch := first | omega | assumption | exact bd (by with_unfolding_all rfl) | exact Or.inl rfl | exact Or.inl trivial | exact okL_map _ (fun _ => rfl) _ | (simp only [VVlen] <;> omega) | fail) only [O1, WA, slotsL, opdsA, Nat.reduceEqDiff, Nat.reduceLT, Nat.reduceAdd, Nat.reduceBEq, Int.reduceAdd, Int.reduceSub, Int.reduceLT, Int.reduceLE, Int.reduceEq, Int.reduceNeg, ↓reduceIte, reduceCtorEq, List.replicate, cat_l]
    refine wStr_w w (n + 1) hC 0 1 p F (T ++ [10]) rfl rfl hp (Nat.zero_le _) (Nat.zero_le _) (by decide) (nb _ _ rfl) (by simp; omega) ?_
    simp (disch := first | omega | assumption | exact bd (by with_unfolding_all rfl) | exact Or.inl rfl | exact Or.inl trivial | exact okL_map _ (fun _ => rfl) _ | (simp only [VVlen] <;> omega) | fail) only [O1, WA, slotsL, opdsA, Nat.reduceEqDiff, Nat.reduceLT, Nat.reduceAdd, Nat.reduceBEq, Int.reduceAdd, Int.reduceSub, Int.reduceLT, Int.reduceLE, Int.reduceEq, Int.reduceNeg, ↓reduceIte, reduceCtorEq, List.replicate]
    refine ⟨L.length - (k + 1), _, _, by omega, weak_to [(3, 1), (0, 0)] 2 h0 rfl rfl rfl rfl, k + 1, .ptr 0 0, rfl, by omega, .inr rfl, hb3, rfl, ?_⟩
    rw [hts]
    simp only [List.length_append]
    rfl
  · have hb2 := hb2 (by simpa using hv)
    rw [if_neg hb2]
    have e1 : lineF X = ([], 8) := by unfold lineF; rw [if_neg hv]
    rw [e1] at hln
    obtain ⟨xo, xr, xb, xp, xt, xc, xk⟩ := X
    unfold insV at hag hln
    simp (disch := first | omega | assumption | exact bd (by with_unfolding_all rfl) | exact Or.inl rfl | exact Or.inl trivial | exact okL_map _ (fun _ => rfl) _ | (simp only [VVlen] <;> omega) | fail) only [O1, WA, slotsL, opdsA, Nat.reduceEqDiff, Nat.reduceLT, Nat.reduceAdd, Nat.reduceBEq, Int.reduceAdd, Int.reduceSub, Int.reduceLT, Int.reduceLE, Int.reduceEq, Int.reduceNeg, ↓reduceIte, reduceCtorEq, List.replicate, c13l0, hag]
    all_goals try (exfalso; omega)
    refine callV_flat (by rw [hC]; exact hln.flat rfl rfl) ?_
    simp (disch := first | omega | assumption | exact bd (by with_unfolding_all rfl) | exact Or.inl rfl | exact Or.inl trivial | exact okL_map _ (fun _ => rfl) _ | (simp only [VVlen] <;> omega) | fail) only [O1, WA, slotsL, opdsA, Nat.reduceEqDiff, Nat.reduceLT, Nat.reduceAdd, Nat.reduceBEq, Int.reduceAdd, Int.reduceSub, Int.reduceLT, Int.reduceLE, Int.reduceEq, Int.reduceNeg, ↓reduceIte, reduceCtorEq, List.replicate]
    exact weak_flat rfl h0 rfl
end
end Go.Proofs.YtbefpfbidgfipaaDoor
namespace Go.Proofs.YtbefpfbidgfipaaDoor
open Go Go.Itp
set_option maxRecDepth 100000
set_option maxHeartbeats 4000000
set_option linter.unusedSimpArgs false
set_option linter.unusedVariables false
section
variable (w : World) (n : Nat)
end
noncomputable def parseF : List (List UInt8) → List Ins → List Ins × Int × Int
  | [], acc => (acc, 0, 0)
  | [l], acc => if l = [] then (acc, 0, 0) else ([], acc.length, 12)
  | l :: l2 :: ls, acc => match readO l with
    | some i => parseF (l2 :: ls) (acc ++ [i])
    | none => ([], acc.length, 12)
noncomputable def parseT (s : List UInt8) : List Ins × Int × Int := if 40000 < s.length ∨ 2000 < (words 10 s).length - 1 then ([], 0, 4) else parseF (words 10 s) []
def parV (p : List Ins × Int × Int) : V := .tup [.sl 3 p.1.length (insD p.1), .sc (.int .i64 p.2.1), .sc (.int .i64 p.2.2)]
theorem parseF_one (l : List UInt8) (acc : List Ins) (h : l ≠ []) : parseF [l] acc = (([] : List Ins), (acc.length : Int), (12 : Int)) := by rw [parseF, if_neg h]
theorem parseF_nil (acc : List Ins) : parseF [[]] acc = (acc, 0, 0) := by rw [parseF, if_pos rfl]
theorem parseF_some {l : List UInt8} {ls : List (List UInt8)} {acc : List Ins} {i : Ins} (hl : ls ≠ []) (h : readO l = some i) : parseF (l :: ls) acc = parseF ls (acc ++ [i]) := by
  cases ls with
  | nil => exact absurd rfl hl
  | cons a r => rw [parseF, h]
theorem parseF_none {l : List UInt8} {ls : List (List UInt8)} {acc : List Ins} (hl : ls ≠ []) (h : readO l = none) : parseF (l :: ls) acc = (([] : List Ins), (acc.length : Int), (12 : Int)) := by
  cases ls with
  | nil => exact absurd rfl hl
  | cons a r => rw [parseF, h]
theorem insD_snoc (acc : List Ins) (i : Ins) : insD (acc ++ [i]) = insD acc ++ [.sc (.int .u8 i.op), .sc (.bool i.right), .sc (.int .u8 i.bed), .sc (.int .i64 i.pos), .sc (.int .i64 i.to), .sc (.int .i64 i.car), .sc (.int .i64 i.rack)] := by
  simp [insD, insC]
theorem row1V_ins (nx t : Nat) (a b c d e f g : Value) : mkRowV nx t 7 1 [.int .u8 0, .bool false, .int .u8 0, .int .i64 0, .int .i64 0, .int .i64 0, .int .i64 0] [(0, 7, .agg [.sc a, .sc b, .sc c, .sc d, .sc e, .sc f, .sc g])] = some (.ref nx 0 1 1, some (.row t 7 false false [.sc a, .sc b, .sc c, .sc d, .sc e, .sc f, .sc g]), []) := rfl
theorem snap_gr7 {H : VHp} {o t n : Nat} {z : Bool} {l : List D} (h : aget H o = some (.gro t 7 z l)) (hl : l.length = n * 7) : snapV H (.gr 2 o n) = some (.sl 2 n l) := by
  simp only [snapV, toD, h]
  rw [if_pos ⟨hl, by decide, by decide, by decide⟩]
  rfl
section
variable (w : World) (n : Nat)
theorem cparse_p (hes : (errO Tryd.prog w "strconv.ErrSyntax").isSome = true) (her : (errO Tryd.prog w "strconv.ErrRange").isSome = true) (s : List UInt8) (hs : s.length ≤ 1000000) : VSpec (EN w (n + 7)) 15 [strV s] (parV (parseT s)) ⟨[], 0, 0⟩ := by
  refine vspec_g rfl rfl (fun _ _ => rfl) (Nat.le_of_ble_eq_true rfl) (oldVals w) retOK_finP rfl fun C hC h0 => ?_
  have hrn : C.E.rounds = many := by rw [hC, callP_rounds]
  have hsz := mk_size s
  have hcnt := count_p w (n + 4) s 10 (by omega)
  have hcw := count_words 10 s.length s (Nat.le_refl _)
  unfold parseT
  by_cases h1 : 40000 < s.length
  · rw [if_pos (.inl h1)]
    simp (disch := first | omega | assumption | exact bd (by with_unfolding_all rfl) | exact Or.inl rfl | exact Or.inl trivial | exact okL_map _ (fun _ => rfl) _ | (simp only [VVlen] <;> omega) | fail) only [O1, WA, slotsL, opdsA, Nat.reduceEqDiff, Nat.reduceLT, Nat.reduceAdd, Nat.reduceBEq, Int.reduceAdd, Int.reduceSub, Int.reduceLT, Int.reduceLE, Int.reduceEq, Int.reduceNeg, ↓reduceIte, reduceCtorEq, List.replicate, c15, hsz]
    all_goals try (exfalso; omega)
    exact weak_finPNil h0 rfl
  by_cases h2 : 2000 < (words 10 s).length - 1
  · rw [if_pos (.inr h2)]
    simp (disch := first | omega | assumption | exact bd (by with_unfolding_all rfl) | exact Or.inl rfl | exact Or.inl trivial | exact okL_map _ (fun _ => rfl) _ | (simp only [VVlen] <;> omega) | fail) only [O1, WA, slotsL, opdsA, Nat.reduceEqDiff, Nat.reduceLT, Nat.reduceAdd, Nat.reduceBEq, Int.reduceAdd, Int.reduceSub, Int.reduceLT, Int.reduceLE, Int.reduceEq, Int.reduceNeg, ↓reduceIte, reduceCtorEq, List.replicate, c15, hsz]
    all_goals try (exfalso; omega)
    refine callV_flat (by rw [hC]; exact hcnt.flat rfl rfl) ?_
    simp (disch := first | omega | assumption | exact bd (by with_unfolding_all rfl) | exact Or.inl rfl | exact Or.inl trivial | exact okL_map _ (fun _ => rfl) _ | (simp only [VVlen] <;> omega) | fail) only [O1, WA, slotsL, opdsA, Nat.reduceEqDiff, Nat.reduceLT, Nat.reduceAdd, Nat.reduceBEq, Int.reduceAdd, Int.reduceSub, Int.reduceLT, Int.reduceLE, Int.reduceEq, Int.reduceNeg, ↓reduceIte, reduceCtorEq, List.replicate]
    all_goals try (exfalso; omega)
    exact weak_finPNil h0 rfl
  rw [if_neg (by omega)]
  simp (disch := first | omega | assumption | exact bd (by with_unfolding_all rfl) | exact Or.inl rfl | exact Or.inl trivial | exact okL_map _ (fun _ => rfl) _ | (simp only [VVlen] <;> omega) | fail) only [O1, WA, slotsL, opdsA, Nat.reduceEqDiff, Nat.reduceLT, Nat.reduceAdd, Nat.reduceBEq, Int.reduceAdd, Int.reduceSub, Int.reduceLT, Int.reduceLE, Int.reduceEq, Int.reduceNeg, ↓reduceIte, reduceCtorEq, List.replicate, c15, hsz]
  all_goals try (exfalso; omega)
  refine callV_flat (by rw [hC]; exact hcnt.flat rfl rfl) ?_
  simp (disch := first | omega | assumption | exact bd (by with_unfolding_all rfl) | exact Or.inl rfl | exact Or.inl trivial | exact okL_map _ (fun _ => rfl) _ | (simp only [VVlen] <;> omega) | fail) only [O1, WA, slotsL, opdsA, Nat.reduceEqDiff, Nat.reduceLT, Nat.reduceAdd, Nat.reduceBEq, Int.reduceAdd, Int.reduceSub, Int.reduceLT, Int.reduceLE, Int.reduceEq, Int.reduceNeg, ↓reduceIte, reduceCtorEq, List.replicate]
  all_goals try (exfalso; omega)
  refine g_while (fun m fr st => ∃ (rest : List UInt8) (acc : List Ins), m = rest.length ∧ rest.length ≤ s.length ∧ acc.length + (words 10 rest).length ≤ 2001 ∧ parseF (words 10 rest) acc = parseF (words 10 s) [] ∧ akeep [0, 2] fr = [(0, strV rest), (2, .gr 2 0 acc.length)] ∧ st = ⟨[(0, .gro 23 7 false (insD acc))], 1, 0⟩) s.length ?_ ⟨_, _, weak_nilSlot 2 23 7 rfl, s, [], rfl, Nat.le_refl _, by simp; omega, rfl, rfl, rfl⟩ ?_
  · rw [hrn]; unfold many; omega
  rintro m fr st ⟨rest, acc, rfl, hrl, hacc, hpf, hfr, rfl⟩
  rw [hfr]
  have hil := insD_len acc
  by_cases hr0 : rest = []
  · subst hr0
    have hp : parseF (words 10 s) [] = (acc, 0, 0) := by rw [← hpf]; exact parseF_nil acc
    rw [hp]
    simp (disch := first | omega | assumption | exact bd (by with_unfolding_all rfl) | exact Or.inl rfl | exact Or.inl trivial | exact okL_map _ (fun _ => rfl) _ | (simp only [VVlen] <;> omega) | fail) only [O1, WA, slotsL, opdsA, Nat.reduceEqDiff, Nat.reduceLT, Nat.reduceAdd, Nat.reduceBEq, Int.reduceAdd, Int.reduceSub, Int.reduceLT, Int.reduceLE, Int.reduceEq, Int.reduceNeg, ↓reduceIte, reduceCtorEq, List.replicate, c15l0]
    all_goals try (exfalso; omega)
    refine weak_finP (s := 2) (n := acc.length) (l := insD acc) ?_ ?_ (.inl (by omega)) h0 rfl
    · exact snap_gr7 rfl hil
    · rfl
  have hcut := cut_p w (n + 1) rest 10 (by omega)
  have hne : (⟨rest.toArray⟩ : ByteArray) ≠ ⟨#[]⟩ := fun e => hr0 (by have := congrArg (fun b : ByteArray => b.data.toList) e; simpa using this)
  rcases byte_split 10 rest with hf | ⟨a, r, rfl, hf⟩
  · rw [cutB_free hf] at hcut
    have hp : parseF (words 10 s) [] = (([] : List Ins), (acc.length : Int), (12 : Int)) := by rw [← hpf, words_free hf]; exact parseF_one rest acc hr0
    rw [hp]
    have hrd := read_p w n hes her rest (by omega)
    obtain ⟨j, e, hj⟩ : ∃ j e, resI (readO rest) = .tup [insV j, .sc (.int .i64 e)] := by
      cases readO rest with
      | none => exact ⟨_, _, rfl⟩
      | some j => exact ⟨_, _, rfl⟩
    rw [hj] at hrd
    obtain ⟨jo, jr, jb, jp, jt, jc, jk⟩ := j
    unfold insV at hrd
    simp (disch := first | omega | assumption | exact bd (by with_unfolding_all rfl) | exact Or.inl rfl | exact Or.inl trivial | exact okL_map _ (fun _ => rfl) _ | (simp only [VVlen] <;> omega) | fail) only [O1, WA, slotsL, opdsA, Nat.reduceEqDiff, Nat.reduceLT, Nat.reduceAdd, Nat.reduceBEq, Int.reduceAdd, Int.reduceSub, Int.reduceLT, Int.reduceLE, Int.reduceEq, Int.reduceNeg, ↓reduceIte, reduceCtorEq, List.replicate, c15l0, hne]
    all_goals try (exfalso; omega)
    refine callV_flat (by rw [hC]; exact hcut.flat rfl rfl) ?_
    simp (disch := first | omega | assumption | exact bd (by with_unfolding_all rfl) | exact Or.inl rfl | exact Or.inl trivial | exact okL_map _ (fun _ => rfl) _ | (simp only [VVlen] <;> omega) | fail) only [O1, WA, slotsL, opdsA, Nat.reduceEqDiff, Nat.reduceLT, Nat.reduceAdd, Nat.reduceBEq, Int.reduceAdd, Int.reduceSub, Int.reduceLT, Int.reduceLE, Int.reduceEq, Int.reduceNeg, ↓reduceIte, reduceCtorEq, List.replicate]
    refine callV_flat (by rw [hC]; exact hrd.flat rfl rfl) ?_
    simp (disch := first | omega | assumption | exact bd (by with_unfolding_all rfl) | exact Or.inl rfl | exact Or.inl trivial | exact okL_map _ (fun _ => rfl) _ | (simp only [VVlen] <;> omega) | fail) only [O1, WA, slotsL, opdsA, Nat.reduceEqDiff, Nat.reduceLT, Nat.reduceAdd, Nat.reduceBEq, Int.reduceAdd, Int.reduceSub, Int.reduceLT, Int.reduceLE, Int.reduceEq, Int.reduceNeg, ↓reduceIte, reduceCtorEq, List.replicate]
    all_goals try (exfalso; omega)
    exact weak_finPNil h0 rfl
  · rw [cutB_app r hf] at hcut
    rw [words_app r hf] at hpf hacc
    have hwn := words_ne 10 r
    rw [List.length_cons] at hacc
    have hll : (a ++ 10 :: r).length = a.length + r.length + 1 := by simp; omega
    have hrd := read_p w n hes her a (by omega)
    cases hro : readO a with
    | none =>
      rw [hro] at hrd
      rw [parseF_none hwn hro] at hpf
      rw [← hpf]
      unfold resI insV ins0 at hrd
      simp (disch := first | omega | assumption | exact bd (by with_unfolding_all rfl) | exact Or.inl rfl | exact Or.inl trivial | exact okL_map _ (fun _ => rfl) _ | (simp only [VVlen] <;> omega) | fail) only [O1, WA, slotsL, opdsA, Nat.reduceEqDiff, Nat.reduceLT, Nat.reduceAdd, Nat.reduceBEq, Int.reduceAdd, Int.reduceSub, Int.reduceLT, Int.reduceLE, Int.reduceEq, Int.reduceNeg, ↓reduceIte, reduceCtorEq, List.replicate, c15l0, hne]
      all_goals try (exfalso; omega)
      refine callV_flat (by rw [hC]; exact hcut.flat rfl rfl) ?_
      simp (disch := first | omega | assumption | exact bd (by with_unfolding_all rfl) | exact Or.inl rfl | exact Or.inl trivial | exact okL_map _ (fun _ => rfl) _ | (simp only [VVlen] <;> omega) | fail) only [O1, WA, slotsL, opdsA, Nat.reduceEqDiff, Nat.reduceLT, Nat.reduceAdd, Nat.reduceBEq, Int.reduceAdd, Int.reduceSub, Int.reduceLT, Int.reduceLE, Int.reduceEq, Int.reduceNeg, ↓reduceIte, reduceCtorEq, List.replicate]
      refine callV_flat (by rw [hC]; exact hrd.flat rfl rfl) ?_
      simp (disch := first | omega | assumption | exact bd (by with_unfolding_all rfl) | exact Or.inl rfl | exact Or.inl trivial | exact okL_map _ (fun _ => rfl) _ | (simp only [VVlen] <;> omega) | fail) only [O1, WA, slotsL, opdsA, Nat.reduceEqDiff, Nat.reduceLT, Nat.reduceAdd, Nat.reduceBEq, Int.reduceAdd, Int.reduceSub, Int.reduceLT, Int.reduceLE, Int.reduceEq, Int.reduceNeg, ↓reduceIte, reduceCtorEq, List.replicate]
      all_goals try (exfalso; omega)
      exact weak_finPNil h0 rfl
    | some j =>
      rw [hro] at hrd
      rw [parseF_some hwn hro] at hpf
      have hsn := insD_snoc acc j
      obtain ⟨jo, jr, jb, jp, jt, jc, jk⟩ := j
      unfold resI insV at hrd
      generalize insD acc = A at *
      simp (disch := first | omega | assumption | exact bd (by with_unfolding_all rfl) | exact Or.inl rfl | exact Or.inl trivial | exact okL_map _ (fun _ => rfl) _ | (simp only [VVlen] <;> omega) | fail) only [O1, WA, slotsL, opdsA, Nat.reduceEqDiff, Nat.reduceLT, Nat.reduceAdd, Nat.reduceBEq, Int.reduceAdd, Int.reduceSub, Int.reduceLT, Int.reduceLE, Int.reduceEq, Int.reduceNeg, ↓reduceIte, reduceCtorEq, List.replicate, c15l0, hne]
      all_goals try (exfalso; omega)
      refine callV_flat (by rw [hC]; exact hcut.flat rfl rfl) ?_
      simp (disch := first | omega | assumption | exact bd (by with_unfolding_all rfl) | exact Or.inl rfl | exact Or.inl trivial | exact okL_map _ (fun _ => rfl) _ | (simp only [VVlen] <;> omega) | fail) only [O1, WA, slotsL, opdsA, Nat.reduceEqDiff, Nat.reduceLT, Nat.reduceAdd, Nat.reduceBEq, Int.reduceAdd, Int.reduceSub, Int.reduceLT, Int.reduceLE, Int.reduceEq, Int.reduceNeg, ↓reduceIte, reduceCtorEq, List.replicate]
      refine callV_flat (by rw [hC]; exact hrd.flat rfl rfl) ?_
      simp (disch := first | omega | assumption | exact bd (by with_unfolding_all rfl) | exact Or.inl rfl | exact Or.inl trivial | exact okL_map _ (fun _ => rfl) _ | (simp only [VVlen] <;> omega) | fail) only [O1, WA, slotsL, opdsA, Nat.reduceEqDiff, Nat.reduceLT, Nat.reduceAdd, Nat.reduceBEq, Int.reduceAdd, Int.reduceSub, Int.reduceLT, Int.reduceLE, Int.reduceEq, Int.reduceNeg, ↓reduceIte, reduceCtorEq, List.replicate, row1V_ins]
      all_goals try (exfalso; omega)
      refine ⟨r.length, _, _, by omega, weak_to [(3, 0)] 1 h0 rfl rfl rfl rfl, r, acc ++ [⟨jo, jr, jb, jp, jt, jc, jk⟩], rfl, by omega, by rw [List.length_append]; simp; omega, hpf, by rw [List.length_append]; rfl, ?_⟩
      rw [hsn]
      rfl
end
section
variable (w : World) (n : Nat)
end
set_option maxHeartbeats 1000000
def mirI (i : Ins) : Ins := ⟨i.op, if 3 ≤ i.op ∧ i.op ≤ 6 then !i.right else i.right, i.bed, -i.pos, -i.to, i.car, -i.rack⟩
noncomputable def mirF (L : List Ins) : List Ins × Int := if 2000 < L.length then ([], 4) else if L.all insOK = true then (L.map mirI, 0) else ([], 8)
def mirV (p : List Ins × Int) : V := .tup [.sl 3 p.1.length (insD p.1), .sc (.int .i64 p.2)]
abbrev z7 : List Value := [.int .u8 0, .bool false, .int .u8 0, .int .i64 0, .int .i64 0, .int .i64 0, .int .i64 0]
def zD (m : Nat) : List D := scD (rep z7 m)
theorem zD_len (m : Nat) : (zD m).length = m * 7 := by
  induction m with
  | zero => rfl
  | succ m ih =>
    have e : zD (m + 1) = scD z7 ++ zD m := by simp [zD, rep, scD]
    rw [e, List.length_append, ih]; simp [scD]; omega
theorem zD_succ (m : Nat) : (zD (m + 1)).drop 7 = zD m := by
  have e : zD (m + 1) = scD z7 ++ zD m := by simp [zD, rep, scD]
  rw [e]; rfl
theorem zD_put {A new : List D} {k c : Nat} (hA : A.length = k * 7) (hn : new.length = 7) (hk : k < c) : (A ++ zD (c - k)).take (k * 7) ++ new ++ (A ++ zD (c - k)).drop (k * 7 + 7) = A ++ new ++ zD (c - (k + 1)) := by
  have e : c - k = (c - (k + 1)) + 1 := by omega
  rw [List.take_left' hA, ← List.drop_drop, List.drop_left' hA, e, zD_succ]
theorem appFull_in (nx t e b n c o k m : Nat) (base : Src) (new : List D) (fz : List Nat) (hm : m ≠ 0) (hc : n + m ≤ c) : appFull nx t e b n c o k base (some (m, new, fz)) = none := by
  have h : Nat.blt c (n + m) = false := by rw [← Bool.not_eq_true, Nat.blt_eq]; omega
  simp only [appFull, h, Bool.and_false, Bool.false_and, Bool.false_eq_true, if_false]
  rw [if_neg (by rw [nbeq]; exact hm)]
  split <;> rfl
theorem appRoom_lo (H : VHp) (nx ro t e b o k n c t' e' m : Nat) (g : Bool) (l new : List D) (hro : ro ≤ o) (he : e ≠ 0) (hm : m ≠ 0) (hok : okL new = true) (hle : n + m ≤ c) (hc : c ≤ 1099511627776) (h2 : (n + m) * b ≤ 1099511627776) (hl : k + n * e + new.length ≤ l.length) :
    appRoom ⟨H, nx, ro⟩ t e b o k n c (some (.row t' e' g false l)) (some (m, new, [])) = some (.ref o k (n + m) c, ⟨aset H o (.row t' e' g false (l.take (k + n * e) ++ new ++ l.drop (k + n * e + new.length))), nx, ro⟩) := by
  simp only [appRoom, hok]
  have hb : Nat.ble ro o = true := by rw [Nat.ble_eq]; exact hro
  have h3 : Nat.ble (n + m) room = true := by rw [Nat.ble_eq]; unfold room; omega
  have h4 : Nat.ble ((n + m) * b) room = true := by rw [Nat.ble_eq]; exact h2
  have h5 : Nat.blt c big = true := by rw [Nat.blt_eq]; unfold big; omega
  have h6 : Nat.ble (n + m) c = true := by rw [Nat.ble_eq]; exact hle
  rw [if_pos (by simp [nbf.2 he, rowsB]), if_neg (by simp [hb, h3, h4, nbf.2 hm]), if_pos h5, if_pos (by rw [h6]; simp [elemB])]
  rw [putL_mid _ _ _ hl, frozA_nil]
  rfl
theorem zD_ok (m : Nat) : (rep z7 m).all scOK = true := by
  induction m with
  | zero => rfl
  | succ m ih =>
    have e : rep z7 (m + 1) = z7 ++ rep z7 m := rfl
    rw [e, List.all_append, ih]; rfl
theorem mkSliceV_ins (nx t c : Nat) (hc : c ≤ 1000000) : mkSliceV nx t 7 40 z7 (.sc (.int .i64 0)) (.sc (.int .i64 c)) = some (.ref nx 0 0 c, some (.row t 7 false false (zD c)), []) := by
  simp only [mkSliceV]
  rw [if_pos ⟨by omega, by omega, by unfold room; omega, by unfold room; omega, by rw [Int.toNat_natCast]; exact zD_ok c⟩]
  rfl
theorem eqBV_t (a : Bool) : eqBV true (.sc (.bool a)) (.sc (.bool true)) = some (.sc (.bool (!a))) := by cases a <;> rfl
theorem eqBV_f (a : Bool) : eqBV true (.sc (.bool a)) (.sc (.bool false)) = some (.sc (.bool a)) := by cases a <;> rfl
theorem parts_d : ∀ op, op < 10 → 0 < op → decide (0 ≤ idxB 100 (partsI op)) = decide (3 ≤ op ∧ op ≤ 6) := by decide
theorem map_take {L : List Ins} {k : Nat} (hk : k < L.length) : (L.take (k + 1)).map mirI = (L.take k).map mirI ++ [mirI L[k]!] := by
  rw [List.take_succ_eq_append_getElem hk, List.map_append, getElem!_pos _ k hk]; rfl
attribute [local irreducible] wordsD
section
variable (w : World) (n : Nat)
theorem cmirror_p (s : Nat) (L : List Ins) (hL : L.length ≤ 140737488351232) : VSpec (EN w (n + 6)) 17 [.sl s L.length (insD L)] (mirV (mirF L)) ⟨[], 0, 0⟩ := by
  refine vspec_g rfl rfl (fun _ _ => rfl) (Nat.le_of_ble_eq_true rfl) (oldVals w) retOK_fin rfl fun C hC h0 => ?_
  have hrn : C.E.rounds = many := by rw [hC, callP_rounds]
  have hil := insD_len L
  unfold mirF
  by_cases h2 : 2000 < L.length
  · rw [if_pos h2]
    simp (disch := first | omega | assumption | exact bd (by with_unfolding_all rfl) | exact Or.inl rfl | exact Or.inl trivial | exact okL_map _ (fun _ => rfl) _ | (simp only [VVlen] <;> omega) | fail) only [O1, WA, slotsL, opdsA, Nat.reduceEqDiff, Nat.reduceLT, Nat.reduceAdd, Nat.reduceBEq, Int.reduceAdd, Int.reduceSub, Int.reduceLT, Int.reduceLE, Int.reduceEq, Int.reduceNeg, ↓reduceIte, reduceCtorEq, List.replicate, c17]
    all_goals try (exfalso; omega)
    exact weak_finNil h0 rfl
  rw [if_neg h2]
  have hmk := fun nx t => mkSliceV_ins nx t L.length (by omega)
  unfold z7 at hmk
  simp (disch := first | omega | assumption | exact bd (by with_unfolding_all rfl) | exact Or.inl rfl | exact Or.inl trivial | exact okL_map _ (fun _ => rfl) _ | (simp only [VVlen] <;> omega) | fail) only [O1, WA, slotsL, opdsA, Nat.reduceEqDiff, Nat.reduceLT, Nat.reduceAdd, Nat.reduceBEq, Int.reduceAdd, Int.reduceSub, Int.reduceLT, Int.reduceLE, Int.reduceEq, Int.reduceNeg, ↓reduceIte, reduceCtorEq, List.replicate, c17, hmk]
  all_goals try (exfalso; omega)
  refine g_while (fun m fr st => ∃ (k : Nat), m = L.length - k ∧ k ≤ L.length ∧ (L.take k).all insOK = true ∧ fr = [(4, .ref 0 0 k L.length), (14, .sl s L.length (insD L)), (15, .sc (.int .i64 L.length)), (16, .sc (.int .i64 k))] ∧
    st = ⟨[(0, .row 23 7 false false (insD ((L.take k).map mirI) ++ zD (L.length - k)))], 1, 0⟩) L.length ?_ ⟨_, _, .refl _ _, 0, by omega, Nat.zero_le _, rfl, rfl, rfl⟩ ?_
  · rw [hrn]; unfold many; omega
  rintro m fr st ⟨k, rfl, hk, hall, rfl, rfl⟩
  have htk : ((L.take k).map mirI).length = k := by rw [List.length_map, List.length_take]; omega
  by_cases hlt : k < L.length
  case neg =>
    have : k = L.length := by omega
    subst this
    rw [List.take_length] at hall htk ⊢
    rw [if_pos hall]
    have hil2 := insD_len (L.map mirI)
    have hml : (L.map mirI).length = L.length := by rw [List.length_map]
    have hz0 : zD (L.length - L.length) = [] := by rw [Nat.sub_self]; rfl
    rw [hz0, List.append_nil]
    rw [hml] at hil2
    have hsn : ∀ c, snapV [(0, Itp.Obj.row 23 7 false false (insD (L.map mirI)))] (.ref 0 0 L.length c) = some (.sl 0 L.length (insD (L.map mirI))) := fun c => by
      simp only [snapV, toD, aget_cons, if_true, List.drop_zero]
      rw [if_pos (by omega), ← hil2, List.take_length]
      rfl
    unfold mirV
    rw [hml]
    simp (disch := first | omega | assumption | exact bd (by with_unfolding_all rfl) | exact Or.inl rfl | exact Or.inl trivial | exact okL_map _ (fun _ => rfl) _ | (simp only [VVlen] <;> omega) | fail) only [O1, WA, slotsL, opdsA, Nat.reduceEqDiff, Nat.reduceLT, Nat.reduceAdd, Nat.reduceBEq, Int.reduceAdd, Int.reduceSub, Int.reduceLT, Int.reduceLE, Int.reduceEq, Int.reduceNeg, ↓reduceIte, reduceCtorEq, List.replicate, c17l0]
    all_goals try (exfalso; omega)
    exact weak_fin (s := 0) (n := L.length) (l := insD (L.map mirI)) (hsn _) rfl (.inl (by omega)) h0 rfl
  have hag := insD_agg L k hlt
  have hmt := map_take hlt
  have hb1 := fun h => all_take hlt hall h
  have hb2 := fun h => all_bad hlt h
  have hbi := binstr_p w (n + 3) L[k]!
  generalize hX : L[k]! = X at *
  by_cases hv : insOK X = true
  · have hb3 := hb1 hv
    have hvp := insOK_iff.1 hv
    have hop := hvp.op_lt
    have hbd := hvp.bounds
    unfold ndOK at hbd
    have hwo := wordsD_snd hop.2
    have hpd := parts_d X.op hop.2 hop.1
    have hct := contains_p w n (partsI X.op) 100 (by have := partsI_len hop.2; omega)
    rw [hpd] at hct
    rw [if_pos hv] at hbi
    have hsn := insD_snoc ((L.take k).map mirI) (mirI X)
    have hzp := fun new hn => zD_put (A := insD ((L.take k).map mirI)) (new := new) (k := k) (c := L.length) (by rw [insD_len, htk]) hn hlt
    clear hb1 hb2
    have hmi : mirI X = ⟨X.op, if 3 ≤ X.op ∧ X.op ≤ 6 then !X.right else X.right, X.bed, -X.pos, -X.to, X.car, -X.rack⟩ := rfl
    rw [hmi] at hsn
    have hAl := insD_len ((L.take k).map mirI)
    rw [htk] at hAl
    have hzl := zD_len (L.length - k)
    have hlen : (insD ((L.take k).map mirI) ++ zD (L.length - k)).length = L.length * 7 := by rw [List.length_append, hAl, hzl]; omega
    rw [hmi] at hmt
    rw [← hmt] at hsn
    obtain ⟨xo, xr, xb, xp, xt, xc, xk⟩ := X
    unfold insV at hag hbi
    simp only at hct hop hwo hbd
    generalize insD ((L.take k).map mirI) = A at *
    generalize hB : A ++ zD (L.length - k) = B at *
    generalize partsI xo = PP at *
    clear hpd hB hAl hzl htk hmk hmi hvp hv hX
    by_cases h36 : 3 ≤ xo ∧ xo ≤ 6
    · rw [if_pos h36] at hsn
      rw [decide_eq_true h36] at hct
      have hct' : ∀ (H : VHp) (nx : Nat), VSpecO C.E 40 ⟨H, nx, nx⟩ [strV PP, .sc (.string ⟨#[100]⟩)] (.sc (.bool true)) := fun H nx => by rw [hC]; exact hct.flat rfl rfl
      have hzp := hzp [.sc (.int .u8 xo), .sc (.bool (!xr)), .sc (.int .u8 xb), .sc (.int .i64 (-xp)), .sc (.int .i64 (-xt)), .sc (.int .i64 xc), .sc (.int .i64 (-xk))] rfl
      simp (disch := first | omega | assumption | exact bd (by with_unfolding_all rfl) | exact Or.inl rfl | exact Or.inl trivial | exact okL_map _ (fun _ => rfl) _ | (simp only [VVlen] <;> omega) | fail) only [O1, WA, slotsL, opdsA, Nat.reduceEqDiff, Nat.reduceLT, Nat.reduceAdd, Nat.reduceBEq, Int.reduceAdd, Int.reduceSub, Int.reduceLT, Int.reduceLE, Int.reduceEq, Int.reduceNeg, ↓reduceIte, reduceCtorEq, List.replicate, c17l0, hag]
      all_goals try (exfalso; omega)
      refine callV_flat (by rw [hC]; exact hbi.flat rfl rfl) ?_
      simp (disch := first | omega | assumption | exact bd (by with_unfolding_all rfl) | exact Or.inl rfl | exact Or.inl trivial | exact okL_map _ (fun _ => rfl) _ | (simp only [VVlen] <;> omega) | fail) only [O1, WA, slotsL, opdsA, Nat.reduceEqDiff, Nat.reduceLT, Nat.reduceAdd, Nat.reduceBEq, Int.reduceAdd, Int.reduceSub, Int.reduceLT, Int.reduceLE, Int.reduceEq, Int.reduceNeg, ↓reduceIte, reduceCtorEq, List.replicate]
      refine call1_of (by rw [hC]; exact codewords_1 w (n + 4) _ _) ?_
      simp (disch := first | omega | assumption | exact bd (by with_unfolding_all rfl) | exact Or.inl rfl | exact Or.inl trivial | exact okL_map _ (fun _ => rfl) _ | (simp only [VVlen] <;> omega) | fail) only [O1, WA, slotsL, opdsA, Nat.reduceEqDiff, Nat.reduceLT, Nat.reduceAdd, Nat.reduceBEq, Int.reduceAdd, Int.reduceSub, Int.reduceLT, Int.reduceLE, Int.reduceEq, Int.reduceNeg, ↓reduceIte, reduceCtorEq, List.replicate, hwo]
      all_goals try (exfalso; omega)
      refine call0_of (hct' _ _) ?_
      simp (disch := first | omega | assumption | exact bd (by with_unfolding_all rfl) | exact Or.inl rfl | exact Or.inl trivial | exact okL_map _ (fun _ => rfl) _ | (simp only [VVlen] <;> omega) | fail) only [O1, WA, slotsL, opdsA, Nat.reduceEqDiff, Nat.reduceLT, Nat.reduceAdd, Nat.reduceBEq, Int.reduceAdd, Int.reduceSub, Int.reduceLT, Int.reduceLE, Int.reduceEq, Int.reduceNeg, ↓reduceIte, reduceCtorEq, List.replicate, eqBV_t, eqBV_f, row1V_ins, appFull_in, appRoom_lo, Nat.zero_add, Int.zero_sub]
      all_goals try (exfalso; omega)
      refine ⟨L.length - (k + 1), _, _, by omega, weak_to [(0, 0)] 1 h0 rfl rfl rfl rfl, k + 1, rfl, by omega, hb3, rfl, ?_⟩
      rw [hsn, ← hzp]
      rfl
    · rw [if_neg h36] at hsn
      rw [decide_eq_false h36] at hct
      have hct' : ∀ (H : VHp) (nx : Nat), VSpecO C.E 40 ⟨H, nx, nx⟩ [strV PP, .sc (.string ⟨#[100]⟩)] (.sc (.bool false)) := fun H nx => by rw [hC]; exact hct.flat rfl rfl
      have hzp := hzp [.sc (.int .u8 xo), .sc (.bool xr), .sc (.int .u8 xb), .sc (.int .i64 (-xp)), .sc (.int .i64 (-xt)), .sc (.int .i64 xc), .sc (.int .i64 (-xk))] rfl
      simp (disch := first | omega | assumption | exact bd (by with_unfolding_all rfl) | exact Or.inl rfl | exact Or.inl trivial | exact okL_map _ (fun _ => rfl) _ | (simp only [VVlen] <;> omega) | fail) only [O1, WA, slotsL, opdsA, Nat.reduceEqDiff, Nat.reduceLT, Nat.reduceAdd, Nat.reduceBEq, Int.reduceAdd, Int.reduceSub, Int.reduceLT, Int.reduceLE, Int.reduceEq, Int.reduceNeg, ↓reduceIte, reduceCtorEq, List.replicate, c17l0, hag]
      all_goals try (exfalso; omega)
      refine callV_flat (by rw [hC]; exact hbi.flat rfl rfl) ?_
      simp (disch := first | omega | assumption | exact bd (by with_unfolding_all rfl) | exact Or.inl rfl | exact Or.inl trivial | exact okL_map _ (fun _ => rfl) _ | (simp only [VVlen] <;> omega) | fail) only [O1, WA, slotsL, opdsA, Nat.reduceEqDiff, Nat.reduceLT, Nat.reduceAdd, Nat.reduceBEq, Int.reduceAdd, Int.reduceSub, Int.reduceLT, Int.reduceLE, Int.reduceEq, Int.reduceNeg, ↓reduceIte, reduceCtorEq, List.replicate]
      refine call1_of (by rw [hC]; exact codewords_1 w (n + 4) _ _) ?_
      simp (disch := first | omega | assumption | exact bd (by with_unfolding_all rfl) | exact Or.inl rfl | exact Or.inl trivial | exact okL_map _ (fun _ => rfl) _ | (simp only [VVlen] <;> omega) | fail) only [O1, WA, slotsL, opdsA, Nat.reduceEqDiff, Nat.reduceLT, Nat.reduceAdd, Nat.reduceBEq, Int.reduceAdd, Int.reduceSub, Int.reduceLT, Int.reduceLE, Int.reduceEq, Int.reduceNeg, ↓reduceIte, reduceCtorEq, List.replicate, hwo]
      all_goals try (exfalso; omega)
      refine call0_of (hct' _ _) ?_
      simp (disch := first | omega | assumption | exact bd (by with_unfolding_all rfl) | exact Or.inl rfl | exact Or.inl trivial | exact okL_map _ (fun _ => rfl) _ | (simp only [VVlen] <;> omega) | fail) only [O1, WA, slotsL, opdsA, Nat.reduceEqDiff, Nat.reduceLT, Nat.reduceAdd, Nat.reduceBEq, Int.reduceAdd, Int.reduceSub, Int.reduceLT, Int.reduceLE, Int.reduceEq, Int.reduceNeg, ↓reduceIte, reduceCtorEq, List.replicate, eqBV_t, eqBV_f, row1V_ins, appFull_in, appRoom_lo, Nat.zero_add, Int.zero_sub]
      all_goals try (exfalso; omega)
      refine ⟨L.length - (k + 1), _, _, by omega, weak_to [(0, 0)] 1 h0 rfl rfl rfl rfl, k + 1, rfl, by omega, hb3, rfl, ?_⟩
      rw [hsn, ← hzp]
      rfl
  · have hb3 := hb2 (by simpa using hv)
    rw [if_neg hb3]
    rw [if_neg hv] at hbi
    clear hb1 hb2
    obtain ⟨xo, xr, xb, xp, xt, xc, xk⟩ := X
    unfold insV at hag hbi
    simp (disch := first | omega | assumption | exact bd (by with_unfolding_all rfl) | exact Or.inl rfl | exact Or.inl trivial | exact okL_map _ (fun _ => rfl) _ | (simp only [VVlen] <;> omega) | fail) only [O1, WA, slotsL, opdsA, Nat.reduceEqDiff, Nat.reduceLT, Nat.reduceAdd, Nat.reduceBEq, Int.reduceAdd, Int.reduceSub, Int.reduceLT, Int.reduceLE, Int.reduceEq, Int.reduceNeg, ↓reduceIte, reduceCtorEq, List.replicate, c17l0, hag]
    all_goals try (exfalso; omega)
    refine callV_flat (by rw [hC]; exact hbi.flat rfl rfl) ?_
    simp (disch := first | omega | assumption | exact bd (by with_unfolding_all rfl) | exact Or.inl rfl | exact Or.inl trivial | exact okL_map _ (fun _ => rfl) _ | (simp only [VVlen] <;> omega) | fail) only [O1, WA, slotsL, opdsA, Nat.reduceEqDiff, Nat.reduceLT, Nat.reduceAdd, Nat.reduceBEq, Int.reduceAdd, Int.reduceSub, Int.reduceLT, Int.reduceLE, Int.reduceEq, Int.reduceNeg, ↓reduceIte, reduceCtorEq, List.replicate]
    exact weak_finNil h0 rfl
end
end Go.Proofs.YtbefpfbidgfipaaDoor
namespace Go.Proofs.YtbefpfbidgfipaaDoor
open Go Go.Itp
set_option maxRecDepth 100000
set_option maxHeartbeats 800000
set_option linter.unusedSimpArgs false
set_option linter.unusedVariables false
section
variable (w : World) (n : Nat)
end
set_option maxHeartbeats 2000000
theorem words_tx (L : List Ins) (r : List UInt8) : words 10 (tx L ++ r) = L.map textI ++ words 10 r := by
  induction L with
  | nil => simp [tx]
  | cons i L ih =>
    have e : tx (i :: L) ++ r = textI i ++ 10 :: (tx L ++ r) := by simp [tx]
    rw [e, words_app _ (textI_no10 i), ih]; rfl
theorem words_nil (c : UInt8) : words c [] = [[]] := words_free (by simp)
theorem words_tx0 (L : List Ins) : words 10 (tx L) = L.map textI ++ [[]] := by
  have := words_tx L []
  rwa [List.append_nil, words_nil] at this
theorem parseF_tx : ∀ (L : List Ins) (acc : List Ins) (ls : List (List UInt8)), ls ≠ [] → L.all insOK = true → parseF (L.map textI ++ ls) acc = parseF ls (acc ++ L)
  | [], acc, ls, _, _ => by simp
  | i :: L, acc, ls, hl, h => by
    simp only [List.all_cons, Bool.and_eq_true] at h
    rw [List.map_cons, List.cons_append, parseF_some (by simp [hl]) (readO_text (insOK_iff.1 h.1)), parseF_tx L _ ls hl h.2]
    simp
theorem textsF_of {L : List Ins} (h1 : L.length ≤ 2000) (h2 : L.all insOK = true) (h3 : (tx L).length ≤ 40000) : textsF L = (tx L, 0) := by
  unfold textsF
  rw [if_neg (by omega), if_pos h2, if_neg (by omega)]
theorem parseT_tx {L : List Ins} (h1 : L.length ≤ 2000) (h2 : L.all insOK = true) (h3 : (tx L).length ≤ 40000) : parseT (tx L) = (L, 0, 0) := by
  unfold parseT
  rw [words_tx0, if_neg (by simp; omega), parseF_tx _ _ _ (by simp) h2, List.nil_append, parseF_nil]
end Go.Proofs.YtbefpfbidgfipaaDoor
