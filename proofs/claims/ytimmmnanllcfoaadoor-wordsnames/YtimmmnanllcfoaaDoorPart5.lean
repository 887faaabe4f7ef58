/- What is proved: the law WordsNames returns true for every input. Conditions: none beyond the card's own.
   Texts: C41VA, S41D, H41V, P41a, P41b, P41c, P41d, P41e, Q41a, Q41b, Q41c, P41f, Q41d, Q41e, Q41f, Q41g, Q41h, Q41i.
-/
import Derived.Test.YtimmmnanllcfoaaDoorPart4
import Derived.Test.YtimmmnanllcfoaaDoorProg
import Derived.Shelf.Strings.Builder1
import Derived.Shelf.Strings.Builder2
import Derived.Shelf.Strings.OnBuilder
import Derived.Shelf.Utf8.RuneCount
import Derived.Shelf.Strconv.Itoa0
import Derived.Shelf.Strconv.Itoa1
import Derived.Shelf.LaysM
import Derived.Shelf.Strconv.Itoa2
import Derived.Shelf.Strconv.Itoa3
import Derived.Shelf.Strings.Search1
import Derived.Shelf.Strings.Search2
import Derived.Shelf.Strings.Search3
import Derived.Shelf.Strings.Count
import Derived.Shelf.Strings.Shaped
import Derived.Shelf.Strings.Split
import Derived.Shelf.Strings.Replace
import Derived.Shelf.Strings.SplitShaped
import Derived.Shelf.Unicode.Decode
import Derived.Shelf.Strings.RuneCount
import Derived.Shelf.Strings.Explode
import Derived.Shelf.Unicode.DecodeSlow
import Derived.Shelf.Unicode.DecodeAny
import Derived.KernelRfl
import Derived.Lib.Join
import Derived.Lib.Replace
import Derived.Lib.Bytealg
namespace Go.Proofs.YtimmmnanllcfoaaDoor
open Go Go.Itp
set_option maxRecDepth 100000
/- raddle/raddlelaw41.WordsNames -/
def bT6:AC:= .seq (.seq (.ops [a7 239 44,o7 240 239 .lss (o0 100)] [1,2,4,6,8,10,11,12,14,17,20,23,26,28,30,32,33,34,36,38,40,42,43,44,240]) (.cond (.tmp 240) (.skip) (.exit 0))) (.seq (.block 1 (.ops [a7 243 43,b8 244 (.build [(.int .u8 0),(.bool false),(.int .i64 0),(.int .i64 0)] [(0,1,(K9 8)),(1,1,(.const (.bool true)))]),b8 245 (.build [(.int .u8 0),(.bool false),(.int .i64 0),(.int .i64 0)] [(0,1,(K9 2))]),b8 246 (.mkRow 48 4 2 [(.int .u8 0),(.bool false),(.int .i64 0),(.int .i64 0)] [(0,4,(.tmp 244)),(4,4,(.tmp 245))]),b8 247 (.app 48 4 24 (.tmp 243) (.tmp 246)),a7 43 247] [1,2,4,6,8,10,11,12,14,17,20,23,26,28,30,32,33,34,36,38,40,42,43,44])) (.ops [a7 241 44,o7 242 241 .add (o0 1),a7 44 242] [1,2,4,6,8,10,11,12,14,17,20,23,26,28,30,32,33,34,36,38,40,42,43,44]))
def c5:s6:=⟨.seq (.ops [b8 0 (.mov (.const (.bool false)))] []) (.seq (.ops [b8 50 (.callF 20 [(.const (.string ⟨#[]⟩)),(.const (.string ⟨#[110,111,116,104,105,110,103]⟩))]),a7 51 50,n8 52 51 (.callF 20 [(.const (.string ⟨#[107]⟩)),(.const (.string ⟨#[107,110,105,116,32,49]⟩))]),b8 53 (.pick (.tmp 51) (.tmp 52) (.const (.bool false))),a7 54 53,n8 55 54 (.callF 20 [(.const (.string ⟨#[112,50,48,48]⟩)),(.const (.string ⟨#[112,117,114,108,32,50,48,48]⟩))]),b8 56 (.pick (.tmp 54) (.tmp 55) (.const (.bool false))),a7 57 56,n8 58 57 (.callF 20 [(.const (.string ⟨#[107,115]⟩)),(.const (.string ⟨#[115,108,105,112,32,49]⟩))]),b8 59 (.pick (.tmp 57) (.tmp 58) (.const (.bool false))),a7 60 59,n8 61 60 (.callF 20 [(.const (.string ⟨#[112,102,51,32,112,102,51]⟩)),(.const (.string ⟨#[112,117,114,108,32,51,32,116,111,103,101,116,104,101,114,32,40,102,105,114,115,116,32,111,110,32,116,111,112,41,32,50,32,116,105,109,101,115]⟩))]),b8 62 (.pick (.tmp 60) (.tmp 61) (.const (.bool false))),a7 63 62,n8 64 63 (.callF 20 [(.const (.string ⟨#[107,108,50]⟩)),(.const (.string ⟨#[107,110,105,116,32,50,32,116,111,103,101,116,104,101,114]⟩))]),b8 65 (.pick (.tmp 63) (.tmp 64) (.const (.bool false))),a7 66 65,n8 67 66 (.callF 20 [(.const (.string ⟨#[112,108,52,32,107,108,52]⟩)),(.const (.string ⟨#[112,117,114,108,32,52,32,116,111,103,101,116,104,101,114,44,32,107,110,105,116,32,52,32,116,111,103,101,116,104,101,114]⟩))]),b8 68 (.pick (.tmp 66) (.tmp 67) (.const (.bool false))),a7 69 68,n8 70 69 (.callF 20 [(.const (.string ⟨#[107,109,50,32,107,109,50]⟩)),(.const (.string ⟨#[109,97,107,101,32,50,32,111,117,116,32,111,102,32,49,32,50,32,116,105,109,101,115]⟩))]),b8 71 (.pick (.tmp 69) (.tmp 70) (.const (.bool false))),a7 72 71,n8 73 72 (.callF 20 [(.const (.string ⟨#[112,109,50,32,112,109,50]⟩)),(.const (.string ⟨#[109,97,107,101,32,50,32,111,117,116,32,111,102,32,49,32,112,117,114,108,119,105,115,101,32,50,32,116,105,109,101,115]⟩))]),b8 74 (.pick (.tmp 72) (.tmp 73) (.const (.bool false))),a7 75 74,n8 76 75 (.callF 20 [(.const (.string ⟨#[112,120,49,47,54]⟩)),(.const (.string ⟨#[99,114,111,115,115,32,49,32,105,110,32,102,114,111,110,116,32,111,102,32,54,32,112,117,114,108,119,105,115,101]⟩))]),b8 77 (.pick (.tmp 75) (.tmp 76) (.const (.bool false))),a7 78 77,n8 79 78 (.callF 20 [(.const (.string ⟨#[107,121,50,47,50,32,107,121,50,47,50]⟩)),(.const (.string ⟨#[99,114,111,115,115,32,50,32,98,101,104,105,110,100,32,50,32,50,32,116,105,109,101,115]⟩))]),b8 80 (.pick (.tmp 78) (.tmp 79) (.const (.bool false))),a7 81 80,n8 82 81 (.callF 20 [(.const (.string ⟨#[111,110,53]⟩)),(.const (.string ⟨#[99,97,115,116,32,111,110,32,53]⟩))]),b8 83 (.pick (.tmp 81) (.tmp 82) (.const (.bool false))),
  a7 84 83,n8 85 84 (.callF 20 [(.const (.string ⟨#[107,111,55,32,112,111,55]⟩)),(.const (.string ⟨#[98,105,110,100,32,111,102,102,32,55,44,32,98,105,110,100,32,111,102,102,32,55,32,112,117,114,108,119,105,115,101]⟩))]),b8 86 (.pick (.tmp 84) (.tmp 85) (.const (.bool false))),a7 87 86,n8 88 87 (.callF 20 [(.const (.string ⟨#[121,111]⟩)),(.const (.string ⟨#[121,97,114,110,32,111,118,101,114]⟩))]),b8 89 (.pick (.tmp 87) (.tmp 88) (.const (.bool false))),a7 90 89,n8 91 90 (.callF 20 [(.const (.string ⟨#[111,110,49,32,111,110,49]⟩)),(.const (.string ⟨#[99,97,115,116,32,111,110,32,49,32,50,32,116,105,109,101,115]⟩))]),b8 92 (.pick (.tmp 90) (.tmp 91) (.const (.bool false))),a7 1 92] [1]) (.seq (.ops [b8 93 (.callF 21 [(.const (.string ⟨#[]⟩))]),a7 94 93,n8 95 94 (.callF 21 [(.const (.string ⟨#[107,110,105,116,32,48]⟩))]),b8 96 (.pick (.tmp 94) (.tmp 95) (.const (.bool false))),a7 97 96,n8 98 97 (.callF 21 [(.const (.string ⟨#[107,110,105,116]⟩))]),b8 99 (.pick (.tmp 97) (.tmp 98) (.const (.bool false))),a7 100 99,n8 101 100 (.callF 21 [(.const (.string ⟨#[107,110,105,116,32,50,48,49]⟩))]),b8 102 (.pick (.tmp 100) (.tmp 101) (.const (.bool false))),a7 103 102,n8 104 103 (.callF 21 [(.const (.string ⟨#[107,110,105,116,32,48,49]⟩))]),b8 105 (.pick (.tmp 103) (.tmp 104) (.const (.bool false))),a7 106 105,n8 107 106 (.callF 21 [(.const (.string ⟨#[75,110,105,116,32,49]⟩))]),b8 108 (.pick (.tmp 106) (.tmp 107) (.const (.bool false))),a7 109 108,n8 110 109 (.callF 21 [(.const (.string ⟨#[107,110,105,116,32,49,44,112,117,114,108,32,49]⟩))]),b8 111 (.pick (.tmp 109) (.tmp 110) (.const (.bool false))),a7 112 111,n8 113 112 (.callF 21 [(.const (.string ⟨#[107,110,105,116,32,49,44,32]⟩))]),b8 114 (.pick (.tmp 112) (.tmp 113) (.const (.bool false))),a7 115 114,n8 116 115 (.callF 21 [(.const (.string ⟨#[110,111,116,104,105,110,103,44,32,107,110,105,116,32,49]⟩))]),b8 117 (.pick (.tmp 115) (.tmp 116) (.const (.bool false))),a7 118 117,n8 119 118 (.callF 21 [(.const (.string ⟨#[107,110,105,116,32,49,32,116,111,103,101,116,104,101,114]⟩))]),b8 120 (.pick (.tmp 118) (.tmp 119) (.const (.bool false))),a7 121 120,n8 122 121 (.callF 21 [(.const (.string ⟨#[107,110,105,116,32,53,32,116,111,103,101,116,104,101,114]⟩))]),b8 123 (.pick (.tmp 121) (.tmp 122) (.const (.bool false))),a7 124 123,n8 125 124 (.callF 21 [(.const (.string ⟨#[115,108,105,112,32,49,32,119,105,116,104,32,121,97,114,110]⟩))]),b8 126 (.pick (.tmp 124) (.tmp 125) (.const (.bool false))),a7 127 126,n8 128 127 (.callF 21 [(.const (.string ⟨#[99,114,111,115,115,32,55,32,98,101,104,105,110,100,32,49]⟩))]),
  b8 129 (.pick (.tmp 127) (.tmp 128) (.const (.bool false))),a7 130 129,n8 131 130 (.callF 21 [(.const (.string ⟨#[99,97,115,116,32,111,110,32,50,48,49]⟩))]),b8 132 (.pick (.tmp 130) (.tmp 131) (.const (.bool false))),a7 133 132,n8 134 133 (.callF 21 [(.const (.string ⟨#[99,97,115,116,32,111,110,32,53,32,112,117,114,108,119,105,115,101]⟩))]),b8 135 (.pick (.tmp 133) (.tmp 134) (.const (.bool false))),a7 136 135,n8 137 136 (.callF 21 [(.const (.string ⟨#[121,97,114,110,32,111,118,101,114,32,50,32,116,105,109,101,115,44,32,121,97,114,110,32,111,118,101,114]⟩))]),b8 138 (.pick (.tmp 136) (.tmp 137) (.const (.bool false))),a7 139 138,n8 140 139 (.callF 21 [(.const (.string ⟨#[107,110,105,116,32,49,48,48,44,32,112,117,114,108,32,49,48,49]⟩))]),b8 141 (.pick (.tmp 139) (.tmp 140) (.const (.bool false))),a7 142 141,n8 143 142 (.callF 21 [(.const (.string ⟨#[32,107,110,105,116,32,49]⟩))]),b8 144 (.pick (.tmp 142) (.tmp 143) (.const (.bool false))),a7 2 144] [1,2]) (.seq (.ops [b8 146 (.build [(.int .u8 0),(.bool false),(.int .i64 0),(.int .i64 0)] []),b8 147 (.mkRow 48 4 1 [(.int .u8 0),(.bool false),(.int .i64 0),(.int .i64 0)] [(0,4,(.tmp 146))]),P9 148 10 147,a7 145 148,B6 149 145 0,B6 150 145 1,a7 3 149,a7 4 150] [1,2,4]) (.seq (.ops [b8 152 (.mkSlice 48 4 24 [(.int .u8 0),(.bool false),(.int .i64 0),(.int .i64 0)] (o0 201) (o0 201)),P9 153 10 152,a7 151 153,B6 154 151 0,B6 155 151 1,a7 5 154,a7 6 155] [1,2,4,6]) (.seq (.ops [b8 157 (.build [(.bool false),(.slice none 0 0)] []),b8 158 (.callF 15 [(.tmp 157),(o0 0)]),a7 156 158,B6 159 156 0,B6 160 156 1,a7 7 159,a7 8 160] [1,2,4,6,8]) (.seq (.ops [b8 162 (.build [(.int .u8 0),(.bool false),(.int .i64 0),(.int .i64 0)] []),b8 163 (.mkRow 48 4 1 [(.int .u8 0),(.bool false),(.int .i64 0),(.int .i64 0)] [(0,4,(.tmp 162))]),b8 164 (.build [(.bool false),(.slice none 0 0)] [(1,1,(.tmp 163))]),b8 165 (.callF 15 [(.tmp 164),(o0 0)]),a7 161 165,B6 166 161 0,B6 167 161 1,a7 9 166,a7 10 167] [1,2,4,6,8,10]) (.seq (.ops [b8 169 (.build [(.bool false),(.slice none 0 0)] []),b8 170 (.callF 15 [(.tmp 169),(o0 100)]),a7 168 170,B6 171 168 0,B6 172 168 1,a7 11 171,a7 12 172] [1,2,4,6,8,10,11,12]) (.seq (.ops [b8 174 (.build [(.bool false),(.slice none 0 0)] []),b8 175 (.callF 15 [(.tmp 174),(o0 101)]),a7 173 175,B6 176 173 0,B6 177 173 1,a7 13 176,
  a7 14 177] [1,2,4,6,8,10,11,12,14]) (.seq (.ops [b8 179 (.callF 17 [(.const (.string ⟨#[114,111,119,32,49,48,49,32,40,102,114,111,110,116,41,58,32,110,111,116,104,105,110,103,46]⟩))]),a7 178 179,B6 180 178 0,B6 181 178 1,B6 182 178 2,b8 15 (.alloc 36 [(1,(.bool false)),(1,(.slice none 0 0))]),⟨none,none,.store 2 (.tmp 15) (.tmp 180)⟩,a7 16 181,a7 17 182] [1,2,4,6,8,10,11,12,14,17]) (.seq (.ops [b8 184 (.callF 17 [(.const (.string ⟨#[114,111,119,32,49,32,40,102,114,111,110,116,41,58,32,110,111,116,104,105,110,103]⟩))]),a7 183 184,B6 185 183 0,B6 186 183 1,B6 187 183 2,b8 18 (.alloc 36 [(1,(.bool false)),(1,(.slice none 0 0))]),⟨none,none,.store 2 (.tmp 18) (.tmp 185)⟩,a7 19 186,a7 20 187] [1,2,4,6,8,10,11,12,14,17,20]) (.seq (.ops [b8 189 (.callF 17 [(.const (.string ⟨#[114,111,119,32,49,32,40,114,105,103,104,116,41,58,32,110,111,116,104,105,110,103,46]⟩))]),a7 188 189,B6 190 188 0,B6 191 188 1,B6 192 188 2,b8 21 (.alloc 36 [(1,(.bool false)),(1,(.slice none 0 0))]),⟨none,none,.store 2 (.tmp 21) (.tmp 190)⟩,a7 22 191,a7 23 192] [1,2,4,6,8,10,11,12,14,17,20,23]) (.seq (.ops [b8 194 (.callF 17 [(.const (.string ⟨#[114,111,119,32,48,49,32,40,102,114,111,110,116,41,58,32,110,111,116,104,105,110,103,46]⟩))]),a7 193 194,B6 195 193 0,B6 196 193 1,B6 197 193 2,b8 24 (.alloc 36 [(1,(.bool false)),(1,(.slice none 0 0))]),⟨none,none,.store 2 (.tmp 24) (.tmp 195)⟩,a7 25 196,a7 26 197] [1,2,4,6,8,10,11,12,14,17,20,23,26]) (.seq (.ops [b8 199 (.build [(.int .i64 0),(.slice none 0 0)] [(0,1,(o0 201))]),P9 200 22 199,a7 198 200,B6 201 198 0,B6 202 198 1,a7 27 201,a7 28 202] [1,2,4,6,8,10,11,12,14,17,20,23,26,28]) (.seq (.ops [b8 204 (.build [(.int .u8 0),(.bool false),(.int .i64 0),(.int .i64 0)] []),b8 205 (.mkRow 48 4 1 [(.int .u8 0),(.bool false),(.int .i64 0),(.int .i64 0)] [(0,4,(.tmp 204))]),b8 206 (.build [(.bool false),(.slice none 0 0)] [(1,1,(.tmp 205))]),b8 207 (.mkRow 36 2 1 [(.bool false),(.slice none 0 0)] [(0,2,(.tmp 206))]),b8 208 (.build [(.int .i64 0),(.slice none 0 0)] [(0,1,(o0 (-1))),(1,1,(.tmp 207))]),P9 209 22 208,a7 203 209,B6 210 203 0,B6 211 203 1,a7 29 210,a7 30 211] [1,2,4,6,8,10,11,12,14,17,20,23,26,28,30]) (.seq (.ops [b8 213 (.mkSlice 36 2 32 [(.bool false),(.slice none 0 0)] (o0 101) (o0 101)),b8 214 (.build [(.int .i64 0),(.slice none 0 0)] [(1,1,(.tmp 213))]),P9 215 22 214,a7 212 215,B6 216 212 0,B6 217 212 1,
  a7 31 216,a7 32 217] [1,2,4,6,8,10,11,12,14,17,20,23,26,28,30,32]) (.seq (.ops [b8 219 (.build [(.int .i64 0),(.slice none 0 0)] []),P9 220 22 219,a7 218 220,B6 221 218 0,B6 222 218 1,a7 33 221,a7 34 222] [1,2,4,6,8,10,11,12,14,17,20,23,26,28,30,32,33,34]) (.seq (.ops [b8 224 (.callF 23 [(.const (.string ⟨#[115,116,97,114,116,32,119,105,116,104,32,53,32,115,116,105,116,99,104,101,115,46]⟩))]),a7 223 224,B6 225 223 0,B6 226 223 1,b8 35 (.alloc 52 [(1,(.int .i64 0)),(1,(.slice none 0 0))]),⟨none,none,.store 2 (.tmp 35) (.tmp 225)⟩,a7 36 226] [1,2,4,6,8,10,11,12,14,17,20,23,26,28,30,32,33,34,36]) (.seq (.ops [b8 228 (.callF 23 [(.const (.string ⟨#[115,116,97,114,116,32,119,105,116,104,32,53,32,115,116,105,116,99,104,101,115,46,10,114,111,119,32,50,32,40,102,114,111,110,116,41,58,32,107,110,105,116,32,53,46,10]⟩))]),a7 227 228,B6 229 227 0,B6 230 227 1,b8 37 (.alloc 52 [(1,(.int .i64 0)),(1,(.slice none 0 0))]),⟨none,none,.store 2 (.tmp 37) (.tmp 229)⟩,a7 38 230] [1,2,4,6,8,10,11,12,14,17,20,23,26,28,30,32,33,34,36,38]) (.seq (.ops [b8 232 (.callF 23 [(.const (.string ⟨#[115,116,97,114,116,32,119,105,116,104,32,50,48,49,32,115,116,105,116,99,104,101,115,46,10]⟩))]),a7 231 232,B6 233 231 0,B6 234 231 1,b8 39 (.alloc 52 [(1,(.int .i64 0)),(1,(.slice none 0 0))]),⟨none,none,.store 2 (.tmp 39) (.tmp 233)⟩,a7 40 234] [1,2,4,6,8,10,11,12,14,17,20,23,26,28,30,32,33,34,36,38,40]) (.seq (.ops [b8 236 (.callF 23 [(.const (.string ⟨#[]⟩))]),a7 235 236,B6 237 235 0,B6 238 235 1,b8 41 (.alloc 52 [(1,(.int .i64 0)),(1,(.slice none 0 0))]),⟨none,none,.store 2 (.tmp 41) (.tmp 237)⟩,a7 42 238] [1,2,4,6,8,10,11,12,14,17,20,23,26,28,30,32,33,34,36,38,40,42]) (.seq (.ops [b8 43 (.mov (.const (.slice none 0 0)))] [1,2,4,6,8,10,11,12,14,17,20,23,26,28,30,32,33,34,36,38,40,42,43]) (.seq (.seq (.ops [E2 44 0] [1,2,4,6,8,10,11,12,14,17,20,23,26,28,30,32,33,34,36,38,40,42,43,44]) (.block 0 (.loop [1,2,4,6,8,10,11,12,14,17,20,23,26,28,30,32,33,34,36,38,40,42,43,44] bT6))) (.seq (.ops [a7 249 43,P9 250 10 249,a7 248 250,B6 251 248 0,B6 252 248 1,a7 45 251,a7 46 252] [1,2,4,6,8,10,11,12,14,17,20,23,26,28,30,32,33,34,36,38,40,42,43,46]) (.seq (.ops [a7 254 43,b8 255 (.build [(.bool false),(.slice none 0 0)] [(1,1,(.tmp 254))]),b8 256 (.mkRow 36 2 1 [(.bool false),(.slice none 0 0)] [(0,2,(.tmp 255))]),b8 257 (.build [(.int .i64 0),(.slice none 0 0)] [(1,1,(.tmp 256))]),P9 258 22 257,a7 253 258,B6 259 253 0,B6 260 253 1,a7 47 259,a7 48 260] [1,2,4,6,8,10,11,12,14,17,20,23,26,28,30,32,33,34,36,38,40,42,46,48])
  (.seq (.ops [a7 261 4,o7 262 261 .eql (o0 8),a7 263 262,n8 264 263 (.mov (.tmp 6)),n8 265 263 (.bin .eql (.tmp 264) (o0 4)),b8 266 (.pick (.tmp 263) (.tmp 265) (.const (.bool false))),a7 267 266,n8 268 267 (.mov (.tmp 8)),n8 269 267 (.bin .eql (.tmp 268) (o0 2)),b8 270 (.pick (.tmp 267) (.tmp 269) (.const (.bool false))),a7 271 270,n8 272 271 (.mov (.tmp 10)),n8 273 271 (.bin .eql (.tmp 272) (o0 8)),b8 274 (.pick (.tmp 271) (.tmp 273) (.const (.bool false))),a7 275 274,n8 276 275 (.mov (.tmp 14)),n8 277 275 (.bin .eql (.tmp 276) (o0 2)),b8 278 (.pick (.tmp 275) (.tmp 277) (.const (.bool false))),a7 279 278,n8 280 279 (.mov (.tmp 17)),n8 281 279 (.bin .eql (.tmp 280) (o0 12)),b8 282 (.pick (.tmp 279) (.tmp 281) (.const (.bool false))),a7 283 282,n8 284 283 (.mov (.tmp 20)),n8 285 283 (.bin .eql (.tmp 284) (o0 12)),b8 286 (.pick (.tmp 283) (.tmp 285) (.const (.bool false))),a7 287 286,n8 288 287 (.mov (.tmp 23)),n8 289 287 (.bin .eql (.tmp 288) (o0 12)),b8 290 (.pick (.tmp 287) (.tmp 289) (.const (.bool false))),a7 291 290,n8 292 291 (.mov (.tmp 26)),n8 293 291 (.bin .eql (.tmp 292) (o0 12)),b8 294 (.pick (.tmp 291) (.tmp 293) (.const (.bool false))),a7 295 294,n8 296 295 (.mov (.tmp 28)),n8 297 295 (.bin .eql (.tmp 296) (o0 8)),b8 298 (.pick (.tmp 295) (.tmp 297) (.const (.bool false))),a7 299 298,n8 300 299 (.mov (.tmp 30)),n8 301 299 (.bin .eql (.tmp 300) (o0 8)),b8 302 (.pick (.tmp 299) (.tmp 301) (.const (.bool false))),a7 303 302,n8 304 303 (.mov (.tmp 32)),n8 305 303 (.bin .eql (.tmp 304) (o0 4)),b8 306 (.pick (.tmp 303) (.tmp 305) (.const (.bool false))),a7 307 306,n8 308 307 (.mov (.tmp 36)),n8 309 307 (.bin .eql (.tmp 308) (o0 12)),b8 310 (.pick (.tmp 307) (.tmp 309) (.const (.bool false))),a7 311 310,n8 312 311 (.mov (.tmp 38)),n8 313 311 (.bin .eql (.tmp 312) (o0 12)),b8 314 (.pick (.tmp 311) (.tmp 313) (.const (.bool false))),a7 315 314,n8 316 315 (.mov (.tmp 40)),n8 317 315 (.bin .eql (.tmp 316) (o0 12)),b8 318 (.pick (.tmp 315) (.tmp 317) (.const (.bool false))),a7 319 318,n8 320 319 (.mov (.tmp 42)),n8 321 319 (.bin .eql (.tmp 320) (o0 12)),
  b8 322 (.pick (.tmp 319) (.tmp 321) (.const (.bool false))),a7 323 322,n8 324 323 (.mov (.tmp 46)),n8 325 323 (.bin .eql (.tmp 324) (o0 4)),b8 326 (.pick (.tmp 323) (.tmp 325) (.const (.bool false))),a7 327 326,n8 328 327 (.mov (.tmp 48)),n8 329 327 (.bin .eql (.tmp 328) (o0 4)),b8 330 (.pick (.tmp 327) (.tmp 329) (.const (.bool false))),a7 49 330] [1,2,11,12,33,34,49]) (.seq (.ops [b8 331 (.mov (.const (.bool true))),n8 332 331 (.mov (.tmp 1)),b8 333 (.pick (.tmp 331) (.tmp 332) (.const (.bool false))),a7 334 333,n8 335 334 (.mov (.tmp 2)),b8 336 (.pick (.tmp 334) (.tmp 335) (.const (.bool false))),a7 337 336,n8 338 337 (.mov (.tmp 12)),n8 339 337 (.bin .eql (.tmp 338) (o0 0)),b8 340 (.pick (.tmp 337) (.tmp 339) (.const (.bool false))),a7 341 340,n8 342 341 (.mov (.tmp 11)),n8 343 341 (.bin .eql (.tmp 342) (.const (.string ⟨#[114,111,119,32,49,48,48,32,40,102,114,111,110,116,41,58,32,110,111,116,104,105,110,103,46]⟩))),b8 344 (.pick (.tmp 341) (.tmp 343) (.const (.bool false))),a7 345 344,n8 346 345 (.mov (.tmp 49)),b8 347 (.pick (.tmp 345) (.tmp 346) (.const (.bool false))),a7 348 347,n8 349 348 (.mov (.tmp 34)),n8 350 348 (.bin .eql (.tmp 349) (o0 0)),b8 351 (.pick (.tmp 348) (.tmp 350) (.const (.bool false))),a7 352 351,n8 353 352 (.mov (.tmp 33)),n8 354 352 (.bin .eql (.tmp 353) (.const (.string ⟨#[115,116,97,114,116,32,119,105,116,104,32,48,32,115,116,105,116,99,104,101,115,46,10]⟩))),b8 355 (.pick (.tmp 352) (.tmp 354) (.const (.bool false))),a7 356 355,n8 357 356 (.callF 24 []),b8 358 (.pick (.tmp 356) (.tmp 357) (.const (.bool false))),a7 0 358] [0]) (.ret))))))))))))))))))))))))))),359,[(0,none)],true⟩
theorem ok5:q8 Tryd.prog 5 c5:= .code ⟨Tryd.f5,_,c5.code,Tryd.func5,rfl,by kernel_rfl,rfl,by kernel_rfl,by kernel_rfl⟩
/- raddle/n7.Cells -/
def c10:s6:=⟨.seq (.ops [b8 2 (.mov (.const (.string ⟨#[]⟩))),E2 3 0] [0]) (.seq (.seq (.ops [a7 6 0,P9 7 27 6,a7 4 7] [0,4]) (.seq (.ops [a7 8 4,o7 9 8 .neq (o0 0)] [0,4,9]) (.cond (.tmp 9) (.seq (.ops [a7 10 4,b8 2 (.mov (.const (.string ⟨#[]⟩))),a7 3 10] [2,3]) (.ret)) (.skip)))) (.seq (.ops [a7 11 0,P9 12 28 11,a7 5 12] [5]) (.seq (.seq (.ops [a7 13 5,b8 14 (.len true (.tmp 13)),o7 15 14 .gtr (o0 2000)] [5,15]) (.cond (.tmp 15) (.seq (.ops [b8 2 (.mov (.const (.string ⟨#[]⟩))),E2 3 4] [2,3]) (.ret)) (.skip))) (.seq (.ops [a7 16 5,a7 2 16,E2 3 0] [2,3]) (.ret))))),17,[(2,none),(3,none)],true⟩
theorem cM7:q8 Tryd.prog 10 c10:= .code ⟨Tryd.f10,_,c10.code,Tryd.func10,rfl,by kernel_rfl,rfl,by kernel_rfl,by kernel_rfl⟩
/- raddle/n7.ParseCells -/
def XL:AC:= .seq (.ops [o7 39 38 .lss (.tmp 37)] [0,4,7,16,17,18,37,38,39]) (.seq (.cond (.tmp 39) (.skip) (.exit 2)) (.seq (.block 3 (.ops [a7 40 4,b8 41 (.load (some 4) (.tmp 7)),b8 42 (.mkRow 48 4 1 [(.int .u8 0),(.bool false),(.int .i64 0),(.int .i64 0)] [(0,4,(.tmp 41))]),b8 43 (.app 48 4 24 (.tmp 40) (.tmp 42)),a7 4 43] [0,4,7,16,17,18,37,38])) (.ops [o7 44 38 .add (o0 1),a7 38 44] [0,4,7,16,17,18,37,38])))
def xG:AC:= .seq (.ops [o7 19 18 .lss (.tmp 17)] [0,4,16,17,18,19]) (.seq (.cond (.tmp 19) (.skip) (.exit 0)) (.seq (.block 1 (.seq (.ops [b8 20 (.idxS 1 (.tmp 16) (.tmp 18)),O6 21 20,a7 6 21] [0,4,6,16,17,18]) (.seq (.ops [a7 23 6,P9 24 32 23,a7 22 24,B6 25 22 0,B6 26 22 1,B6 27 22 2,b8 7 (.alloc 48 [(1,(.int .u8 0)),(1,(.bool false)),(2,(.int .i64 0))]),⟨none,none,.store 4 (.tmp 7) (.tmp 25)⟩,a7 8 26,a7 9 27] [0,4,7,8,9,16,17,18]) (.seq (.seq (.ops [a7 28 9,b8 29 (.un .not (.tmp 28)),a7 30 29,H2 31 30 (.mov (.tmp 4)),H2 32 30 (.len false (.tmp 31)),H2 33 30 (.mov (.tmp 8)),H2 34 30 (.bin .add (.tmp 32) (.tmp 33)),H2 35 30 (.bin .gtr (.tmp 34) (o0 200)),b8 36 (.pick (.tmp 30) (.const (.bool true)) (.tmp 35))] [0,4,7,8,16,17,18,36]) (.cond (.tmp 36) (.seq (.ops [b8 2 (.mov (.const (.slice none 0 0))),E2 3 12] [2,3]) (.ret)) (.skip))) (.seq (.ops [a7 37 8,E2 38 0] [0,4,7,16,17,18,37,38]) (.block 2 (.loop [0,4,7,16,17,18,37,38] XL))))))) (.ops [o7 45 18 .add (o0 1),a7 18 45] [0,4,16,17,18])))
def c12:s6:=⟨.seq (.ops [b8 2 (.mov (.const (.slice none 0 0))),E2 3 0] [0]) (.seq (.seq (.ops [a7 10 0,b8 11 (.len true (.tmp 10)),o7 12 11 .gtr (o0 2000)] [0,12]) (.cond (.tmp 12) (.seq (.ops [b8 2 (.mov (.const (.slice none 0 0))),E2 3 12] [2,3]) (.ret)) (.skip))) (.seq (.seq (.ops [a7 13 0,b8 14 (.bin .eql (.tmp 13) (.const (.string ⟨#[110,111,116,104,105,110,103]⟩)))] [0,14]) (.cond (.tmp 14) (.seq (.ops [b8 2 (.mov (.const (.slice none 0 0))),E2 3 0] [2,3]) (.ret)) (.skip))) (.seq (.ops [b8 4 (.mov (.const (.slice none 0 0)))] [0,4]) (.seq (.seq (.ops [a7 15 0,b8 16 (.callF 31 [(.tmp 15),(.const (.string ⟨#[44,32]⟩))]),b8 17 (.len false (.tmp 16)),E2 18 0] [0,4,16,17,18]) (.block 0 (.loop [0,4,16,17,18] xG))) (.seq (.seq (.ops [a7 46 4,P9 47 27 46,o7 48 47 .neq (o0 0),a7 49 48,H2 50 49 (.mov (.tmp 4)),H2 51 49 (.callF 28 [.tmp 50]),H2 52 49 (.mov (.tmp 0)),H2 53 49 (.bin .neq (.tmp 51) (.tmp 52)),b8 54 (.pick (.tmp 49) (.const (.bool true)) (.tmp 53))] [4,54]) (.cond (.tmp 54) (.seq (.ops [b8 2 (.mov (.const (.slice none 0 0))),E2 3 12] [2,3]) (.ret)) (.skip))) (.seq (.ops [a7 55 4,a7 2 55,E2 3 0] [2,3]) (.ret))))))),56,[(2,none),(3,none)],true⟩
theorem cM8:q8 Tryd.prog 12 c12:= .code ⟨Tryd.f12,_,c12.code,Tryd.func12,rfl,by kernel_rfl,rfl,by kernel_rfl,by kernel_rfl⟩
/- raddle/raddleref25.Same -/
def XM:AC:= .seq (.seq (.ops [a7 11 5,a7 12 0,b8 13 (.len false (.tmp 12)),o7 14 11 .lss (.tmp 13)] [0,1,5,14]) (.cond (.tmp 14) (.skip) (.exit 0))) (.seq (.block 1 (.seq (.draw [a7 17 0,a7 18 5,b8 19 (.idxS 4 (.tmp 17) (.tmp 18)),b8 20 (.load (some 4) (.tmp 19)),a7 21 1,a7 22 5,b8 23 (.idxS 4 (.tmp 21) (.tmp 22)),b8 24 (.load (some 4) (.tmp 23))] [b8 25 (.eqAgg true [(0,0),(1,2),(2,0),(3,0)] (.tmp 20) (.tmp 24))] [[],[],[],[],[],[],[],[]] [0,1,5,25]) (.cond (.tmp 25) (.seq (.ops [b8 4 (.mov (.const (.bool false)))] [4]) (.ret)) (.skip)))) (.ops [a7 15 5,o7 16 15 .add (o0 1),a7 5 16] [0,1,5]))
def c14:s6:=⟨.seq (.ops [b8 4 (.mov (.const (.bool false)))] [0,1]) (.seq (.seq (.ops [a7 6 0,b8 7 (.len false (.tmp 6)),a7 8 1,b8 9 (.len false (.tmp 8)),o7 10 7 .neq (.tmp 9)] [0,1,10]) (.cond (.tmp 10) (.seq (.ops [b8 4 (.mov (.const (.bool false)))] [4]) (.ret)) (.skip))) (.seq (.seq (.ops [E2 5 0] [0,1,5]) (.block 0 (.loop [0,1,5] XM))) (.seq (.ops [b8 4 (.mov (.const (.bool true)))] [4]) (.ret)))),26,[(4,none)],true⟩
theorem cM9:q8 Tryd.prog 14 c14:= .code ⟨Tryd.f14,_,c14.code,Tryd.func14,rfl,by kernel_rfl,rfl,by kernel_rfl,by kernel_rfl⟩
/- raddle/n7.Row -/
def c15:s6:=⟨.seq (.ops [b8 2 (.box 36 (.tmp 0)),b8 4 (.mov (.const (.string ⟨#[]⟩))),E2 5 0] [1,2]) (.seq (.seq (.ops [S9 9 1 2,O6 10 9,P9 11 27 10,a7 6 11] [1,2,6]) (.seq (.ops [a7 12 6,o7 13 12 .neq (o0 0)] [1,2,6,13]) (.cond (.tmp 13) (.seq (.ops [a7 14 6,b8 4 (.mov (.const (.string ⟨#[]⟩))),a7 5 14] [4,5]) (.ret)) (.skip)))) (.seq (.seq (.ops [a7 15 1,o7 16 15 .lss (o0 1),a7 17 16,H2 18 17 (.mov (.tmp 1)),H2 19 17 (.bin .gtr (.tmp 18) (o0 100)),b8 20 (.pick (.tmp 17) (.const (.bool true)) (.tmp 19))] [1,2,20]) (.cond (.tmp 20) (.seq (.ops [b8 4 (.mov (.const (.string ⟨#[]⟩))),E2 5 2] [4,5]) (.ret)) (.skip))) (.seq (.ops [S9 22 1 2,O6 23 22,P9 24 10 23,a7 21 24,B6 25 21 0,B6 26 21 1,a7 7 25,a7 8 26] [1,2,7,8]) (.seq (.seq (.ops [a7 27 8,o7 28 27 .neq (o0 0)] [1,2,7,8,28]) (.cond (.tmp 28) (.seq (.ops [a7 29 8,b8 4 (.mov (.const (.string ⟨#[]⟩))),a7 5 29] [4,5]) (.ret)) (.skip))) (.seq (.draw [a7 30 1,P9 31 35 30,b8 32 (.bin .add (.const (.string ⟨#[114,111,119,32]⟩)) (.tmp 31)),b8 33 (.bin .add (.tmp 32) (.const (.string ⟨#[32,40]⟩))),S9 34 0 2,O6 35 34,P9 36 36 35,o7 37 33 .add (.tmp 36),b8 38 (.bin .add (.tmp 37) (.const (.string ⟨#[41,58,32]⟩))),a7 39 7] [o7 40 38 .add (.tmp 39),b8 41 (.bin .add (.tmp 40) (.const (.string ⟨#[46]⟩))),a7 4 41,E2 5 0] [[],[],[],[],[false,false,false,false],[true,false,false,false,false],[],[],[],[false,false,false,false,false,false,false,false,false]] [4,5]) (.ret)))))),42,[(4,none),(5,none)],true⟩
theorem cN0:q8 Tryd.prog 15 c15:= .code ⟨Tryd.f15,_,c15.code,Tryd.func15,rfl,by kernel_rfl,rfl,by kernel_rfl,by kernel_rfl⟩
/- raddle/n7.ParseRow -/
def uP:AC:= .seq (.ops [o7 39 38 .lss (o0 2)] [0,2,5,8,37,38,39]) (.seq (.cond (.tmp 39) (.skip) (.exit 0)) (.seq (.block 1 (.seq (.ops [b8 40 (.idxV 2 1 none (.tmp 37) (.tmp 38)),a7 11 40] [0,2,5,8,11,37,38]) (.seq (.ops [a7 42 8,a7 43 11,P9 44 36 43,b8 45 (.bin .add (.tmp 44) (.const (.string ⟨#[41,58,32]⟩))),b8 46 (.callF 40 [(.tmp 42),(.tmp 45)]),a7 41 46,B6 47 41 0,B6 48 41 1,a7 12 47,a7 13 48] [0,2,5,8,11,12,13,37,38]) (.seq (.seq (.ops [a7 49 13,b8 50 (.un .not (.tmp 49))] [0,2,5,8,11,12,37,38,50]) (.cond (.tmp 50) (.exit 1) (.skip))) (.seq (.ops [a7 52 12,P9 53 12 52,a7 51 53,B6 54 51 0,B6 55 51 1,a7 14 54,a7 15 55] [0,2,5,8,11,14,15,37,38]) (.seq (.ops [a7 56 11,a7 57 14,b8 58 (.build [(.bool false),(.slice none 0 0)] [(0,1,(.tmp 56)),(1,1,(.tmp 57))]),b8 16 (.alloc 36 [(1,(.bool false)),(1,(.slice none 0 0))]),⟨none,none,.store 2 (.tmp 16) (.tmp 58)⟩] [0,2,5,8,15,16,37,38]) (.seq (.draw [b8 60 (.load (some 2) (.tmp 16)),a7 61 5,b8 62 (.idxS 1 (.tmp 61) (o0 0)),O6 63 62,b8 64 (.callF 15 [(.tmp 60),(.tmp 63)]),a7 59 64,B6 65 59 0,B6 66 59 1,a7 17 65] [a7 18 66] [[],[],[],[],[],[],[],[],[]] [0,2,5,8,15,16,17,18,37,38]) (.seq (.ops [a7 67 15,o7 68 67 .eql (o0 0),a7 69 68,n8 70 69 (.mov (.tmp 18)),n8 71 69 (.bin .eql (.tmp 70) (o0 0)),b8 72 (.pick (.tmp 69) (.tmp 71) (.const (.bool false))),a7 73 72,n8 74 73 (.mov (.tmp 17)),n8 75 73 (.mov (.tmp 0)),n8 76 73 (.bin .eql (.tmp 74) (.tmp 75)),b8 77 (.pick (.tmp 73) (.tmp 76) (.const (.bool false)))] [0,2,5,8,16,37,38,77]) (.cond (.tmp 77) (.seq (.drawW [⟨b8 78 (.load (some 2) (.tmp 16)),[],none⟩,⟨a7 79 5,[0],none⟩,⟨b8 80 (.idxS 1 (.tmp 79) (o0 0)),[0],none⟩,⟨O6 81 80,[0],none⟩,⟨⟨none,none,.store 2 (.tmp 2) (.tmp 78)⟩,[1,2,3],none⟩] [a7 3 81,E2 4 0] [2,3,4]) (.ret)) (.skip)))))))))) (.ops [o7 82 38 .add (o0 1),a7 38 82] [0,2,5,8,37,38])))
def c17:s6:=⟨.seq (.ops [b8 2 (.alloc 36 [(1,(.bool false)),(1,(.slice none 0 0))]),E2 3 0,E2 4 0] [0,2]) (.seq (.ops [a7 20 0,b8 21 (.callF 38 [(.tmp 20),(.const (.string ⟨#[114,111,119,32,35,32,40]⟩))]),a7 19 21,B6 22 19 0,B6 23 19 1,B6 24 19 2,a7 5 22,a7 6 23,a7 7 24] [0,2,5,6,7]) (.seq (.ops [a7 26 6,b8 27 (.callF 39 [(.tmp 26),(.const (.string ⟨#[46]⟩))]),a7 25 27,B6 28 25 0,B6 29 25 1,a7 8 28,a7 9 29] [0,2,5,7,8,9]) (.seq (.seq (.ops [a7 30 7,b8 31 (.un .not (.tmp 30)),a7 32 31,H2 33 32 (.mov (.tmp 9)),H2 34 32 (.un .not (.tmp 33)),b8 35 (.pick (.tmp 32) (.const (.bool true)) (.tmp 34))] [0,2,5,8,35]) (.cond (.tmp 35) (.seq (.ops [b8 36 (.build [(.bool false),(.slice none 0 0)] []),⟨none,none,.store 2 (.tmp 2) (.tmp 36)⟩,E2 3 0,E2 4 12] [2,3,4]) (.ret)) (.skip))) (.seq (.seq (.ops [b8 37 (.build [(.bool false),(.bool false)] [(0,1,(.const (.bool false))),(1,1,(.const (.bool true)))]),E2 38 0] [0,2,5,8,37,38]) (.block 0 (.loop [0,2,5,8,37,38] uP))) (.seq (.ops [b8 83 (.build [(.bool false),(.slice none 0 0)] []),⟨none,none,.store 2 (.tmp 2) (.tmp 83)⟩,E2 3 0,E2 4 12] [2,3,4]) (.ret)))))),84,[(2,(some (some 2))),(3,none),(4,none)],true⟩
theorem cN1:q8 Tryd.prog 17 c17:= .code ⟨Tryd.f17,_,c17.code,Tryd.func17,rfl,by kernel_rfl,rfl,by kernel_rfl,by kernel_rfl⟩
/- raddle/raddlelaw41.is -/
def c20:s6:=⟨.seq (.ops [b8 4 (.mov (.const (.bool false)))] [0,1]) (.seq (.ops [a7 10 0,P9 11 42 10,P9 12 10 11,a7 9 12,B6 13 9 0,B6 14 9 1,a7 5 13,a7 6 14] [0,1,5,6]) (.seq (.ops [a7 16 1,P9 17 12 16,a7 15 17,B6 18 15 0,B6 19 15 1,a7 7 18,a7 8 19] [0,1,5,6,7,8]) (.seq (.ops [a7 20 6,o7 21 20 .eql (o0 0),a7 22 21,n8 23 22 (.mov (.tmp 5)),n8 24 22 (.mov (.tmp 1)),n8 25 22 (.bin .eql (.tmp 23) (.tmp 24)),b8 26 (.pick (.tmp 22) (.tmp 25) (.const (.bool false))),a7 27 26,n8 28 27 (.mov (.tmp 8)),n8 29 27 (.bin .eql (.tmp 28) (o0 0)),b8 30 (.pick (.tmp 27) (.tmp 29) (.const (.bool false))),a7 31 30,n8 32 31 (.mov (.tmp 7)),n8 33 31 (.mov (.tmp 0)),n8 34 31 (.callF 42 [.tmp 33]),n8 35 31 (.callF 14 [(.tmp 32),(.tmp 34)]),b8 36 (.pick (.tmp 31) (.tmp 35) (.const (.bool false))),a7 4 36] [4]) (.ret)))),37,[(4,none)],true⟩
theorem cN2:q8 Tryd.prog 20 c20:= .code ⟨Tryd.f20,_,c20.code,Tryd.func20,rfl,by kernel_rfl,rfl,by kernel_rfl,by kernel_rfl⟩
/- raddle/raddlelaw41.refused -/
def c21:s6:=⟨.seq (.ops [b8 2 (.mov (.const (.bool false)))] [0]) (.seq (.ops [a7 6 0,P9 7 12 6,a7 5 7,B6 8 5 0,B6 9 5 1,a7 3 8,a7 4 9] [3,4]) (.seq (.ops [a7 10 4,o7 11 10 .eql (o0 12),a7 12 11,n8 13 12 (.mov (.tmp 3)),n8 14 12 (.len false (.tmp 13)),n8 15 12 (.bin .eql (.tmp 14) (o0 0)),b8 16 (.pick (.tmp 12) (.tmp 15) (.const (.bool false))),a7 2 16] [2]) (.ret))),17,[(2,none)],true⟩
theorem cN3:q8 Tryd.prog 21 c21:= .code ⟨Tryd.f21,_,c21.code,Tryd.func21,rfl,by kernel_rfl,rfl,by kernel_rfl,by kernel_rfl⟩
/- raddle/n7.Chart -/
def ML:AC:= .seq (.ops [o7 25 24 .lss (.tmp 23)] [5,22,23,24,25]) (.seq (.cond (.tmp 25) (.skip) (.exit 0)) (.seq (.block 1 (.seq (.ops [a7 26 24,b8 27 (.idxS 2 (.tmp 22) (.tmp 24)),b8 28 (.load (some 2) (.tmp 27)),b8 7 (.alloc 36 [(1,(.bool false)),(1,(.slice none 0 0))]),a7 6 26,⟨none,none,.store 2 (.tmp 7) (.tmp 28)⟩] [5,6,7,22,23,24]) (.seq (.ops [b8 30 (.load (some 2) (.tmp 7)),a7 31 6,o7 32 31 .add (o0 1),b8 33 (.callF 15 [(.tmp 30),(.tmp 32)]),a7 29 33,B6 34 29 0,B6 35 29 1,a7 8 34,a7 9 35] [5,8,9,22,23,24]) (.seq (.seq (.ops [a7 36 9,o7 37 36 .neq (o0 0)] [5,8,9,22,23,24,37]) (.cond (.tmp 37) (.seq (.ops [a7 38 9,b8 2 (.mov (.const (.string ⟨#[]⟩))),a7 3 38] [2,3]) (.ret)) (.skip))) (.ops [a7 39 8,b8 40 (.bin .add (.tmp 39) (.const (.string ⟨#[10]⟩))),b8 41 (.callF 44 [(.tmp 5),(.tmp 40)])] [5,22,23,24]))))) (.ops [o7 42 24 .add (o0 1),a7 24 42] [5,22,23,24])))
def c22:s6:=⟨.seq (.ops [b8 1 (.box 52 (.tmp 0)),b8 2 (.mov (.const (.string ⟨#[]⟩))),E2 3 0] [1]) (.seq (.seq (.ops [b8 10 (.load (some 2) (.tmp 1)),P9 11 43 10,a7 4 11] [1,4]) (.seq (.ops [a7 12 4,o7 13 12 .neq (o0 0)] [1,4,13]) (.cond (.tmp 13) (.seq (.ops [a7 14 4,b8 2 (.mov (.const (.string ⟨#[]⟩))),a7 3 14] [2,3]) (.ret)) (.skip)))) (.seq (.ops [b8 5 (.alloc 83 [(1,(.pointer none)),(1,(.slice none 0 0))])] [1,5]) (.seq (.ops [S9 15 0 1,O6 16 15,P9 17 35 16,b8 18 (.bin .add (.const (.string ⟨#[115,116,97,114,116,32,119,105,116,104,32]⟩)) (.tmp 17)),b8 19 (.bin .add (.tmp 18) (.const (.string ⟨#[32,115,116,105,116,99,104,101,115,46,10]⟩))),b8 20 (.callF 44 [(.tmp 5),(.tmp 19)])] [1,5]) (.seq (.seq (.ops [S9 21 1 1,O6 22 21,b8 23 (.len false (.tmp 22)),E2 24 0] [5,22,23,24]) (.block 0 (.loop [5,22,23,24] ML))) (.seq (.seq (.ops [P9 43 45 5,o7 44 43 .gtr (o0 60000)] [5,44]) (.cond (.tmp 44) (.seq (.ops [b8 2 (.mov (.const (.string ⟨#[]⟩))),E2 3 4] [2,3]) (.ret)) (.skip))) (.seq (.ops [P9 45 46 5,a7 2 45,E2 3 0] [2,3]) (.ret))))))),46,[(2,none),(3,none)],true⟩
theorem cN4:q8 Tryd.prog 22 c22:= .code ⟨Tryd.f22,_,c22.code,Tryd.func22,rfl,by kernel_rfl,rfl,by kernel_rfl,by kernel_rfl⟩
/- raddle/n7.Parse -/
def xH:AC:= .seq (.seq (.ops [a7 45 9,a7 46 4,b8 47 (.len false (.tmp 46)),o7 48 47 .sub (o0 1),o7 49 45 .lss (.tmp 48)] [0,2,4,8,9,49]) (.cond (.tmp 49) (.skip) (.exit 0))) (.seq (.block 1 (.seq (.ops [a7 53 4,a7 54 9,b8 55 (.idxS 1 (.tmp 53) (.tmp 54)),O6 56 55,P9 57 17 56,a7 52 57,B6 58 52 0,B6 59 52 1,B6 60 52 2,b8 10 (.alloc 36 [(1,(.bool false)),(1,(.slice none 0 0))]),⟨none,none,.store 2 (.tmp 10) (.tmp 58)⟩,a7 11 59,a7 12 60] [0,2,4,8,9,10,11,12]) (.seq (.seq (.ops [a7 61 12,o7 62 61 .neq (o0 0),a7 63 62,H2 64 63 (.mov (.tmp 11)),H2 65 63 (.mov (.tmp 9)),H2 66 63 (.bin .neq (.tmp 64) (.tmp 65)),b8 67 (.pick (.tmp 63) (.const (.bool true)) (.tmp 66))] [0,2,4,8,9,10,67]) (.cond (.tmp 67) (.seq (.ops [b8 68 (.build [(.int .i64 0),(.slice none 0 0)] []),⟨none,none,.store 2 (.tmp 2) (.tmp 68)⟩,E2 3 12] [2,3]) (.ret)) (.skip))) (.ops [S9 69 1 8,O6 70 69,b8 71 (.load (some 2) (.tmp 10)),b8 72 (.mkRow 36 2 1 [(.bool false),(.slice none 0 0)] [(0,2,(.tmp 71))]),b8 73 (.app 36 2 32 (.tmp 70) (.tmp 72)),S9 74 1 8,⟨none,none,.store 1 (.tmp 74) (.tmp 73)⟩] [0,2,4,8,9])))) (.ops [a7 50 9,o7 51 50 .add (o0 1),a7 9 51] [0,2,4,8,9]))
def c23:s6:=⟨.seq (.ops [b8 2 (.alloc 52 [(1,(.int .i64 0)),(1,(.slice none 0 0))]),E2 3 0] [0,2]) (.seq (.seq (.ops [a7 15 0,b8 16 (.len true (.tmp 15)),o7 17 16 .gtr (o0 60000)] [0,2,17]) (.cond (.tmp 17) (.seq (.ops [b8 18 (.build [(.int .i64 0),(.slice none 0 0)] []),⟨none,none,.store 2 (.tmp 2) (.tmp 18)⟩,E2 3 12] [2,3]) (.ret)) (.skip))) (.seq (.ops [a7 19 0,b8 20 (.callF 31 [(.tmp 19),(.const (.string ⟨#[10]⟩))]),a7 4 20] [0,2,4]) (.seq (.ops [a7 22 4,b8 23 (.idxS 1 (.tmp 22) (o0 0)),O6 24 23,b8 25 (.callF 38 [(.tmp 24),(.const (.string ⟨#[115,116,97,114,116,32,119,105,116,104,32,35,32,115,116,105,116,99,104,101,115,46]⟩))]),a7 21 25,B6 26 21 0,B6 27 21 1,B6 28 21 2,a7 5 26,a7 6 27,a7 7 28] [0,2,4,5,6,7]) (.seq (.seq (.ops [a7 29 7,b8 30 (.un .not (.tmp 29)),a7 31 30,H2 32 31 (.mov (.tmp 6)),H2 33 31 (.bin .neq (.tmp 32) (.const (.string ⟨#[]⟩))),b8 34 (.pick (.tmp 31) (.const (.bool true)) (.tmp 33)),a7 35 34,H2 36 35 (.mov (.tmp 4)),H2 37 35 (.len false (.tmp 36)),H2 38 35 (.bin .gtr (.tmp 37) (o0 102)),b8 39 (.pick (.tmp 35) (.const (.bool true)) (.tmp 38))] [0,2,4,5,39]) (.cond (.tmp 39) (.seq (.ops [b8 40 (.build [(.int .i64 0),(.slice none 0 0)] []),⟨none,none,.store 2 (.tmp 2) (.tmp 40)⟩,E2 3 12] [2,3]) (.ret)) (.skip))) (.seq (.ops [a7 41 5,b8 42 (.idxS 1 (.tmp 41) (o0 0)),O6 43 42,b8 44 (.build [(.int .i64 0),(.slice none 0 0)] [(0,1,(.tmp 43))]),b8 8 (.alloc 52 [(1,(.int .i64 0)),(1,(.slice none 0 0))]),⟨none,none,.store 2 (.tmp 8) (.tmp 44)⟩] [0,2,4,8]) (.seq (.seq (.ops [E2 9 1] [0,2,4,8,9]) (.block 0 (.loop [0,2,4,8,9] xH))) (.seq (.seq (.ops [b8 76 (.load (some 2) (.tmp 8)),P9 77 22 76,a7 75 77,B6 78 75 0,B6 79 75 1,a7 13 78,a7 14 79] [0,2,8,13,14]) (.seq (.ops [a7 80 14,o7 81 80 .neq (o0 0),a7 82 81,H2 83 82 (.mov (.tmp 13)),H2 84 82 (.mov (.tmp 0)),H2 85 82 (.bin .neq (.tmp 83) (.tmp 84)),b8 86 (.pick (.tmp 82) (.const (.bool true)) (.tmp 85))] [2,8,86]) (.cond (.tmp 86) (.seq (.ops [b8 87 (.build [(.int .i64 0),(.slice none 0 0)] []),⟨none,none,.store 2 (.tmp 2) (.tmp 87)⟩,E2 3 12] [2,3]) (.ret)) (.skip)))) (.seq (.ops [b8 88 (.load (some 2) (.tmp 8)),⟨none,none,.store 2 (.tmp 2) (.tmp 88)⟩,E2 3 0] [2,3]) (.ret))))))))),89,[(2,(some (some 2))),(3,none)],true⟩
theorem cN5:q8 Tryd.prog 23 c23:= .code ⟨Tryd.f23,_,c23.code,Tryd.func23,rfl,by kernel_rfl,rfl,by kernel_rfl,by kernel_rfl⟩
/- raddle/raddlelaw41.alive -/
def c24:s6:=⟨.seq (.ops [b8 0 (.mov (.const (.bool false)))] []) (.seq (.ops [b8 15 (.callF 42 [(.const (.string ⟨#[107,51,32,121,111,32,121,111,32,107,102,50,32,112]⟩))]),P9 16 10 15,a7 14 16,B6 17 14 0,B6 18 14 1,a7 1 17,a7 2 18] [1,2]) (.seq (.ops [b8 20 (.callF 42 [(.const (.string ⟨#[112,115,32,112,115,32,112,109,51,32,107,120,50,47,49]⟩))]),b8 21 (.build [(.bool false),(.slice none 0 0)] [(0,1,(.const (.bool true))),(1,1,(.tmp 20))]),b8 22 (.callF 15 [(.tmp 21),(o0 2)]),a7 19 22,B6 23 19 0,B6 24 19 1,a7 3 23,a7 4 24] [1,2,3,4]) (.seq (.ops [b8 26 (.callF 42 [(.const (.string ⟨#[107,53]⟩))]),b8 27 (.build [(.bool false),(.slice none 0 0)] [(1,1,(.tmp 26))]),b8 28 (.mkRow 36 2 1 [(.bool false),(.slice none 0 0)] [(0,2,(.tmp 27))]),b8 29 (.build [(.int .i64 0),(.slice none 0 0)] [(0,1,(o0 5)),(1,1,(.tmp 28))]),P9 30 22 29,a7 25 30,B6 31 25 0,B6 32 25 1,a7 5 31,a7 6 32] [1,2,3,4,5,6]) (.seq (.ops [b8 34 (.callF 12 [(.const (.string ⟨#[107,110,105,116,32,51,44,32,121,97,114,110,32,111,118,101,114,32,50,32,116,105,109,101,115,44,32,107,110,105,116,32,50,32,116,111,103,101,116,104,101,114,32,40,102,105,114,115,116,32,111,110,32,116,111,112,41,44,32,112,117,114,108,32,49]⟩))]),a7 33 34,B6 35 33 0,B6 36 33 1,a7 7 35,a7 8 36] [1,2,3,4,5,6,7,8]) (.seq (.ops [b8 38 (.callF 17 [(.const (.string ⟨#[114,111,119,32,50,32,40,98,97,99,107,41,58,32,115,108,105,112,32,50,32,119,105,116,104,32,121,97,114,110,32,105,110,32,102,114,111,110,116,44,32,109,97,107,101,32,51,32,111,117,116,32,111,102,32,49,32,112,117,114,108,119,105,115,101,44,32,99,114,111,115,115,32,50,32,105,110,32,102,114,111,110,116,32,111,102,32,49,46]⟩))]),a7 37 38,B6 39 37 0,B6 40 37 1,B6 41 37 2,b8 9 (.alloc 36 [(1,(.bool false)),(1,(.slice none 0 0))]),⟨none,none,.store 2 (.tmp 9) (.tmp 39)⟩,a7 10 40,a7 11 41] [1,2,3,4,5,6,7,8,9,10,11]) (.seq (.ops [b8 43 (.callF 23 [(.const (.string ⟨#[115,116,97,114,116,32,119,105,116,104,32,53,32,115,116,105,116,99,104,101,115,46,10,114,111,119,32,49,32,40,102,114,111,110,116,41,58,32,107,110,105,116,32,53,46,10]⟩))]),a7 42 43,B6 44 42 0,B6 45 42 1,b8 12 (.alloc 52 [(1,(.int .i64 0)),(1,(.slice none 0 0))]),⟨none,none,.store 2 (.tmp 12) (.tmp 44)⟩,a7 13 45] [1,2,3,4,5,6,7,8,9,10,11,12,13]) (.seq (.seq (.ops [a7 46 2,o7 47 46 .neq (o0 0),a7 48 47,H2 49 48 (.mov (.tmp 4)),H2 50 48 (.bin .neq (.tmp 49) (o0 0)),b8 51 (.pick (.tmp 48) (.const (.bool true)) (.tmp 50)),a7 52 51,
  H2 53 52 (.mov (.tmp 6)),H2 54 52 (.bin .neq (.tmp 53) (o0 0)),b8 55 (.pick (.tmp 52) (.const (.bool true)) (.tmp 54)),a7 56 55,H2 57 56 (.mov (.tmp 8)),H2 58 56 (.bin .neq (.tmp 57) (o0 0)),b8 59 (.pick (.tmp 56) (.const (.bool true)) (.tmp 58)),a7 60 59,H2 61 60 (.mov (.tmp 11)),H2 62 60 (.bin .neq (.tmp 61) (o0 0)),b8 63 (.pick (.tmp 60) (.const (.bool true)) (.tmp 62)),a7 64 63,H2 65 64 (.mov (.tmp 13)),H2 66 64 (.bin .neq (.tmp 65) (o0 0)),b8 67 (.pick (.tmp 64) (.const (.bool true)) (.tmp 66)),a7 68 67,H2 69 68 (.fldA 1 (.tmp 12)),H2 70 68 (.load none (.tmp 69)),H2 71 68 (.len false (.tmp 70)),H2 72 68 (.bin .neq (.tmp 71) (o0 1)),b8 73 (.pick (.tmp 68) (.const (.bool true)) (.tmp 72))] [1,3,5,7,9,10,12,73]) (.cond (.tmp 73) (.seq (.ops [b8 0 (.mov (.const (.bool false)))] [0]) (.ret)) (.skip))) (.seq (.draw [a7 74 1,b8 75 (.bin .eql (.tmp 74) (.const (.string ⟨#[107,110,105,116,32,51,44,32,121,97,114,110,32,111,118,101,114,32,50,32,116,105,109,101,115,44,32,107,110,105,116,32,50,32,116,111,103,101,116,104,101,114,32,40,102,105,114,115,116,32,111,110,32,116,111,112,41,44,32,112,117,114,108,32,49]⟩))),a7 76 75,n8 77 76 (.mov (.tmp 3)),n8 78 76 (.bin .eql (.tmp 77) (.const (.string ⟨#[114,111,119,32,50,32,40,98,97,99,107,41,58,32,115,108,105,112,32,50,32,119,105,116,104,32,121,97,114,110,32,105,110,32,102,114,111,110,116,44,32,109,97,107,101,32,51,32,111,117,116,32,111,102,32,49,32,112,117,114,108,119,105,115,101,44,32,99,114,111,115,115,32,50,32,105,110,32,102,114,111,110,116,32,111,102,32,49,46]⟩))),b8 79 (.pick (.tmp 76) (.tmp 78) (.const (.bool false))),a7 80 79,n8 81 80 (.mov (.tmp 5)),n8 82 80 (.bin .eql (.tmp 81) (.const (.string ⟨#[115,116,97,114,116,32,119,105,116,104,32,53,32,115,116,105,116,99,104,101,115,46,10,114,111,119,32,49,32,40,102,114,111,110,116,41,58,32,107,110,105,116,32,53,46,10]⟩))),b8 83 (.pick (.tmp 80) (.tmp 82) (.const (.bool false))),a7 84 83,n8 85 84 (.mov (.tmp 7)),n8 86 84 (.callF 42 [(.const (.string ⟨#[107,51,32,121,111,32,121,111,32,107,102,50,32,112]⟩))]),n8 87 84 (.callF 14 [(.tmp 85),(.tmp 86)]),b8 88 (.pick (.tmp 84) (.tmp 87) (.const (.bool false))),a7 89 88,n8 90 89 (.fldA 0 (.tmp 9)),n8 91 89 (.load none (.tmp 90)),b8 92 (.pick (.tmp 89) (.tmp 91) (.const (.bool false))),a7 93 92,n8 94 93 (.mov (.tmp 10)),n8 95 93 (.bin .eql (.tmp 94) (o0 2)),b8 96 (.pick (.tmp 93) (.tmp 95) (.const (.bool false))),a7 97 96,n8 98 97 (.fldA 1 (.tmp 9)),
  n8 99 97 (.load none (.tmp 98)),n8 100 97 (.callF 42 [(.const (.string ⟨#[112,115,32,112,115,32,112,109,51,32,107,120,50,47,49]⟩))]),n8 101 97 (.callF 14 [(.tmp 99),(.tmp 100)]),b8 102 (.pick (.tmp 97) (.tmp 101) (.const (.bool false))),a7 103 102,n8 104 103 (.fldA 0 (.tmp 12)),n8 105 103 (.load none (.tmp 104)),n8 106 103 (.bin .eql (.tmp 105) (o0 5)),b8 107 (.pick (.tmp 103) (.tmp 106) (.const (.bool false))),a7 108 107,n8 109 108 (.fldA 1 (.tmp 12)),n8 110 108 (.load none (.tmp 109)),n8 111 108 (.idxS 2 (.tmp 110) (o0 0)),n8 112 108 (.fldA 1 (.tmp 111)),n8 113 108 (.load none (.tmp 112)),n8 114 108 (.callF 42 [(.const (.string ⟨#[107,53]⟩))])] [n8 115 108 (.callF 14 [(.tmp 113),(.tmp 114)]),b8 116 (.pick (.tmp 108) (.tmp 115) (.const (.bool false))),a7 117 116,n8 118 117 (.callF 21 [(.const (.string ⟨#[107,110,105,116,32,51,44,32,107,110,105,116,32,49]⟩))]),b8 119 (.pick (.tmp 117) (.tmp 118) (.const (.bool false))),a7 120 119,n8 121 120 (.callF 21 [(.const (.string ⟨#[121,97,114,110,32,111,118,101,114,32,49,32,116,105,109,101,115]⟩))]),b8 122 (.pick (.tmp 120) (.tmp 121) (.const (.bool false))),a7 0 122] [[],[],[],[],[],[],[],[],[],[],[],[],[],[],[],[],[],[],[],[],[],[],[],[],[],[],[],[],[],[],[],[],[],[],[],[],[],[],[],[],[]] [0]) (.ret))))))))),123,[(0,none)],true⟩
theorem cN6:q8 Tryd.prog 24 c24:= .code ⟨Tryd.f24,_,c24.code,Tryd.func24,rfl,by kernel_rfl,rfl,by kernel_rfl,by kernel_rfl⟩
/- raddle/stitch.All -/
def c27:s6:=⟨.seq (.ops [E2 2 0] [0]) (.seq (.seq (.ops [a7 5 0,b8 6 (.len false (.tmp 5)),o7 7 6 .gtr (o0 200)] [0,7]) (.cond (.tmp 7) (.seq (.ops [E2 2 4] [2]) (.ret)) (.skip))) (.seq (.seq (.ops [a7 8 0,b8 9 (.callF 47 [(.tmp 8),(.func 48)])] [0,9]) (.cond (.tmp 9) (.seq (.ops [E2 2 8] [2]) (.ret)) (.skip))) (.seq (.seq (.ops [a7 11 0,P9 12 50 11,a7 10 12,B6 13 10 0,B6 14 10 1,a7 3 13,a7 4 14] [3,4]) (.seq (.ops [a7 15 3,a7 16 4,b8 17 (.mm true (.tmp 15) (.tmp 16)),o7 18 17 .gtr (o0 200)] [18]) (.cond (.tmp 18) (.seq (.ops [E2 2 4] [2]) (.ret)) (.skip)))) (.seq (.ops [E2 2 0] [2]) (.ret))))),19,[(2,none)],true⟩
theorem cN7:q8 Tryd.prog 27 c27:= .code ⟨Tryd.f27,_,c27.code,Tryd.func27,rfl,by kernel_rfl,rfl,by kernel_rfl,by kernel_rfl⟩
/- raddle/n7.write -/
def MM:AC:= .seq (.seq (.draw [a7 15 5,a7 16 0,b8 17 (.len false (.tmp 16)),o7 18 15 .lss (.tmp 17),a7 19 18,n8 20 19 (.mov (.tmp 0)),n8 21 19 (.mov (.tmp 5)),n8 22 19 (.idxS 4 (.tmp 20) (.tmp 21)),n8 23 19 (.load (some 4) (.tmp 22)),n8 24 19 (.mov (.tmp 0)),n8 25 19 (.mov (.tmp 4)),n8 26 19 (.idxS 4 (.tmp 24) (.tmp 25)),n8 27 19 (.load (some 4) (.tmp 26))] [n8 28 19 (.eqAgg false [(0,0),(1,2),(2,0),(3,0)] (.tmp 23) (.tmp 27)),b8 29 (.pick (.tmp 19) (.tmp 28) (.const (.bool false)))] [[],[],[],[],[],[],[],[],[],[],[],[],[]] [0,3,4,5,29]) (.cond (.tmp 29) (.skip) (.exit 2))) (.block 3 (.ops [a7 30 5,o7 31 30 .add (o0 1),a7 5 31] [0,3,4,5]))
def aN8:AC:= .seq (.seq (.ops [a7 9 4,a7 10 0,b8 11 (.len false (.tmp 10)),o7 12 9 .lss (.tmp 11)] [0,3,4,12]) (.cond (.tmp 12) (.skip) (.exit 0))) (.block 1 (.seq (.ops [a7 13 4,o7 14 13 .add (o0 1),a7 5 14] [0,3,4,5]) (.seq (.block 2 (.loop [0,3,4,5] MM)) (.seq (.ops [a7 32 3,a7 33 0,a7 34 4,b8 35 (.idxS 4 (.tmp 33) (.tmp 34)),b8 36 (.load (some 4) (.tmp 35)),a7 37 5,a7 38 4,o7 39 37 .sub (.tmp 38),b8 40 (.callF 51 [(.tmp 36),(.tmp 39)]),b8 41 (.mkRow 9 1 1 [(.string ⟨#[]⟩)] [(0,1,(.tmp 40))]),b8 42 (.app 9 1 16 (.tmp 32) (.tmp 41)),a7 3 42] [0,3,5]) (.ops [a7 43 5,a7 4 43] [0,3,4])))))
def c28:s6:=⟨.seq (.ops [b8 2 (.mov (.const (.string ⟨#[]⟩)))] [0]) (.seq (.seq (.ops [a7 6 0,b8 7 (.len false (.tmp 6)),o7 8 7 .eql (o0 0)] [0,8]) (.cond (.tmp 8) (.seq (.ops [b8 2 (.mov (.const (.string ⟨#[110,111,116,104,105,110,103]⟩)))] [2]) (.ret)) (.skip))) (.seq (.ops [b8 3 (.mov (.const (.slice none 0 0)))] [0,3]) (.seq (.seq (.ops [E2 4 0] [0,3,4]) (.block 0 (.loop [0,3,4] aN8))) (.seq (.ops [a7 44 3,b8 45 (.callF 52 [(.tmp 44),(.const (.string ⟨#[44,32]⟩))]),a7 2 45] [2]) (.ret))))),46,[(2,none)],true⟩
theorem cN8:q8 Tryd.prog 28 c28:= .code ⟨Tryd.f28,_,c28.code,Tryd.func28,rfl,by kernel_rfl,rfl,by kernel_rfl,by kernel_rfl⟩
/- raddle/raddleref25.All -/
def MN:AC:= .seq (.seq (.ops [a7 9 3,a7 10 0,b8 11 (.len false (.tmp 10)),o7 12 9 .lss (.tmp 11)] [0,3,12]) (.cond (.tmp 12) (.skip) (.exit 0))) (.seq (.block 1 (.seq (.ops [a7 15 0,a7 16 3,b8 17 (.idxS 4 (.tmp 15) (.tmp 16)),b8 18 (.load (some 4) (.tmp 17)),P9 19 53 18,o7 20 19 .neq (o0 0)] [0,3,20]) (.cond (.tmp 20) (.seq (.ops [E2 2 8] [2]) (.ret)) (.skip)))) (.ops [a7 13 3,o7 14 13 .add (o0 1),a7 3 14] [0,3]))
def c29:s6:=⟨.seq (.ops [E2 2 0] [0]) (.seq (.seq (.ops [a7 6 0,b8 7 (.len false (.tmp 6)),o7 8 7 .gtr (o0 200)] [0,8]) (.cond (.tmp 8) (.seq (.ops [E2 2 4] [2]) (.ret)) (.skip))) (.seq (.seq (.ops [E2 3 0] [0,3]) (.block 0 (.loop [0,3] MN))) (.seq (.ops [a7 22 0,P9 23 54 22,a7 21 23,B6 24 21 0,B6 25 21 1,a7 4 24,a7 5 25] [4,5]) (.seq (.seq (.ops [a7 26 4,o7 27 26 .gtr (o0 200),a7 28 27,H2 29 28 (.mov (.tmp 5)),H2 30 28 (.bin .gtr (.tmp 29) (o0 200)),b8 31 (.pick (.tmp 28) (.const (.bool true)) (.tmp 30))] [31]) (.cond (.tmp 31) (.seq (.ops [E2 2 4] [2]) (.ret)) (.skip))) (.seq (.ops [E2 2 0] [2]) (.ret)))))),32,[(2,none)],true⟩
theorem cN9:q8 Tryd.prog 29 c29:= .code ⟨Tryd.f29,_,c29.code,Tryd.func29,rfl,by kernel_rfl,rfl,by kernel_rfl,by kernel_rfl⟩
/- strings.Split -/
def c31:s6:=⟨.seq (.ops [b8 4 (.mov (.const (.slice none 0 0)))] [0,1]) (.seq (.ops [a7 5 0,a7 6 1,b8 7 (.callF 56 [(.tmp 5),(.tmp 6),(o0 0),(o0 (-1))]),a7 4 7] [4]) (.ret)),8,[(4,none)],true⟩
theorem cO0:q8 Tryd.prog 31 c31:= .code ⟨Tryd.f31,_,c31.code,Tryd.func31,rfl,by kernel_rfl,rfl,by kernel_rfl,by kernel_rfl⟩
/- raddle/n7.read -/
def Q4:AC:= .seq (.ops [o7 21 20 .lss (o0 2)] [0,2,5,20,21]) (.seq (.cond (.tmp 21) (.skip) (.exit 2)) (.seq (.block 3 (.seq (.ops [a7 22 20,a7 6 22] [0,2,5,6,20]) (.seq (.ops [a7 23 5,a7 24 6,o7 25 24 .eql (o0 1),b8 26 (.build [(.int .u8 0),(.bool false),(.int .i64 0),(.int .i64 0)] [(0,1,(.tmp 23)),(1,1,(.tmp 25))]),b8 7 (.alloc 48 [(1,(.int .u8 0)),(1,(.bool false)),(2,(.int .i64 0))]),⟨none,none,.store 4 (.tmp 7) (.tmp 26)⟩,E2 8 1] [0,2,5,7,8,20]) (.seq (.ops [a7 28 5,S9 29 1 7,O6 30 29,b8 31 (.callF 57 [(.tmp 28),(.tmp 30)]),a7 27 31,B6 32 27 0,B6 33 27 1,a7 9 32,a7 10 33] [0,2,5,7,8,9,10,20]) (.seq (.ops [a7 35 0,a7 36 9,b8 37 (.callF 38 [(.tmp 35),(.tmp 36)]),a7 34 37,B6 38 34 0,B6 39 34 1,B6 40 34 2,a7 11 38,a7 12 39,a7 13 40] [0,2,5,7,8,10,11,12,13,20]) (.seq (.seq (.ops [a7 41 13,b8 42 (.un .not (.tmp 41))] [0,2,5,7,8,10,11,12,20,42]) (.cond (.tmp 42) (.exit 3) (.skip))) (.seq (.block 4 (.seq (.ops [a7 44 10,a7 43 44] [0,2,5,7,8,10,11,12,20,43]) (.cond (.tmp 43) (.ops [a7 45 11,b8 46 (.idxS 1 (.tmp 45) (o0 0)),O6 47 46,a7 8 47] [0,2,5,7,8,10,12,20]) (.seq (.ops [a7 49 11,b8 50 (.len false (.tmp 49)),o7 51 50 .eql (o0 2),a7 48 51] [0,2,5,7,8,10,11,12,20,48]) (.cond (.tmp 48) (.drawW [⟨a7 52 11,[],none⟩,⟨b8 53 (.idxS 1 (.tmp 52) (o0 0)),[],none⟩,⟨O6 54 53,[],none⟩,⟨a7 55 11,[0,1,2],none⟩,⟨b8 56 (.idxS 1 (.tmp 55) (o0 1)),[0,1,2],none⟩,⟨O6 57 56,[0,1,2],none⟩,⟨S9 58 2 7,[3,4,5],none⟩,⟨⟨none,none,.store 1 (.tmp 58) (.tmp 54)⟩,[3,4,5],none⟩] [S9 59 3 7,⟨none,none,.store 1 (.tmp 59) (.tmp 57)⟩] [0,2,5,7,8,10,12,20]) (.seq (.ops [a7 61 11,b8 62 (.len false (.tmp 61)),o7 63 62 .eql (o0 1),a7 60 63] [0,2,5,7,8,10,11,12,20,60]) (.cond (.tmp 60) (.ops [a7 64 11,b8 65 (.idxS 1 (.tmp 64) (o0 0)),O6 66 65,S9 67 2 7,⟨none,none,.store 1 (.tmp 67) (.tmp 66)⟩] [0,2,5,7,8,10,12,20]) (.skip)))))))) (.seq (.seq (.ops [a7 69 12,b8 70 (.callF 39 [(.tmp 69),(.const (.string ⟨#[32,116,105,109,101,115]⟩))]),a7 68 70,B6 71 68 0,B6 72 68 1,a7 14 71,a7 15 72] [0,2,5,7,8,10,12,14,15,20]) (.seq (.ops [a7 73 15,a7 74 73,n8 75 74 (.mov (.tmp 10)),n8 76 74 (.un .not (.tmp 75)),
  b8 77 (.pick (.tmp 74) (.tmp 76) (.const (.bool false)))] [0,2,5,7,8,12,14,20,77]) (.cond (.tmp 77) (.ops [a7 79 14,b8 80 (.callF 59 [(.tmp 79),(.const (.string ⟨#[32]⟩))]),P9 81 58 80,a7 78 81,B6 82 78 0,B6 83 78 1,B6 84 78 2,a7 8 82,a7 12 83] [0,2,5,7,8,12,20]) (.skip)))) (.seq (.ops [a7 85 12,b8 86 (.bin .eql (.tmp 85) (.const (.string ⟨#[]⟩))),a7 87 86,n8 88 87 (.mov (.tmp 8)),n8 89 87 (.bin .geq (.tmp 88) (o0 1)),b8 90 (.pick (.tmp 87) (.tmp 89) (.const (.bool false))),a7 91 90,n8 92 91 (.mov (.tmp 8)),n8 93 91 (.bin .leq (.tmp 92) (o0 200)),b8 94 (.pick (.tmp 91) (.tmp 93) (.const (.bool false))),a7 95 94,n8 96 95 (.load (some 4) (.tmp 7)),n8 97 95 (.callF 49 [.tmp 96]),n8 98 95 (.bin .eql (.tmp 97) (o0 0)),b8 99 (.pick (.tmp 95) (.tmp 98) (.const (.bool false))),a7 100 99,n8 101 100 (.load (some 4) (.tmp 7)),n8 102 100 (.mov (.tmp 8)),n8 103 100 (.callF 51 [(.tmp 101),(.tmp 102)]),n8 104 100 (.mov (.tmp 0)),n8 105 100 (.bin .eql (.tmp 103) (.tmp 104)),b8 106 (.pick (.tmp 100) (.tmp 105) (.const (.bool false)))] [0,2,5,7,8,20,106]) (.cond (.tmp 106) (.seq (.ops [b8 107 (.load (some 4) (.tmp 7)),a7 108 8,⟨none,none,.store 4 (.tmp 2) (.tmp 107)⟩,a7 3 108,b8 4 (.mov (.const (.bool true)))] [2,3,4]) (.ret)) (.skip))))))))))) (.ops [o7 109 20 .add (o0 1),a7 20 109] [0,2,5,20])))
def aN9:AC:= .seq (.seq (.ops [a7 16 5,o7 17 16 .leq (K9 10)] [0,2,5,17]) (.cond (.tmp 17) (.skip) (.exit 0))) (.seq (.block 1 (.seq (.ops [E2 20 0] [0,2,5,20]) (.block 2 (.loop [0,2,5,20] Q4)))) (.ops [a7 18 5,o7 19 18 .add (K9 1),a7 5 19] [0,2,5]))
def c32:s6:=⟨.seq (.ops [b8 2 (.alloc 48 [(1,(.int .u8 0)),(1,(.bool false)),(2,(.int .i64 0))]),E2 3 0,b8 4 (.mov (.const (.bool false)))] [0,2]) (.seq (.seq (.ops [b8 5 (.mov (K9 1))] [0,2,5]) (.block 0 (.loop [0,2,5] aN9))) (.seq (.ops [b8 110 (.build [(.int .u8 0),(.bool false),(.int .i64 0),(.int .i64 0)] []),⟨none,none,.store 4 (.tmp 2) (.tmp 110)⟩,E2 3 0,b8 4 (.mov (.const (.bool false)))] [2,3,4]) (.ret))),111,[(2,(some (some 4))),(3,none),(4,none)],true⟩
theorem cO1:q8 Tryd.prog 32 c32:= .code ⟨Tryd.f32,_,c32.code,Tryd.func32,rfl,by kernel_rfl,rfl,by kernel_rfl,by kernel_rfl⟩
/- raddle/n7.face -/
def c36:s6:=⟨.seq (.ops [b8 2 (.mov (.const (.string ⟨#[]⟩)))] [0]) (.seq (.seq (.ops [a7 3 0] [3]) (.cond (.tmp 3) (.seq (.ops [b8 2 (.mov (.const (.string ⟨#[98,97,99,107]⟩)))] [2]) (.ret)) (.skip))) (.seq (.ops [b8 2 (.mov (.const (.string ⟨#[102,114,111,110,116]⟩)))] [2]) (.ret))),4,[(2,none)],true⟩
theorem cO2:q8 Tryd.prog 36 c36:= .code ⟨Tryd.f36,_,c36.code,Tryd.func36,rfl,by kernel_rfl,rfl,by kernel_rfl,by kernel_rfl⟩
/- raddle/n7.match -/
def xJ:AC:= .seq (.ops [o7 20 19 .lss (.tmp 18)] [0,4,17,18,19,20]) (.seq (.cond (.tmp 20) (.skip) (.exit 0)) (.seq (.block 1 (.seq (.ops [a7 21 19,b8 22 (.idxS 1 (.tmp 17) (.tmp 19)),O6 23 22,a7 8 21,a7 9 23] [0,4,8,9,17,18,19]) (.seq (.seq (.ops [a7 24 8,o7 25 24 .gtr (o0 0)] [0,4,9,17,18,19,25]) (.cond (.tmp 25) (.seq (.ops [a7 27 0,P9 28 58 27,a7 26 28,B6 29 26 0,B6 30 26 1,B6 31 26 2,a7 10 29,a7 11 30,a7 12 31] [4,9,10,11,12,17,18,19]) (.seq (.seq (.ops [a7 32 12,b8 33 (.un .not (.tmp 32))] [4,9,10,11,17,18,19,33]) (.cond (.tmp 33) (.seq (.ops [b8 4 (.mov (.const (.slice none 0 0))),b8 5 (.mov (.const (.string ⟨#[]⟩))),b8 6 (.mov (.const (.bool false)))] [4,5,6]) (.ret)) (.skip))) (.ops [a7 34 4,a7 35 10,b8 36 (.mkRow 3 1 1 [(.int .i64 0)] [(0,1,(.tmp 35))]),b8 37 (.app 3 1 8 (.tmp 34) (.tmp 36)),a7 38 11,a7 4 37,a7 0 38] [0,4,9,17,18,19]))) (.skip))) (.seq (.ops [a7 40 0,a7 41 9,b8 42 (.callF 40 [(.tmp 40),(.tmp 41)]),a7 39 42,B6 43 39 0,B6 44 39 1,a7 13 43,a7 14 44] [4,13,14,17,18,19]) (.seq (.seq (.ops [a7 45 14,b8 46 (.un .not (.tmp 45))] [4,13,17,18,19,46]) (.cond (.tmp 46) (.seq (.ops [b8 4 (.mov (.const (.slice none 0 0))),b8 5 (.mov (.const (.string ⟨#[]⟩))),b8 6 (.mov (.const (.bool false)))] [4,5,6]) (.ret)) (.skip))) (.ops [a7 47 13,a7 0 47] [0,4,17,18,19])))))) (.ops [o7 48 19 .add (o0 1),a7 19 48] [0,4,17,18,19])))
def c38:s6:=⟨.seq (.ops [b8 4 (.mov (.const (.slice none 0 0))),b8 5 (.mov (.const (.string ⟨#[]⟩))),b8 6 (.mov (.const (.bool false)))] [0,1,4]) (.seq (.ops [a7 15 1,b8 16 (.callF 31 [(.tmp 15),(.const (.string ⟨#[35]⟩))]),a7 7 16] [0,4,7]) (.seq (.seq (.ops [a7 17 7,b8 18 (.len false (.tmp 17)),E2 19 0] [0,4,17,18,19]) (.block 0 (.loop [0,4,17,18,19] xJ))) (.seq (.ops [a7 49 4,a7 50 0,a7 4 49,a7 5 50,b8 6 (.mov (.const (.bool true)))] [4,5,6]) (.ret)))),51,[(4,none),(5,none),(6,none)],true⟩
theorem cO3:q8 Tryd.prog 38 c38:= .code ⟨Tryd.f38,_,c38.code,Tryd.func38,rfl,by kernel_rfl,rfl,by kernel_rfl,by kernel_rfl⟩
/- strings.CutSuffix -/
def c39:s6:=⟨.seq (.ops [b8 4 (.mov (.const (.string ⟨#[]⟩))),b8 5 (.mov (.const (.bool false)))] [0,1]) (.seq (.ops [a7 6 0,a7 7 1,b8 8 (.callF 65 [(.tmp 6),(.tmp 7)]),B6 9 8 0,B6 10 8 1,a7 4 9,a7 5 10] [4,5]) (.ret)),11,[(4,none),(5,none)],true⟩
theorem cO4:q8 Tryd.prog 39 c39:= .code ⟨Tryd.f39,_,c39.code,Tryd.func39,rfl,by kernel_rfl,rfl,by kernel_rfl,by kernel_rfl⟩
/- strings.CutPrefix -/
def c40:s6:=⟨.seq (.ops [b8 4 (.mov (.const (.string ⟨#[]⟩))),b8 5 (.mov (.const (.bool false)))] [0,1]) (.seq (.ops [a7 6 0,a7 7 1,b8 8 (.callF 66 [(.tmp 6),(.tmp 7)]),B6 9 8 0,B6 10 8 1,a7 4 9,a7 5 10] [4,5]) (.ret)),11,[(4,none),(5,none)],true⟩
theorem cO5:q8 Tryd.prog 40 c40:= .code ⟨Tryd.f40,_,c40.code,Tryd.func40,rfl,by kernel_rfl,rfl,by kernel_rfl,by kernel_rfl⟩
/- raddle/raddlelaw41.cells -/
def c42:s6:=⟨.seq (.ops [b8 2 (.mov (.const (.slice none 0 0)))] [0]) (.seq (.ops [a7 6 0,P9 7 67 6,a7 5 7,B6 8 5 0,B6 9 5 1,a7 3 8,a7 4 9] [3,4]) (.seq (.seq (.ops [a7 10 4,o7 11 10 .neq (o0 0)] [3,11]) (.cond (.tmp 11) (.seq (.ops [b8 2 (.mov (.const (.slice none 0 0)))] [2]) (.ret)) (.skip))) (.seq (.ops [a7 12 3,a7 2 12] [2]) (.ret)))),13,[(2,none)],true⟩
theorem cO6:q8 Tryd.prog 42 c42:= .code ⟨Tryd.f42,_,c42.code,Tryd.func42,rfl,by kernel_rfl,rfl,by kernel_rfl,by kernel_rfl⟩
/- raddle/n7.Check -/
def XN:AC:= .seq (.ops [o7 22 21 .lss (.tmp 20)] [19,20,21,22]) (.seq (.cond (.tmp 22) (.skip) (.exit 0)) (.seq (.block 1 (.seq (.ops [b8 23 (.idxS 2 (.tmp 19) (.tmp 21)),b8 24 (.load (some 2) (.tmp 23)),b8 4 (.alloc 36 [(1,(.bool false)),(1,(.slice none 0 0))]),⟨none,none,.store 2 (.tmp 4) (.tmp 24)⟩] [4,19,20,21]) (.seq (.ops [S9 25 1 4,O6 26 25,P9 27 27 26,a7 5 27] [5,19,20,21]) (.seq (.ops [a7 28 5,o7 29 28 .neq (o0 0)] [5,19,20,21,29]) (.cond (.tmp 29) (.seq (.ops [a7 30 5,a7 2 30] [2]) (.ret)) (.skip)))))) (.ops [o7 31 21 .add (o0 1),a7 21 31] [19,20,21])))
def c43:s6:=⟨.seq (.ops [b8 1 (.box 52 (.tmp 0)),E2 2 0] [1]) (.seq (.seq (.ops [S9 6 1 1,O6 7 6,b8 8 (.len false (.tmp 7)),o7 9 8 .gtr (o0 100)] [1,9]) (.cond (.tmp 9) (.seq (.ops [E2 2 4] [2]) (.ret)) (.skip))) (.seq (.seq (.ops [S9 10 0 1,O6 11 10,o7 12 11 .lss (o0 0),a7 13 12,H2 14 13 (.fldA 0 (.tmp 1)),H2 15 13 (.load none (.tmp 14)),H2 16 13 (.bin .gtr (.tmp 15) (o0 200)),b8 17 (.pick (.tmp 13) (.const (.bool true)) (.tmp 16))] [1,17]) (.cond (.tmp 17) (.seq (.ops [E2 2 8] [2]) (.ret)) (.skip))) (.seq (.seq (.ops [S9 18 1 1,O6 19 18,b8 20 (.len false (.tmp 19)),E2 21 0] [19,20,21]) (.block 0 (.loop [19,20,21] XN))) (.seq (.ops [E2 2 0] [2]) (.ret))))),32,[(2,none)],true⟩
theorem cO7:q8 Tryd.prog 43 c43:= .code ⟨Tryd.f43,_,c43.code,Tryd.func43,rfl,by kernel_rfl,rfl,by kernel_rfl,by kernel_rfl⟩
/- (*strings.Builder).WriteString -/
def c44:s6:=⟨.seq (.ops [E2 4 0,b8 5 (.mov (.const .nilIface))] [0,1]) (.seq (.ops [a7 6 0,P9 7 68 6] [0,1]) (.seq (.ops [a7 8 0,a7 9 0,b8 10 (.nilChk (.tmp 9)),S9 11 1 10,O6 12 11,a7 13 1,b8 14 (.app 5 1 1 (.tmp 12) (.tmp 13)),b8 15 (.nilChk (.tmp 8)),S9 16 1 15,⟨none,none,.store 1 (.tmp 16) (.tmp 14)⟩] [1]) (.seq (.ops [a7 17 1,b8 18 (.len true (.tmp 17)),a7 4 18,b8 5 (.mov (.const .nilIface))] [4,5]) (.ret)))),19,[(4,none),(5,none)],false⟩
theorem cO8:q8 Tryd.prog 44 c44:= .code ⟨Tryd.f44,_,c44.code,Tryd.func44,rfl,by kernel_rfl,rfl,by kernel_rfl,by kernel_rfl⟩
/- (*strings.Builder).Len -/
def c45:s6:=⟨.seq (.ops [E2 2 0] [0]) (.seq (.ops [a7 3 0,b8 4 (.nilChk (.tmp 3)),S9 5 1 4,O6 6 5,b8 7 (.len false (.tmp 6)),a7 2 7] [2]) (.ret)),8,[(2,none)],true⟩
theorem cO9:q8 Tryd.prog 45 c45:= .code ⟨Tryd.f45,_,c45.code,Tryd.func45,rfl,by kernel_rfl,rfl,by kernel_rfl,by kernel_rfl⟩
/- (*strings.Builder).String -/
def c46:s6:=⟨.seq (.ops [b8 2 (.mov (.const (.string ⟨#[]⟩)))] [0]) (.seq (.draw [a7 3 0,b8 4 (.nilChk (.tmp 3)),S9 5 1 4,O6 6 5,b8 7 (.sdata (.tmp 6)),a7 8 0,b8 9 (.nilChk (.tmp 8)),S9 10 1 9,O6 11 10,b8 12 (.len false (.tmp 11))] [b8 13 (.ustr 5 (.tmp 7) (.tmp 12)),a7 2 13] [[],[],[],[],[],[],[],[],[],[]] [2]) (.ret)),14,[(2,none)],false⟩
theorem cP0:q8 Tryd.prog 46 c46:= .code ⟨Tryd.f46,_,c46.code,Tryd.func46,rfl,by kernel_rfl,rfl,by kernel_rfl,by kernel_rfl⟩
/- slices.ContainsFunc[[]raddle/api.Stitch,raddle/api.Stitch] -/
def c47:s6:=⟨.seq (.ops [b8 4 (.mov (.const (.bool false)))] [0,1]) (.seq (.ops [a7 5 0,a7 6 1,b8 7 (.callF 69 [(.tmp 5),(.tmp 6)]),o7 8 7 .geq (o0 0),a7 4 8] [4]) (.ret)),9,[(4,none)],true⟩
theorem cP1:q8 Tryd.prog 47 c47:= .code ⟨Tryd.f47,_,c47.code,Tryd.func47,rfl,by kernel_rfl,rfl,by kernel_rfl,by kernel_rfl⟩
/- raddle/stitch.All$1 -/
def c48:s6:=⟨.seq (.ops [b8 1 (.box 48 (.tmp 0)),b8 2 (.mov (.const (.bool false)))] [1]) (.seq (.ops [b8 3 (.load (some 4) (.tmp 1)),P9 4 49 3,o7 5 4 .neq (o0 0),a7 2 5] [2]) (.ret)),6,[(2,none)],true⟩
theorem cP2:q8 Tryd.prog 48 c48:= .code ⟨Tryd.f48,_,c48.code,Tryd.func48,rfl,by kernel_rfl,rfl,by kernel_rfl,by kernel_rfl⟩
/- raddle/stitch.Check -/
def c49:s6:=⟨.seq (.ops [b8 1 (.box 48 (.tmp 0)),E2 2 0] [1]) (.seq (.ops [S9 6 0 1,O6 7 6,P9 8 70 7,a7 5 8,B6 9 5 0,B6 10 5 1,b8 3 (.alloc 110 [(1,(.string ⟨#[]⟩)),(4,(.int .i64 0)),(1,(.bool false)),(2,(.int .i64 0))]),⟨none,none,.store 8 (.tmp 3) (.tmp 9)⟩,a7 4 10] [1,3,4]) (.seq (.seq (.ops [a7 11 4,b8 12 (.un .not (.tmp 11)),a7 13 12,H2 14 13 (.fldA 2 (.tmp 1)),H2 15 13 (.load none (.tmp 14)),H2 16 13 (.fldA 1 (.tmp 3)),H2 17 13 (.load (some 2) (.tmp 16)),H2 18 13 (.callF 71 [(.tmp 15),(.tmp 17)]),H2 19 13 (.un .not (.tmp 18)),b8 20 (.pick (.tmp 13) (.const (.bool true)) (.tmp 19)),a7 21 20,H2 22 21 (.fldA 3 (.tmp 1)),H2 23 21 (.load none (.tmp 22)),H2 24 21 (.fldA 3 (.tmp 3)),H2 25 21 (.load (some 2) (.tmp 24)),H2 26 21 (.callF 71 [(.tmp 23),(.tmp 25)]),H2 27 21 (.un .not (.tmp 26)),b8 28 (.pick (.tmp 21) (.const (.bool true)) (.tmp 27)),a7 29 28,H2 30 29 (.fldA 1 (.tmp 1)),H2 31 29 (.load none (.tmp 30)),H2 32 29 (.mov (.tmp 31)),n8 33 32 (.fldA 5 (.tmp 3)),n8 34 32 (.load none (.tmp 33)),n8 35 32 (.un .not (.tmp 34)),H2 36 29 (.pick (.tmp 32) (.tmp 35) (.const (.bool false))),b8 37 (.pick (.tmp 29) (.const (.bool true)) (.tmp 36))] [37]) (.cond (.tmp 37) (.seq (.ops [E2 2 8] [2]) (.ret)) (.skip))) (.seq (.ops [E2 2 0] [2]) (.ret)))),38,[(2,none)],true⟩
theorem cP3:q8 Tryd.prog 49 c49:= .code ⟨Tryd.f49,_,c49.code,Tryd.func49,rfl,by kernel_rfl,rfl,by kernel_rfl,by kernel_rfl⟩
/- raddle/stitch.sum -/
def aO0:AC:= .seq (.ops [o7 11 10 .lss (.tmp 9)] [2,3,8,9,10,11]) (.seq (.cond (.tmp 11) (.skip) (.exit 0)) (.seq (.block 1 (.seq (.ops [b8 12 (.idxS 4 (.tmp 8) (.tmp 10)),b8 13 (.load (some 4) (.tmp 12)),b8 5 (.alloc 48 [(1,(.int .u8 0)),(1,(.bool false)),(2,(.int .i64 0))]),⟨none,none,.store 4 (.tmp 5) (.tmp 13)⟩] [2,3,5,8,9,10]) (.seq (.ops [S9 15 0 5,O6 16 15,P9 17 70 16,a7 14 17,B6 18 14 0,B6 19 14 1,b8 6 (.alloc 110 [(1,(.string ⟨#[]⟩)),(4,(.int .i64 0)),(1,(.bool false)),(2,(.int .i64 0))]),⟨none,none,.store 8 (.tmp 6) (.tmp 18)⟩,a7 7 19] [2,3,5,6,8,9,10]) (.seq (.ops [a7 20 2,b8 21 (.load (some 4) (.tmp 5)),S9 22 6 6,O6 23 22,b8 24 (.callF 72 [(.tmp 21),(.tmp 23)]),o7 25 20 .add (.tmp 24),a7 2 25] [2,3,5,6,8,9,10]) (.ops [a7 26 3,b8 27 (.load (some 4) (.tmp 5)),S9 28 7 6,O6 29 28,b8 30 (.callF 72 [(.tmp 27),(.tmp 29)]),o7 31 26 .add (.tmp 30),a7 3 31] [2,3,8,9,10]))))) (.ops [o7 32 10 .add (o0 1),a7 10 32] [2,3,8,9,10])))
def c50:s6:=⟨.seq (.ops [E2 2 0,E2 3 0] [0,2,3]) (.seq (.seq (.ops [a7 8 0,b8 9 (.len false (.tmp 8)),E2 10 0] [2,3,8,9,10]) (.block 0 (.loop [2,3,8,9,10] aO0))) (.seq (.ops [a7 33 2,a7 34 3,a7 2 33,a7 3 34] [2,3]) (.ret))),35,[(2,none),(3,none)],true⟩
theorem cP4:q8 Tryd.prog 50 c50:= .code ⟨Tryd.f50,_,c50.code,Tryd.func50,rfl,by kernel_rfl,rfl,by kernel_rfl,by kernel_rfl⟩
/- raddle/n7.phrase -/
def c51:s6:=⟨.seq (.ops [b8 2 (.box 48 (.tmp 0)),b8 4 (.mov (.const (.string ⟨#[]⟩)))] [1,2]) (.seq (.ops [S9 8 0 2,O6 9 8,S9 10 1 2,O6 11 10,b8 12 (.callF 57 [(.tmp 9),(.tmp 11)]),a7 7 12,B6 13 7 0,B6 14 7 1,a7 5 13,a7 6 14] [1,2,5,6]) (.seq (.seq (.ops [a7 15 6] [1,2,5,15]) (.cond (.tmp 15) (.seq (.ops [a7 16 5,a7 17 1,P9 18 35 17,b8 19 (.callF 73 [(.tmp 16),(.const (.string ⟨#[35]⟩)),(.tmp 18),(o0 1)]),a7 4 19] [4]) (.ret)) (.skip))) (.seq (.ops [a7 20 5,S9 21 2 2,O6 22 21,P9 23 35 22,b8 24 (.callF 73 [(.tmp 20),(.const (.string ⟨#[35]⟩)),(.tmp 23),(o0 1)]),a7 5 24] [1,2,5]) (.seq (.ops [a7 25 5,S9 26 3 2,O6 27 26,P9 28 35 27,b8 29 (.callF 73 [(.tmp 25),(.const (.string ⟨#[35]⟩)),(.tmp 28),(o0 1)]),a7 5 29] [1,5]) (.seq (.seq (.ops [a7 30 1,o7 31 30 .gtr (o0 1)] [1,5,31]) (.cond (.tmp 31) (.ops [a7 32 5,a7 33 1,P9 34 35 33,b8 35 (.bin .add (.const (.string ⟨#[32]⟩)) (.tmp 34)),b8 36 (.bin .add (.tmp 35) (.const (.string ⟨#[32,116,105,109,101,115]⟩))),o7 37 32 .add (.tmp 36),a7 5 37] [5]) (.skip))) (.seq (.ops [a7 38 5,a7 4 38] [4]) (.ret))))))),39,[(4,none)],true⟩
theorem cP5:q8 Tryd.prog 51 c51:= .code ⟨Tryd.f51,_,c51.code,Tryd.func51,rfl,by kernel_rfl,rfl,by kernel_rfl,by kernel_rfl⟩
/- raddle/raddleref25.Check -/
def c53:s6:=⟨.seq (.ops [b8 1 (.box 48 (.tmp 0)),E2 2 0] [1]) (.seq (.ops [S9 5 2 1,O6 6 5,o7 7 6 .eql (o0 0),a7 8 7,n8 9 8 (.fldA 3 (.tmp 1)),n8 10 8 (.load none (.tmp 9)),n8 11 8 (.bin .eql (.tmp 10) (o0 0)),b8 12 (.pick (.tmp 8) (.tmp 11) (.const (.bool false))),a7 3 12] [1,3]) (.seq (.ops [b8 4 (.mov (.const (.bool false)))] [1,3,4]) (.seq (.seq (.ops [S9 13 0 1,O6 14 13] [1,3,4,14]) (.block 0 (.seq (.seq (.ops [o7 16 14 .eql (K9 1),a7 15 16] [1,3,4,14,15]) (.cond (.tmp 15) (.skip) (.ops [o7 17 14 .eql (K9 8),a7 15 17] [1,3,4,14,15]))) (.cond (.tmp 15) (.ops [a7 18 3,a7 4 18] [4]) (.seq (.ops [o7 20 14 .eql (K9 2),a7 19 20] [1,3,4,14,19]) (.cond (.tmp 19) (.ops [a7 21 3,a7 22 21,n8 23 22 (.fldA 1 (.tmp 1)),n8 24 22 (.load none (.tmp 23)),n8 25 22 (.un .not (.tmp 24)),b8 26 (.pick (.tmp 22) (.tmp 25) (.const (.bool false))),a7 4 26] [4]) (.seq (.seq (.ops [o7 28 14 .eql (K9 3),a7 27 28] [1,4,14,27]) (.cond (.tmp 27) (.skip) (.seq (.ops [o7 29 14 .eql (K9 4),a7 27 29] [1,4,14,27]) (.cond (.tmp 27) (.skip) (.ops [o7 30 14 .eql (K9 5),a7 27 30] [1,4,14,27]))))) (.cond (.tmp 27) (.ops [S9 31 3 1,O6 32 31,o7 33 32 .eql (o0 0),a7 34 33,n8 35 34 (.fldA 2 (.tmp 1)),n8 36 34 (.load none (.tmp 35)),n8 37 34 (.bin .geq (.tmp 36) (o0 2)),b8 38 (.pick (.tmp 34) (.tmp 37) (.const (.bool false))),a7 39 38,n8 40 39 (.fldA 2 (.tmp 1)),n8 41 39 (.load none (.tmp 40)),n8 42 39 (.bin .leq (.tmp 41) (o0 4)),b8 43 (.pick (.tmp 39) (.tmp 42) (.const (.bool false))),a7 4 43] [4]) (.seq (.seq (.ops [o7 45 14 .eql (K9 6),a7 44 45] [1,4,14,44]) (.cond (.tmp 44) (.skip) (.ops [o7 46 14 .eql (K9 7),a7 44 46] [1,4,14,44]))) (.cond (.tmp 44) (.ops [S9 47 2 1,O6 48 47,o7 49 48 .geq (o0 1),a7 50 49,n8 51 50 (.fldA 2 (.tmp 1)),n8 52 50 (.load none (.tmp 51)),n8 53 50 (.bin .leq (.tmp 52) (o0 6)),b8 54 (.pick (.tmp 50) (.tmp 53) (.const (.bool false))),a7 55 54,n8 56 55 (.fldA 3 (.tmp 1)),n8 57 55 (.load none (.tmp 56)),n8 58 55 (.bin .geq (.tmp 57) (o0 1)),
  b8 59 (.pick (.tmp 55) (.tmp 58) (.const (.bool false))),a7 60 59,n8 61 60 (.fldA 3 (.tmp 1)),n8 62 60 (.load none (.tmp 61)),n8 63 60 (.bin .leq (.tmp 62) (o0 6)),b8 64 (.pick (.tmp 60) (.tmp 63) (.const (.bool false))),a7 4 64] [4]) (.seq (.ops [o7 66 14 .eql (K9 9),a7 65 66] [1,4,14,65]) (.cond (.tmp 65) (.ops [S9 67 3 1,O6 68 67,o7 69 68 .eql (o0 0),a7 70 69,n8 71 70 (.fldA 1 (.tmp 1)),n8 72 70 (.load none (.tmp 71)),n8 73 70 (.un .not (.tmp 72)),b8 74 (.pick (.tmp 70) (.tmp 73) (.const (.bool false))),a7 75 74,n8 76 75 (.fldA 2 (.tmp 1)),n8 77 75 (.load none (.tmp 76)),n8 78 75 (.bin .geq (.tmp 77) (o0 1)),b8 79 (.pick (.tmp 75) (.tmp 78) (.const (.bool false))),a7 80 79,n8 81 80 (.fldA 2 (.tmp 1)),n8 82 80 (.load none (.tmp 81)),n8 83 80 (.bin .leq (.tmp 82) (o0 200)),b8 84 (.pick (.tmp 80) (.tmp 83) (.const (.bool false))),a7 4 84] [4]) (.seq (.ops [o7 86 14 .eql (K9 10),a7 85 86] [1,4,85]) (.cond (.tmp 85) (.ops [S9 87 3 1,O6 88 87,o7 89 88 .eql (o0 0),a7 90 89,n8 91 90 (.fldA 2 (.tmp 1)),n8 92 90 (.load none (.tmp 91)),n8 93 90 (.bin .geq (.tmp 92) (o0 1)),b8 94 (.pick (.tmp 90) (.tmp 93) (.const (.bool false))),a7 95 94,n8 96 95 (.fldA 2 (.tmp 1)),n8 97 95 (.load none (.tmp 96)),n8 98 95 (.bin .leq (.tmp 97) (o0 200)),b8 99 (.pick (.tmp 95) (.tmp 98) (.const (.bool false))),a7 4 99] [4]) (.skip))))))))))))))) (.seq (.seq (.ops [a7 100 4,b8 101 (.un .not (.tmp 100))] [101]) (.cond (.tmp 101) (.seq (.ops [E2 2 8] [2]) (.ret)) (.skip))) (.seq (.ops [E2 2 0] [2]) (.ret)))))),102,[(2,none)],true⟩
theorem cP6:q8 Tryd.prog 53 c53:= .code ⟨Tryd.f53,_,c53.code,Tryd.func53,rfl,by kernel_rfl,rfl,by kernel_rfl,by kernel_rfl⟩
/- raddle/raddleref25.sums -/
def aO1:AC:= .seq (.seq (.ops [a7 7 6,a7 8 0,b8 9 (.len false (.tmp 8)),o7 10 7 .lss (.tmp 9)] [0,4,5,6,10]) (.cond (.tmp 10) (.skip) (.exit 0))) (.seq (.block 1 (.seq (.ops [a7 13 4,a7 14 0,a7 15 6,b8 16 (.idxS 4 (.tmp 14) (.tmp 15)),b8 17 (.load (some 4) (.tmp 16)),P9 18 75 17,o7 19 13 .add (.tmp 18),a7 4 19] [0,4,5,6]) (.ops [a7 20 5,a7 21 0,a7 22 6,b8 23 (.idxS 4 (.tmp 21) (.tmp 22)),b8 24 (.load (some 4) (.tmp 23)),P9 25 76 24,o7 26 20 .add (.tmp 25),a7 5 26] [0,4,5,6]))) (.ops [a7 11 6,o7 12 11 .add (o0 1),a7 6 12] [0,4,5,6]))
def c54:s6:=⟨.seq (.ops [E2 2 0,E2 3 0] [0]) (.seq (.ops [E2 4 0,E2 5 0] [0,4,5]) (.seq (.seq (.ops [E2 6 0] [0,4,5,6]) (.block 0 (.loop [0,4,5,6] aO1))) (.seq (.ops [a7 27 4,a7 28 5,a7 2 27,a7 3 28] [2,3]) (.ret)))),29,[(2,none),(3,none)],true⟩
theorem cP7:q8 Tryd.prog 54 c54:= .code ⟨Tryd.f54,_,c54.code,Tryd.func54,rfl,by kernel_rfl,rfl,by kernel_rfl,by kernel_rfl⟩
/- strings.genSplit -/
def MO:AC:= .seq (.seq (.ops [a7 34 10,a7 35 3,o7 36 34 .lss (.tmp 35)] [0,1,2,3,9,10,36]) (.cond (.tmp 36) (.skip) (.exit 0))) (.block 1 (.seq (.ops [a7 37 0,a7 38 1,b8 39 (.callF 81 [(.tmp 37),(.tmp 38)]),a7 11 39] [0,1,2,3,9,10,11]) (.seq (.seq (.ops [a7 40 11,o7 41 40 .lss (o0 0)] [0,1,2,3,9,10,11,41]) (.cond (.tmp 41) (.exit 0) (.skip))) (.seq (.ops [a7 42 9,a7 43 10,a7 44 0,a7 45 11,a7 46 2,o7 47 45 .add (.tmp 46),b8 48 (.slcS (.tmp 44) none (some (.tmp 47))),b8 49 (.idxS 1 (.tmp 42) (.tmp 43)),⟨none,none,.store 1 (.tmp 49) (.tmp 48)⟩] [0,1,2,3,9,10,11]) (.seq (.ops [a7 50 0,a7 51 11,a7 52 1,b8 53 (.len true (.tmp 52)),o7 54 51 .add (.tmp 53),b8 55 (.slcS (.tmp 50) (some (.tmp 54)) none),a7 0 55] [0,1,2,3,9,10]) (.ops [a7 56 10,o7 57 56 .add (o0 1),a7 10 57] [0,1,2,3,9,10]))))))
def c56:s6:=⟨.seq (.ops [b8 8 (.mov (.const (.slice none 0 0)))] [0,1,2,3]) (.seq (.seq (.ops [a7 12 3,o7 13 12 .eql (o0 0)] [0,1,2,3,13]) (.cond (.tmp 13) (.seq (.ops [b8 8 (.mov (.const (.slice none 0 0)))] [8]) (.ret)) (.skip))) (.seq (.seq (.ops [a7 14 1,b8 15 (.bin .eql (.tmp 14) (.const (.string ⟨#[]⟩)))] [0,1,2,3,15]) (.cond (.tmp 15) (.seq (.ops [a7 16 0,a7 17 3,b8 18 (.callF 79 [(.tmp 16),(.tmp 17)]),a7 8 18] [8]) (.ret)) (.skip))) (.seq (.seq (.ops [a7 19 3,o7 20 19 .lss (o0 0)] [0,1,2,3,20]) (.cond (.tmp 20) (.ops [a7 21 0,a7 22 1,b8 23 (.callF 80 [(.tmp 21),(.tmp 22)]),o7 24 23 .add (o0 1),a7 3 24] [0,1,2,3]) (.skip))) (.seq (.ops [a7 25 3,a7 26 0,b8 27 (.len true (.tmp 26)),o7 28 27 .add (o0 1),b8 29 (.mm false (.tmp 25) (.tmp 28)),a7 3 29] [0,1,2,3]) (.seq (.ops [a7 30 3,b8 31 (.mkSlice 9 1 16 [(.string ⟨#[]⟩)] (.tmp 30) (.tmp 30)),a7 9 31] [0,1,2,3,9]) (.seq (.ops [a7 32 3,o7 33 32 .sub (o0 1),a7 3 33] [0,1,2,3,9]) (.seq (.ops [E2 10 0] [0,1,2,3,9,10]) (.seq (.block 0 (.loop [0,1,2,3,9,10] MO)) (.seq (.ops [a7 58 9,a7 59 10,a7 60 0,b8 61 (.idxS 1 (.tmp 58) (.tmp 59)),⟨none,none,.store 1 (.tmp 61) (.tmp 60)⟩] [9,10]) (.seq (.ops [a7 62 9,a7 63 10,o7 64 63 .add (o0 1),b8 65 (.slc 1 (.tmp 62) none (some (.tmp 64)) none),a7 8 65] [8]) (.ret))))))))))),66,[(8,none)],true⟩
theorem cP8:q8 Tryd.prog 56 c56:= .code ⟨Tryd.f56,_,c56.code,Tryd.func56,rfl,by kernel_rfl,rfl,by kernel_rfl,by kernel_rfl⟩
/- raddle/n7.form -/
def c57:s6:=⟨.seq (.ops [b8 4 (.mov (.const (.string ⟨#[]⟩))),b8 5 (.mov (.const (.bool false)))] [0,1]) (.seq (.ops [b8 6 (.mov (.const (.string ⟨#[]⟩)))] [0,1,6]) (.seq (.seq (.ops [a7 7 1] [0,1,6,7]) (.cond (.tmp 7) (.ops [b8 6 (.mov (.const (.string ⟨#[32,112,117,114,108,119,105,115,101]⟩)))] [0,1,6]) (.skip))) (.seq (.seq (.ops [a7 8 0] [1,6,8]) (.block 0 (.seq (.ops [o7 10 8 .eql (K9 1),a7 9 10] [1,6,8,9]) (.cond (.tmp 9) (.seq (.ops [a7 11 1,P9 12 82 11,b8 13 (.bin .add (.tmp 12) (.const (.string ⟨#[32,35]⟩))),a7 4 13,b8 5 (.mov (.const (.bool true)))] [4,5]) (.ret)) (.seq (.ops [o7 15 8 .eql (K9 8),a7 14 15] [1,6,8,14]) (.cond (.tmp 14) (.seq (.seq (.ops [a7 16 1] [16]) (.cond (.tmp 16) (.seq (.ops [b8 4 (.mov (.const (.string ⟨#[115,108,105,112,32,35,32,119,105,116,104,32,121,97,114,110,32,105,110,32,102,114,111,110,116]⟩))),b8 5 (.mov (.const (.bool true)))] [4,5]) (.ret)) (.skip))) (.seq (.ops [b8 4 (.mov (.const (.string ⟨#[115,108,105,112,32,35]⟩))),b8 5 (.mov (.const (.bool true)))] [4,5]) (.ret))) (.seq (.ops [o7 18 8 .eql (K9 2),a7 17 18] [1,6,8,17]) (.cond (.tmp 17) (.seq (.ops [b8 4 (.mov (.const (.string ⟨#[121,97,114,110,32,111,118,101,114]⟩))),b8 5 (.mov (.const (.bool false)))] [4,5]) (.ret)) (.seq (.ops [o7 20 8 .eql (K9 3),a7 19 20] [1,6,8,19]) (.cond (.tmp 19) (.seq (.ops [a7 21 1,P9 22 82 21,b8 23 (.bin .add (.tmp 22) (.const (.string ⟨#[32,35,32,116,111,103,101,116,104,101,114,32,40,102,105,114,115,116,32,111,110,32,116,111,112,41]⟩))),a7 4 23,b8 5 (.mov (.const (.bool false)))] [4,5]) (.ret)) (.seq (.ops [o7 25 8 .eql (K9 4),a7 24 25] [1,6,8,24]) (.cond (.tmp 24) (.seq (.ops [a7 26 1,P9 27 82 26,b8 28 (.bin .add (.tmp 27) (.const (.string ⟨#[32,35,32,116,111,103,101,116,104,101,114]⟩))),a7 4 28,b8 5 (.mov (.const (.bool false)))] [4,5]) (.ret)) (.seq (.ops [o7 30 8 .eql (K9 5),a7 29 30] [6,8,29]) (.cond (.tmp 29) (.seq (.ops [a7 31 6,b8 32 (.bin .add (.const (.string ⟨#[109,97,107,101,32,35,32,111,117,116,32,111,102,32,49]⟩)) (.tmp 31)),a7 4 32,b8 5 (.mov (.const (.bool false)))] [4,5]) (.ret)) (.seq (.ops [o7 34 8 .eql (K9 6),a7 33 34] [6,8,33]) (.cond (.tmp 33) (.seq (.ops [a7 35 6,b8 36 (.bin .add (.const (.string ⟨#[99,114,111,115,115,32,35,32,105,110,32,102,114,111,110,116,32,111,102,32,35]⟩)) (.tmp 35)),a7 4 36,b8 5 (.mov (.const (.bool false)))] [4,5]) (.ret)) (.seq (.ops [o7 38 8 .eql (K9 7),a7 37 38] [6,8,37]) (.cond (.tmp 37) (.seq (.ops [a7 39 6,
  b8 40 (.bin .add (.const (.string ⟨#[99,114,111,115,115,32,35,32,98,101,104,105,110,100,32,35]⟩)) (.tmp 39)),a7 4 40,b8 5 (.mov (.const (.bool false)))] [4,5]) (.ret)) (.seq (.ops [o7 42 8 .eql (K9 9),a7 41 42] [6,41]) (.cond (.tmp 41) (.seq (.ops [b8 4 (.mov (.const (.string ⟨#[99,97,115,116,32,111,110,32,35]⟩))),b8 5 (.mov (.const (.bool false)))] [4,5]) (.ret)) (.skip))))))))))))))))))))) (.seq (.ops [a7 43 6,b8 44 (.bin .add (.const (.string ⟨#[98,105,110,100,32,111,102,102,32,35]⟩)) (.tmp 43)),a7 4 44,b8 5 (.mov (.const (.bool false)))] [4,5]) (.ret))))),45,[(4,none),(5,none)],true⟩
theorem cP9:q8 Tryd.prog 57 c57:= .code ⟨Tryd.f57,_,c57.code,Tryd.func57,rfl,by kernel_rfl,rfl,by kernel_rfl,by kernel_rfl⟩
/- raddle/n7.number -/
def MP:AC:= .seq (.seq (.ops [a7 6 5,a7 7 0,b8 8 (.len true (.tmp 7)),o7 9 6 .lss (.tmp 8),a7 10 9,n8 11 10 (.mov (.tmp 5)),n8 12 10 (.bin .lss (.tmp 11) (o0 4)),b8 13 (.pick (.tmp 10) (.tmp 12) (.const (.bool false))),a7 14 13,n8 15 14 (.mov (.tmp 0)),n8 16 14 (.mov (.tmp 5)),n8 17 14 (.idxStr (.tmp 15) (.tmp 16)),n8 18 14 (.bin .geq (.tmp 17) (K9 48)),b8 19 (.pick (.tmp 14) (.tmp 18) (.const (.bool false))),a7 20 19,n8 21 20 (.mov (.tmp 0)),n8 22 20 (.mov (.tmp 5)),n8 23 20 (.idxStr (.tmp 21) (.tmp 22)),n8 24 20 (.bin .leq (.tmp 23) (K9 57)),b8 25 (.pick (.tmp 20) (.tmp 24) (.const (.bool false)))] [0,2,5,25]) (.cond (.tmp 25) (.skip) (.exit 0))) (.block 1 (.seq (.ops [a7 26 2,b8 27 (.bin .mul (o0 10) (.tmp 26)),a7 28 0,a7 29 5,b8 30 (.idxStr (.tmp 28) (.tmp 29)),o7 31 30 .sub (K9 48),b8 32 (.convI .i64 (.tmp 31)),o7 33 27 .add (.tmp 32),a7 2 33] [0,2,5]) (.ops [a7 34 5,o7 35 34 .add (o0 1),a7 5 35] [0,2,5])))
def c58:s6:=⟨.seq (.ops [E2 2 0,b8 3 (.mov (.const (.string ⟨#[]⟩))),b8 4 (.mov (.const (.bool false)))] [0,2]) (.seq (.ops [E2 5 0] [0,2,5]) (.seq (.block 0 (.loop [0,2,5] MP)) (.seq (.draw [a7 36 2,a7 37 0,a7 38 5,b8 39 (.slcS (.tmp 37) (some (.tmp 38)) none),a7 40 5,o7 41 40 .gtr (o0 0),a7 2 36,a7 3 39] [a7 4 41] [[],[],[],[],[],[],[],[]] [2,3,4]) (.ret)))),42,[(2,none),(3,none),(4,none)],true⟩
theorem cQ0:q8 Tryd.prog 58 c58:= .code ⟨Tryd.f58,_,c58.code,Tryd.func58,rfl,by kernel_rfl,rfl,by kernel_rfl,by kernel_rfl⟩
/- strings.TrimPrefix -/
def c59:s6:=⟨.seq (.ops [b8 4 (.mov (.const (.string ⟨#[]⟩)))] [0,1]) (.seq (.ops [a7 5 0,a7 6 1,b8 7 (.callF 83 [(.tmp 5),(.tmp 6)]),a7 4 7] [4]) (.ret)),8,[(4,none)],true⟩
theorem cQ1:q8 Tryd.prog 59 c59:= .code ⟨Tryd.f59,_,c59.code,Tryd.func59,rfl,by kernel_rfl,rfl,by kernel_rfl,by kernel_rfl⟩
/- raddle/raddleref25.Decimal -/
def aO2:AC:= .seq (.seq (.ops [a7 12 0,o7 13 12 .gtr (o0 0)] [0,3,13]) (.cond (.tmp 13) (.skip) (.exit 0))) (.seq (.block 1 (.ops [a7 16 0,o7 17 16 .rem (o0 10),b8 18 (.bin .add (o0 48) (.tmp 17)),b8 19 (.convI .u8 (.tmp 18)),b8 20 (.mkRow 5 1 1 [(.int .u8 0)] [(0,1,(.tmp 19))]),b8 21 (.b2s (.tmp 20)),a7 22 3,o7 23 21 .add (.tmp 22),a7 3 23] [0,3])) (.ops [a7 14 0,o7 15 14 .quo (o0 10),a7 0 15] [0,3]))
def c64:s6:=⟨.seq (.ops [b8 2 (.mov (.const (.string ⟨#[]⟩)))] [0]) (.seq (.ops [a7 4 0,o7 5 4 .rem (o0 10),b8 6 (.bin .add (o0 48) (.tmp 5)),b8 7 (.convI .u8 (.tmp 6)),b8 8 (.mkRow 5 1 1 [(.int .u8 0)] [(0,1,(.tmp 7))]),b8 9 (.b2s (.tmp 8)),a7 3 9] [0,3]) (.seq (.seq (.ops [a7 10 0,o7 11 10 .quo (o0 10),a7 0 11] [0,3]) (.block 0 (.loop [0,3] aO2))) (.seq (.ops [a7 24 3,a7 2 24] [2]) (.ret)))),25,[(2,none)],true⟩
theorem cQ2:q8 Tryd.prog 64 c64:= .code ⟨Tryd.f64,_,c64.code,Tryd.func64,rfl,by kernel_rfl,rfl,by kernel_rfl,by kernel_rfl⟩
/- internal/stringslite.CutSuffix -/
def c65:s6:=⟨.seq (.ops [b8 4 (.mov (.const (.string ⟨#[]⟩))),b8 5 (.mov (.const (.bool false)))] [0,1]) (.seq (.seq (.ops [a7 6 0,a7 7 1,b8 8 (.callF 87 [(.tmp 6),(.tmp 7)]),b8 9 (.un .not (.tmp 8))] [0,1,9]) (.cond (.tmp 9) (.seq (.ops [a7 10 0,a7 4 10,b8 5 (.mov (.const (.bool false)))] [4,5]) (.ret)) (.skip))) (.seq (.ops [a7 11 0,a7 12 0,b8 13 (.len true (.tmp 12)),a7 14 1,b8 15 (.len true (.tmp 14)),o7 16 13 .sub (.tmp 15),b8 17 (.slcS (.tmp 11) none (some (.tmp 16))),a7 4 17,b8 5 (.mov (.const (.bool true)))] [4,5]) (.ret))),18,[(4,none),(5,none)],true⟩
theorem cQ3:q8 Tryd.prog 65 c65:= .code ⟨Tryd.f65,_,c65.code,Tryd.func65,rfl,by kernel_rfl,rfl,by kernel_rfl,by kernel_rfl⟩
/- internal/stringslite.CutPrefix -/
def c66:s6:=⟨.seq (.ops [b8 4 (.mov (.const (.string ⟨#[]⟩))),b8 5 (.mov (.const (.bool false)))] [0,1]) (.seq (.seq (.ops [a7 6 0,a7 7 1,b8 8 (.callF 88 [(.tmp 6),(.tmp 7)]),b8 9 (.un .not (.tmp 8))] [0,1,9]) (.cond (.tmp 9) (.seq (.ops [a7 10 0,a7 4 10,b8 5 (.mov (.const (.bool false)))] [4,5]) (.ret)) (.skip))) (.seq (.ops [a7 11 0,a7 12 1,b8 13 (.len true (.tmp 12)),b8 14 (.slcS (.tmp 11) (some (.tmp 13)) none),a7 4 14,b8 5 (.mov (.const (.bool true)))] [4,5]) (.ret))),15,[(4,none),(5,none)],true⟩
theorem cQ4:q8 Tryd.prog 66 c66:= .code ⟨Tryd.f66,_,c66.code,Tryd.func66,rfl,by kernel_rfl,rfl,by kernel_rfl,by kernel_rfl⟩
/- raddle/raddleref25.Parse -/
def aO3:AC:= .seq (.seq (.ops [a7 16 6,a7 17 4,b8 18 (.len false (.tmp 17)),o7 19 16 .lss (.tmp 18)] [0,4,5,6,19]) (.cond (.tmp 19) (.skip) (.exit 0))) (.seq (.block 1 (.seq (.ops [a7 23 4,a7 24 6,b8 25 (.idxS 1 (.tmp 23) (.tmp 24)),O6 26 25,P9 27 89 26,a7 22 27,B6 28 22 0,B6 29 22 1,a7 7 28,a7 8 29] [0,4,5,6,7,8]) (.seq (.seq (.ops [a7 30 8,b8 31 (.un .not (.tmp 30))] [0,4,5,6,7,31]) (.cond (.tmp 31) (.seq (.ops [b8 2 (.mov (.const (.slice none 0 0))),E2 3 12] [2,3]) (.ret)) (.skip))) (.seq (.ops [a7 32 5,a7 33 7,b8 34 (.app 48 4 24 (.tmp 32) (.tmp 33)),a7 5 34] [0,4,5,6]) (.seq (.ops [a7 35 5,b8 36 (.len false (.tmp 35)),o7 37 36 .gtr (o0 200)] [0,4,5,6,37]) (.cond (.tmp 37) (.seq (.ops [b8 2 (.mov (.const (.slice none 0 0))),E2 3 12] [2,3]) (.ret)) (.skip))))))) (.ops [a7 20 6,o7 21 20 .add (o0 1),a7 6 21] [0,4,5,6]))
def c67:s6:=⟨.seq (.ops [b8 2 (.mov (.const (.slice none 0 0))),E2 3 0] [0]) (.seq (.seq (.ops [a7 9 0,b8 10 (.len true (.tmp 9)),o7 11 10 .gtr (o0 3000)] [0,11]) (.cond (.tmp 11) (.seq (.ops [b8 2 (.mov (.const (.slice none 0 0))),E2 3 12] [2,3]) (.ret)) (.skip))) (.seq (.seq (.ops [a7 12 0,b8 13 (.bin .eql (.tmp 12) (.const (.string ⟨#[]⟩)))] [0,13]) (.cond (.tmp 13) (.seq (.ops [b8 2 (.mov (.const (.slice none 0 0))),E2 3 0] [2,3]) (.ret)) (.skip))) (.seq (.ops [a7 14 0,b8 15 (.callF 84 [(.tmp 14),(K9 32)]),a7 4 15] [0,4]) (.seq (.ops [b8 5 (.mov (.const (.slice none 0 0)))] [0,4,5]) (.seq (.seq (.ops [E2 6 0] [0,4,5,6]) (.block 0 (.loop [0,4,5,6] aO3))) (.seq (.seq (.ops [a7 38 5,P9 39 29 38,o7 40 39 .neq (o0 0),a7 41 40,H2 42 41 (.mov (.tmp 5)),H2 43 41 (.callF 90 [.tmp 42]),H2 44 41 (.mov (.tmp 0)),H2 45 41 (.bin .neq (.tmp 43) (.tmp 44)),b8 46 (.pick (.tmp 41) (.const (.bool true)) (.tmp 45))] [5,46]) (.cond (.tmp 46) (.seq (.ops [b8 2 (.mov (.const (.slice none 0 0))),E2 3 12] [2,3]) (.ret)) (.skip))) (.seq (.ops [a7 47 5,a7 2 47,E2 3 0] [2,3]) (.ret)))))))),48,[(2,none),(3,none)],true⟩
theorem cQ5:q8 Tryd.prog 67 c67:= .code ⟨Tryd.f67,_,c67.code,Tryd.func67,rfl,by kernel_rfl,rfl,by kernel_rfl,by kernel_rfl⟩
/- (*strings.Builder).copyCheck (1 operations that the interpreter lacks) -/
def c68:s6:=⟨.seq (.ops [a7 2 0,b8 3 (.nilChk (.tmp 2)),S9 4 0 3,O6 5 4,b8 6 (.eqNil 0 false (.tmp 5) (.const (.pointer none)))] [0,6]) (.cond (.tmp 6) (.ops [a7 7 0,a7 8 0,b8 9 (.toUns (.tmp 8)),P9 10 91 9,b8 11 (.fromUns 83 2 (.tmp 10)),b8 12 (.nilChk (.tmp 7)),S9 13 0 12,⟨none,none,.store 1 (.tmp 13) (.tmp 11)⟩] []) (.seq (.ops [a7 14 0,b8 15 (.nilChk (.tmp 14)),S9 16 0 15,O6 17 16,a7 18 0,b8 19 (.eqPtr true (.tmp 17) (.tmp 18))] [19]) (.cond (.tmp 19) (.bad) (.skip)))),20,[],false⟩
theorem cQ6:q8 Tryd.prog 68 c68:= .code ⟨Tryd.f68,_,c68.code,Tryd.func68,rfl,by kernel_rfl,rfl,by kernel_rfl,by kernel_rfl⟩
/- slices.IndexFunc[[]raddle/api.Stitch,raddle/api.Stitch] -/
def XO:AC:= .seq (.ops [o7 9 8 .lss (.tmp 7)] [0,1,7,8,9]) (.seq (.cond (.tmp 9) (.skip) (.exit 0)) (.seq (.block 1 (.seq (.ops [a7 10 8,a7 5 10] [0,1,5,7,8]) (.seq (.ops [a7 11 1,a7 12 0,a7 13 5,b8 14 (.idxS 4 (.tmp 12) (.tmp 13)),b8 15 (.load (some 4) (.tmp 14)),b8 16 (.callV (.tmp 11) [.tmp 15])] [0,1,5,7,8,16]) (.cond (.tmp 16) (.seq (.ops [a7 17 5,a7 4 17] [4]) (.ret)) (.skip))))) (.ops [o7 18 8 .add (o0 1),a7 8 18] [0,1,7,8])))
def c69:s6:=⟨.seq (.ops [E2 4 0] [0,1]) (.seq (.seq (.ops [a7 6 0,b8 7 (.len false (.tmp 6)),E2 8 0] [0,1,7,8]) (.block 0 (.loop [0,1,7,8] XO))) (.seq (.ops [b8 4 (.mov (o0 (-1)))] [4]) (.ret))),19,[(4,none)],true⟩
theorem cQ7:q8 Tryd.prog 69 c69:= .code ⟨Tryd.f69,_,c69.code,Tryd.func69,rfl,by kernel_rfl,rfl,by kernel_rfl,by kernel_rfl⟩
/- raddle/stitch.forms -/
def c70:s6:=⟨.seq (.ops [b8 2 (.alloc 110 [(1,(.string ⟨#[]⟩)),(4,(.int .i64 0)),(1,(.bool false)),(2,(.int .i64 0))]),b8 3 (.mov (.const (.bool false)))] [0,2]) (.seq (.ops [b8 8 (.build [(.int .i64 0),(.int .i64 0)] [(0,1,(o0 2)),(1,1,(o0 4))]),b8 9 (.build [(.int .i64 0),(.int .i64 0)] [(0,1,(o0 1)),(1,1,(o0 6))]),b8 4 (.alloc 108 [(2,(.int .i64 0))]),b8 5 (.alloc 108 [(2,(.int .i64 0))]),⟨none,none,.store 2 (.tmp 4) (.tmp 8)⟩,⟨none,none,.store 2 (.tmp 5) (.tmp 9)⟩] [0,2,4,5]) (.seq (.ops [b8 10 (.build [(.int .i64 0),(.int .i64 0)] [(0,1,(o0 1)),(1,1,(o0 200))]),b8 6 (.alloc 108 [(2,(.int .i64 0))]),⟨none,none,.store 2 (.tmp 6) (.tmp 10)⟩] [0,2,4,5,6]) (.seq (.ops [b8 11 (.build [(.int .i64 0),(.int .i64 0)] []),b8 12 (.build [(.int .i64 0),(.int .i64 0)] []),b8 13 (.build [(.string ⟨#[]⟩),(.int .i64 0),(.int .i64 0),(.int .i64 0),(.int .i64 0),(.bool false),(.int .i64 0),(.int .i64 0)] [(0,1,(.const (.string ⟨#[]⟩))),(1,2,(.tmp 11)),(3,2,(.tmp 12)),(5,1,(.const (.bool true))),(6,1,(o0 1)),(7,1,(o0 1))]),b8 14 (.build [(.int .i64 0),(.int .i64 0)] []),b8 15 (.build [(.int .i64 0),(.int .i64 0)] []),b8 16 (.build [(.string ⟨#[]⟩),(.int .i64 0),(.int .i64 0),(.int .i64 0),(.int .i64 0),(.bool false),(.int .i64 0),(.int .i64 0)] [(0,1,(.const (.string ⟨#[]⟩))),(1,2,(.tmp 14)),(3,2,(.tmp 15)),(5,1,(.const (.bool false))),(6,1,(o0 0)),(7,1,(o0 1))]),b8 17 (.load (some 2) (.tmp 4)),b8 18 (.build [(.int .i64 0),(.int .i64 0)] []),b8 19 (.build [(.string ⟨#[]⟩),(.int .i64 0),(.int .i64 0),(.int .i64 0),(.int .i64 0),(.bool false),(.int .i64 0),(.int .i64 0)] [(0,1,(.const (.string ⟨#[102]⟩))),(1,2,(.tmp 17)),(3,2,(.tmp 18)),(5,1,(.const (.bool true))),(6,1,(o0 2)),(7,1,(o0 1))]),b8 20 (.load (some 2) (.tmp 4)),b8 21 (.build [(.int .i64 0),(.int .i64 0)] []),b8 22 (.build [(.string ⟨#[]⟩),(.int .i64 0),(.int .i64 0),(.int .i64 0),(.int .i64 0),(.bool false),(.int .i64 0),(.int .i64 0)] [(0,1,(.const (.string ⟨#[108]⟩))),(1,2,(.tmp 20)),(3,2,(.tmp 21)),(5,1,(.const (.bool true))),(6,1,(o0 2)),(7,1,(o0 1))]),b8 23 (.load (some 2) (.tmp 4)),b8 24 (.build [(.int .i64 0),(.int .i64 0)] []),b8 25 (.build [(.string ⟨#[]⟩),(.int .i64 0),(.int .i64 0),(.int .i64 0),(.int .i64 0),(.bool false),(.int .i64 0),(.int .i64 0)] [(0,1,(.const (.string ⟨#[109]⟩))),(1,2,(.tmp 23)),(3,2,(.tmp 24)),(5,1,(.const (.bool true))),(6,1,(o0 1)),(7,1,(o0 2))]),b8 26 (.load (some 2) (.tmp 5)),b8 27 (.load (some 2) (.tmp 5)),b8 28 (.build [(.string ⟨#[]⟩),(.int .i64 0),(.int .i64 0),(.int .i64 0),(.int .i64 0),(.bool false),(.int .i64 0),(.int .i64 0)] [(0,1,(.const (.string ⟨#[120]⟩))),(1,2,(.tmp 26)),(3,2,(.tmp 27)),(5,1,(.const (.bool true))),(6,1,(o0 3)),(7,1,(o0 3))]),b8 29 (.load (some 2) (.tmp 5)),
  b8 30 (.load (some 2) (.tmp 5)),b8 31 (.build [(.string ⟨#[]⟩),(.int .i64 0),(.int .i64 0),(.int .i64 0),(.int .i64 0),(.bool false),(.int .i64 0),(.int .i64 0)] [(0,1,(.const (.string ⟨#[121]⟩))),(1,2,(.tmp 29)),(3,2,(.tmp 30)),(5,1,(.const (.bool true))),(6,1,(o0 3)),(7,1,(o0 3))]),b8 32 (.build [(.int .i64 0),(.int .i64 0)] []),b8 33 (.build [(.int .i64 0),(.int .i64 0)] []),b8 34 (.build [(.string ⟨#[]⟩),(.int .i64 0),(.int .i64 0),(.int .i64 0),(.int .i64 0),(.bool false),(.int .i64 0),(.int .i64 0)] [(0,1,(.const (.string ⟨#[115]⟩))),(1,2,(.tmp 32)),(3,2,(.tmp 33)),(5,1,(.const (.bool true))),(6,1,(o0 1)),(7,1,(o0 1))]),b8 35 (.load (some 2) (.tmp 6)),b8 36 (.build [(.int .i64 0),(.int .i64 0)] []),b8 37 (.build [(.string ⟨#[]⟩),(.int .i64 0),(.int .i64 0),(.int .i64 0),(.int .i64 0),(.bool false),(.int .i64 0),(.int .i64 0)] [(0,1,(.const (.string ⟨#[]⟩))),(1,2,(.tmp 35)),(3,2,(.tmp 36)),(5,1,(.const (.bool false))),(6,1,(o0 0)),(7,1,(o0 2))]),b8 38 (.load (some 2) (.tmp 6)),b8 39 (.build [(.int .i64 0),(.int .i64 0)] []),b8 40 (.build [(.string ⟨#[]⟩),(.int .i64 0),(.int .i64 0),(.int .i64 0),(.int .i64 0),(.bool false),(.int .i64 0),(.int .i64 0)] [(0,1,(.const (.string ⟨#[111]⟩))),(1,2,(.tmp 38)),(3,2,(.tmp 39)),(5,1,(.const (.bool true))),(6,1,(o0 2)),(7,1,(o0 0))]),b8 41 (.mkRow 110 8 10 [(.string ⟨#[]⟩),(.int .i64 0),(.int .i64 0),(.int .i64 0),(.int .i64 0),(.bool false),(.int .i64 0),(.int .i64 0)] [(0,8,(.tmp 13)),(8,8,(.tmp 16)),(16,8,(.tmp 19)),(24,8,(.tmp 22)),(32,8,(.tmp 25)),(40,8,(.tmp 28)),(48,8,(.tmp 31)),(56,8,(.tmp 34)),(64,8,(.tmp 37)),(72,8,(.tmp 40))]),a7 7 41] [0,2,7]) (.seq (.seq (.ops [a7 42 0,o7 43 42 .lss (K9 1),a7 44 43,H2 45 44 (.mov (.tmp 0)),H2 46 44 (.convI .i64 (.tmp 45)),H2 47 44 (.mov (.tmp 7)),H2 48 44 (.len false (.tmp 47)),H2 49 44 (.bin .gtr (.tmp 46) (.tmp 48)),b8 50 (.pick (.tmp 44) (.const (.bool true)) (.tmp 49))] [0,2,7,50]) (.cond (.tmp 50) (.seq (.ops [b8 51 (.build [(.string ⟨#[]⟩),(.int .i64 0),(.int .i64 0),(.int .i64 0),(.int .i64 0),(.bool false),(.int .i64 0),(.int .i64 0)] []),⟨none,none,.store 8 (.tmp 2) (.tmp 51)⟩,b8 3 (.mov (.const (.bool false)))] [2,3]) (.ret)) (.skip))) (.seq (.ops [a7 52 7,a7 53 0,o7 54 53 .sub (K9 1),b8 55 (.idxS 8 (.tmp 52) (.tmp 54)),b8 56 (.load (some 8) (.tmp 55)),⟨none,none,.store 8 (.tmp 2) (.tmp 56)⟩,b8 3 (.mov (.const (.bool true)))] [2,3]) (.ret)))))),57,[(2,(some (some 8))),(3,none)],true⟩
theorem cQ8:q8 Tryd.prog 70 c70:= .code ⟨Tryd.f70,_,c70.code,Tryd.func70,rfl,by kernel_rfl,rfl,by kernel_rfl,by kernel_rfl⟩
/- raddle/stitch.within -/
def c71:s6:=⟨.seq (.ops [b8 3 (.box 108 (.tmp 1)),b8 4 (.mov (.const (.bool false)))] [0,3]) (.seq (.ops [a7 5 0,b8 6 (.idxA 2 1 (.tmp 3) (o0 0)),O6 7 6,o7 8 5 .geq (.tmp 7),a7 9 8,n8 10 9 (.mov (.tmp 0)),n8 11 9 (.idxA 2 1 (.tmp 3) (o0 1)),n8 12 9 (.load none (.tmp 11)),n8 13 9 (.bin .leq (.tmp 10) (.tmp 12)),b8 14 (.pick (.tmp 9) (.tmp 13) (.const (.bool false))),a7 4 14] [4]) (.ret)),15,[(4,none)],true⟩
theorem cQ9:q8 Tryd.prog 71 c71:= .code ⟨Tryd.f71,_,c71.code,Tryd.func71,rfl,by kernel_rfl,rfl,by kernel_rfl,by kernel_rfl⟩
/- raddle/stitch.loops -/
def c72:s6:=⟨.seq (.ops [b8 2 (.box 48 (.tmp 0)),E2 4 0] [1,2]) (.seq (.ops [S9 5 2 2,O6 6 5,S9 7 2 2,O6 8 7,S9 9 3 2,O6 10 9,o7 11 8 .add (.tmp 10),b8 12 (.build [(.int .i64 0),(.int .i64 0),(.int .i64 0),(.int .i64 0)] [(0,1,(o0 0)),(1,1,(o0 1)),(2,1,(.tmp 6)),(3,1,(.tmp 11))]),a7 13 1,b8 14 (.idxV 4 1 none (.tmp 12) (.tmp 13)),a7 4 14] [4]) (.ret)),15,[(4,none)],true⟩
theorem cR0:q8 Tryd.prog 72 c72:= .code ⟨Tryd.f72,_,c72.code,Tryd.func72,rfl,by kernel_rfl,rfl,by kernel_rfl,by kernel_rfl⟩
/- raddle/raddleref25.Used -/
def c75:s6:=⟨.seq (.ops [b8 1 (.box 48 (.tmp 0)),E2 2 0] [1]) (.seq (.seq (.ops [S9 3 0 1,O6 4 3] [1,4]) (.block 0 (.seq (.seq (.ops [o7 6 4 .eql (K9 2),a7 5 6] [1,4,5]) (.cond (.tmp 5) (.skip) (.ops [o7 7 4 .eql (K9 9),a7 5 7] [1,4,5]))) (.cond (.tmp 5) (.seq (.ops [E2 2 0] [2]) (.ret)) (.seq (.seq (.ops [o7 9 4 .eql (K9 3),a7 8 9] [1,4,8]) (.cond (.tmp 8) (.skip) (.seq (.ops [o7 10 4 .eql (K9 4),a7 8 10] [1,4,8]) (.cond (.tmp 8) (.skip) (.ops [o7 11 4 .eql (K9 10),a7 8 11] [1,4,8]))))) (.cond (.tmp 8) (.seq (.ops [S9 12 2 1,O6 13 12,a7 2 13] [2]) (.ret)) (.seq (.seq (.ops [o7 15 4 .eql (K9 6),a7 14 15] [1,4,14]) (.cond (.tmp 14) (.skip) (.ops [o7 16 4 .eql (K9 7),a7 14 16] [1,14]))) (.cond (.tmp 14) (.seq (.ops [S9 17 2 1,O6 18 17,S9 19 3 1,O6 20 19,o7 21 18 .add (.tmp 20),a7 2 21] [2]) (.ret)) (.skip))))))))) (.seq (.ops [E2 2 1] [2]) (.ret))),22,[(2,none)],true⟩
theorem cR1:q8 Tryd.prog 75 c75:= .code ⟨Tryd.f75,_,c75.code,Tryd.func75,rfl,by kernel_rfl,rfl,by kernel_rfl,by kernel_rfl⟩
/- raddle/raddleref25.Gives -/
def c76:s6:=⟨.seq (.ops [b8 1 (.box 48 (.tmp 0)),E2 2 0] [1]) (.seq (.seq (.ops [S9 3 0 1,O6 4 3] [1,4]) (.block 0 (.seq (.ops [o7 6 4 .eql (K9 10),a7 5 6] [1,4,5]) (.cond (.tmp 5) (.seq (.ops [E2 2 0] [2]) (.ret)) (.seq (.seq (.ops [o7 8 4 .eql (K9 5),a7 7 8] [1,4,7]) (.cond (.tmp 7) (.skip) (.ops [o7 9 4 .eql (K9 9),a7 7 9] [1,4,7]))) (.cond (.tmp 7) (.seq (.ops [S9 10 2 1,O6 11 10,a7 2 11] [2]) (.ret)) (.seq (.seq (.ops [o7 13 4 .eql (K9 6),a7 12 13] [1,4,12]) (.cond (.tmp 12) (.skip) (.ops [o7 14 4 .eql (K9 7),a7 12 14] [1,12]))) (.cond (.tmp 12) (.seq (.ops [S9 15 2 1,O6 16 15,S9 17 3 1,O6 18 17,o7 19 16 .add (.tmp 18),a7 2 19] [2]) (.ret)) (.skip))))))))) (.seq (.ops [E2 2 1] [2]) (.ret))),20,[(2,none)],true⟩
theorem cR2:q8 Tryd.prog 76 c76:= .code ⟨Tryd.f76,_,c76.code,Tryd.func76,rfl,by kernel_rfl,rfl,by kernel_rfl,by kernel_rfl⟩
/- strings.explode -/
def cE1:AC:= .seq (.seq (.ops [a7 22 7,a7 23 1,o7 24 23 .sub (o0 1),o7 25 22 .lss (.tmp 24)] [0,1,6,7,25]) (.cond (.tmp 25) (.skip) (.exit 0))) (.seq (.block 1 (.seq (.ops [a7 29 0,P9 30 92 29,a7 28 30,B6 31 28 0,B6 32 28 1,a7 8 31,a7 9 32] [0,1,6,7,9]) (.seq (.ops [a7 33 6,a7 34 7,a7 35 0,a7 36 9,b8 37 (.slcS (.tmp 35) none (some (.tmp 36))),b8 38 (.idxS 1 (.tmp 33) (.tmp 34)),⟨none,none,.store 1 (.tmp 38) (.tmp 37)⟩] [0,1,6,7,9]) (.ops [a7 39 0,a7 40 9,b8 41 (.slcS (.tmp 39) (some (.tmp 40)) none),a7 0 41] [0,1,6,7])))) (.ops [a7 26 7,o7 27 26 .add (o0 1),a7 7 27] [0,1,6,7]))
def c79:s6:=⟨.seq (.ops [b8 4 (.mov (.const (.slice none 0 0)))] [0,1]) (.seq (.ops [a7 10 0,P9 11 95 10,a7 5 11] [0,1,5]) (.seq (.seq (.ops [a7 12 1,o7 13 12 .lss (o0 0),a7 14 13,H2 15 14 (.mov (.tmp 1)),H2 16 14 (.mov (.tmp 5)),H2 17 14 (.bin .gtr (.tmp 15) (.tmp 16)),b8 18 (.pick (.tmp 14) (.const (.bool true)) (.tmp 17))] [0,1,5,18]) (.cond (.tmp 18) (.ops [a7 19 5,a7 1 19] [0,1]) (.skip))) (.seq (.ops [a7 20 1,b8 21 (.mkSlice 9 1 16 [(.string ⟨#[]⟩)] (.tmp 20) (.tmp 20)),a7 6 21] [0,1,6]) (.seq (.seq (.ops [E2 7 0] [0,1,6,7]) (.block 0 (.loop [0,1,6,7] cE1))) (.seq (.seq (.ops [a7 42 1,o7 43 42 .gtr (o0 0)] [0,1,6,43]) (.cond (.tmp 43) (.ops [a7 44 6,a7 45 1,o7 46 45 .sub (o0 1),a7 47 0,b8 48 (.idxS 1 (.tmp 44) (.tmp 46)),⟨none,none,.store 1 (.tmp 48) (.tmp 47)⟩] [6]) (.skip))) (.seq (.ops [a7 49 6,a7 4 49] [4]) (.ret))))))),50,[(4,none)],true⟩
theorem cR3:q8 Tryd.prog 79 c79:= .code ⟨Tryd.f79,_,c79.code,Tryd.func79,rfl,by kernel_rfl,rfl,by kernel_rfl,by kernel_rfl⟩
/- raddle/n7.side -/
def c82:s6:=⟨.seq (.ops [b8 2 (.mov (.const (.string ⟨#[]⟩)))] [0]) (.seq (.seq (.ops [a7 3 0] [3]) (.cond (.tmp 3) (.seq (.ops [b8 2 (.mov (.const (.string ⟨#[112,117,114,108]⟩)))] [2]) (.ret)) (.skip))) (.seq (.ops [b8 2 (.mov (.const (.string ⟨#[107,110,105,116]⟩)))] [2]) (.ret))),4,[(2,none)],true⟩
theorem cR4:q8 Tryd.prog 82 c82:= .code ⟨Tryd.f82,_,c82.code,Tryd.func82,rfl,by kernel_rfl,rfl,by kernel_rfl,by kernel_rfl⟩
/- internal/stringslite.TrimPrefix -/
def c83:s6:=⟨.seq (.ops [b8 4 (.mov (.const (.string ⟨#[]⟩)))] [0,1]) (.seq (.seq (.ops [a7 5 0,a7 6 1,b8 7 (.callF 88 [(.tmp 5),(.tmp 6)])] [0,1,7]) (.cond (.tmp 7) (.seq (.ops [a7 8 0,a7 9 1,b8 10 (.len true (.tmp 9)),b8 11 (.slcS (.tmp 8) (some (.tmp 10)) none),a7 4 11] [4]) (.ret)) (.skip))) (.seq (.ops [a7 12 0,a7 4 12] [4]) (.ret))),13,[(4,none)],true⟩
theorem cR5:q8 Tryd.prog 83 c83:= .code ⟨Tryd.f83,_,c83.code,Tryd.func83,rfl,by kernel_rfl,rfl,by kernel_rfl,by kernel_rfl⟩
/- raddle/raddleref25.Cut -/
def MQ:AC:= .seq (.seq (.ops [a7 8 7,a7 9 0,b8 10 (.len true (.tmp 9)),o7 11 8 .leq (.tmp 10)] [0,1,5,6,7,11]) (.cond (.tmp 11) (.skip) (.exit 0))) (.seq (.block 1 (.seq (.ops [a7 14 7,a7 15 0,b8 16 (.len true (.tmp 15)),o7 17 14 .eql (.tmp 16),a7 18 17,H2 19 18 (.mov (.tmp 0)),H2 20 18 (.mov (.tmp 7)),H2 21 18 (.idxStr (.tmp 19) (.tmp 20)),H2 22 18 (.mov (.tmp 1)),H2 23 18 (.bin .eql (.tmp 21) (.tmp 22)),b8 24 (.pick (.tmp 18) (.const (.bool true)) (.tmp 23))] [0,1,5,6,7,24]) (.cond (.tmp 24) (.seq (.ops [a7 25 5,a7 26 0,a7 27 6,a7 28 7,b8 29 (.slcS (.tmp 26) (some (.tmp 27)) (some (.tmp 28))),b8 30 (.mkRow 9 1 1 [(.string ⟨#[]⟩)] [(0,1,(.tmp 29))]),b8 31 (.app 9 1 16 (.tmp 25) (.tmp 30)),a7 5 31] [0,1,5,7]) (.ops [a7 32 7,o7 33 32 .add (o0 1),a7 6 33] [0,1,5,6,7])) (.skip)))) (.ops [a7 12 7,o7 13 12 .add (o0 1),a7 7 13] [0,1,5,6,7]))
def c84:s6:=⟨.seq (.ops [b8 4 (.mov (.const (.slice none 0 0)))] [0,1]) (.seq (.ops [b8 5 (.mov (.const (.slice none 0 0)))] [0,1,5]) (.seq (.ops [E2 6 0] [0,1,5,6]) (.seq (.seq (.ops [E2 7 0] [0,1,5,6,7]) (.block 0 (.loop [0,1,5,6,7] MQ))) (.seq (.ops [a7 34 5,a7 4 34] [4]) (.ret))))),35,[(4,none)],true⟩
theorem cR6:q8 Tryd.prog 84 c84:= .code ⟨Tryd.f84,_,c84.code,Tryd.func84,rfl,by kernel_rfl,rfl,by kernel_rfl,by kernel_rfl⟩
/- raddle/raddleref25.Number -/
def XP:AC:= .seq (.seq (.ops [a7 24 5,a7 25 0,b8 26 (.len true (.tmp 25)),o7 27 24 .lss (.tmp 26)] [0,4,5,27]) (.cond (.tmp 27) (.skip) (.exit 0))) (.seq (.block 1 (.seq (.seq (.ops [a7 30 0,a7 31 5,b8 32 (.idxStr (.tmp 30) (.tmp 31)),o7 33 32 .lss (K9 48),a7 34 33,H2 35 34 (.mov (.tmp 0)),H2 36 34 (.mov (.tmp 5)),H2 37 34 (.idxStr (.tmp 35) (.tmp 36)),H2 38 34 (.bin .gtr (.tmp 37) (K9 57)),b8 39 (.pick (.tmp 34) (.const (.bool true)) (.tmp 38))] [0,4,5,39]) (.cond (.tmp 39) (.seq (.ops [E2 2 0,b8 3 (.mov (.const (.bool false)))] [2,3]) (.ret)) (.skip))) (.ops [a7 40 4,b8 41 (.bin .mul (o0 10) (.tmp 40)),a7 42 0,a7 43 5,b8 44 (.idxStr (.tmp 42) (.tmp 43)),o7 45 44 .sub (K9 48),b8 46 (.convI .i64 (.tmp 45)),o7 47 41 .add (.tmp 46),a7 4 47] [0,4,5]))) (.ops [a7 28 5,o7 29 28 .add (o0 1),a7 5 29] [0,4,5]))
def c85:s6:=⟨.seq (.ops [E2 2 0,b8 3 (.mov (.const (.bool false)))] [0]) (.seq (.seq (.ops [a7 6 0,b8 7 (.len true (.tmp 6)),o7 8 7 .eql (o0 0),a7 9 8,H2 10 9 (.mov (.tmp 0)),H2 11 9 (.len true (.tmp 10)),H2 12 9 (.bin .gtr (.tmp 11) (o0 4)),b8 13 (.pick (.tmp 9) (.const (.bool true)) (.tmp 12)),a7 14 13,H2 15 14 (.mov (.tmp 0)),H2 16 14 (.len true (.tmp 15)),H2 17 14 (.bin .gtr (.tmp 16) (o0 1)),H2 18 14 (.mov (.tmp 17)),n8 19 18 (.mov (.tmp 0)),n8 20 18 (.idxStr (.tmp 19) (o0 0)),n8 21 18 (.bin .eql (.tmp 20) (K9 48)),H2 22 14 (.pick (.tmp 18) (.tmp 21) (.const (.bool false))),b8 23 (.pick (.tmp 14) (.const (.bool true)) (.tmp 22))] [0,23]) (.cond (.tmp 23) (.seq (.ops [E2 2 0,b8 3 (.mov (.const (.bool false)))] [2,3]) (.ret)) (.skip))) (.seq (.ops [E2 4 0] [0,4]) (.seq (.seq (.ops [E2 5 0] [0,4,5]) (.block 0 (.loop [0,4,5] XP))) (.seq (.ops [a7 48 4,a7 2 48,b8 3 (.mov (.const (.bool true)))] [2,3]) (.ret))))),49,[(2,none),(3,none)],true⟩
theorem cR7:q8 Tryd.prog 85 c85:= .code ⟨Tryd.f85,_,c85.code,Tryd.func85,rfl,by kernel_rfl,rfl,by kernel_rfl,by kernel_rfl⟩
/- internal/stringslite.HasSuffix -/
def c87:s6:=⟨.seq (.ops [b8 4 (.mov (.const (.bool false)))] [0,1]) (.seq (.ops [a7 5 0,b8 6 (.len true (.tmp 5)),a7 7 1,b8 8 (.len true (.tmp 7)),o7 9 6 .geq (.tmp 8),a7 10 9,n8 11 10 (.mov (.tmp 0)),n8 12 10 (.mov (.tmp 0)),n8 13 10 (.len true (.tmp 12)),n8 14 10 (.mov (.tmp 1)),n8 15 10 (.len true (.tmp 14)),n8 16 10 (.bin .sub (.tmp 13) (.tmp 15)),n8 17 10 (.slcS (.tmp 11) (some (.tmp 16)) none),n8 18 10 (.mov (.tmp 1)),n8 19 10 (.bin .eql (.tmp 17) (.tmp 18)),b8 20 (.pick (.tmp 10) (.tmp 19) (.const (.bool false))),a7 4 20] [4]) (.ret)),21,[(4,none)],true⟩
theorem cR8:q8 Tryd.prog 87 c87:= .code ⟨Tryd.f87,_,c87.code,Tryd.func87,rfl,by kernel_rfl,rfl,by kernel_rfl,by kernel_rfl⟩
/- internal/stringslite.HasPrefix -/
def c88:s6:=⟨.seq (.ops [b8 4 (.mov (.const (.bool false)))] [0,1]) (.seq (.ops [a7 5 0,b8 6 (.len true (.tmp 5)),a7 7 1,b8 8 (.len true (.tmp 7)),o7 9 6 .geq (.tmp 8),a7 10 9,n8 11 10 (.mov (.tmp 0)),n8 12 10 (.mov (.tmp 1)),n8 13 10 (.len true (.tmp 12)),n8 14 10 (.slcS (.tmp 11) none (some (.tmp 13))),n8 15 10 (.mov (.tmp 1)),n8 16 10 (.bin .eql (.tmp 14) (.tmp 15)),b8 17 (.pick (.tmp 10) (.tmp 16) (.const (.bool false))),a7 4 17] [4]) (.ret)),18,[(4,none)],true⟩
theorem cR9:q8 Tryd.prog 88 c88:= .code ⟨Tryd.f88,_,c88.code,Tryd.func88,rfl,by kernel_rfl,rfl,by kernel_rfl,by kernel_rfl⟩
/- raddle/raddleref25.word -/
def MR:AC:= .seq (.seq (.ops [a7 66 10,a7 67 7,o7 68 66 .lss (.tmp 67),a7 69 68,n8 70 69 (.mov (.tmp 10)),n8 71 69 (.bin .lss (.tmp 70) (o0 300)),b8 72 (.pick (.tmp 69) (.tmp 71) (.const (.bool false)))] [6,7,9,10,72]) (.cond (.tmp 72) (.skip) (.exit 0))) (.seq (.block 1 (.ops [a7 75 9,b8 76 (.load (some 4) (.tmp 6)),b8 77 (.mkRow 48 4 1 [(.int .u8 0),(.bool false),(.int .i64 0),(.int .i64 0)] [(0,4,(.tmp 76))]),b8 78 (.app 48 4 24 (.tmp 75) (.tmp 77)),a7 9 78] [6,7,9,10])) (.ops [a7 73 10,o7 74 73 .add (o0 1),a7 10 74] [6,7,9,10]))
def c89:s6:=⟨.seq (.ops [b8 2 (.mov (.const (.slice none 0 0))),b8 3 (.mov (.const (.bool false)))] [0]) (.seq (.seq (.ops [a7 15 0,b8 16 (.bin .eql (.tmp 15) (.const (.string ⟨#[121,111]⟩)))] [0,16]) (.cond (.tmp 16) (.seq (.ops [b8 17 (.build [(.int .u8 0),(.bool false),(.int .i64 0),(.int .i64 0)] [(0,1,(K9 2))]),b8 18 (.mkRow 48 4 1 [(.int .u8 0),(.bool false),(.int .i64 0),(.int .i64 0)] [(0,4,(.tmp 17))]),a7 2 18,b8 3 (.mov (.const (.bool true)))] [2,3]) (.ret)) (.skip))) (.seq (.seq (.ops [a7 19 0,b8 20 (.len true (.tmp 19)),o7 21 20 .gtr (o0 2),a7 22 21,n8 23 22 (.mov (.tmp 0)),n8 24 22 (.slcS (.tmp 23) none (some (o0 2))),n8 25 22 (.bin .eql (.tmp 24) (.const (.string ⟨#[111,110]⟩))),b8 26 (.pick (.tmp 22) (.tmp 25) (.const (.bool false)))] [0,26]) (.cond (.tmp 26) (.seq (.ops [a7 28 0,b8 29 (.slcS (.tmp 28) (some (o0 2)) none),P9 30 85 29,a7 27 30,B6 31 27 0,B6 32 27 1,a7 4 31,a7 5 32] [4,5]) (.seq (.ops [a7 33 4,b8 34 (.build [(.int .u8 0),(.bool false),(.int .i64 0),(.int .i64 0)] [(0,1,(K9 9)),(2,1,(.tmp 33))]),b8 35 (.mkRow 48 4 1 [(.int .u8 0),(.bool false),(.int .i64 0),(.int .i64 0)] [(0,4,(.tmp 34))]),a7 36 5,a7 2 35,a7 3 36] [2,3]) (.ret))) (.skip))) (.seq (.seq (.ops [a7 37 0,b8 38 (.len true (.tmp 37)),o7 39 38 .eql (o0 0),a7 40 39,H2 41 40 (.mov (.tmp 0)),H2 42 40 (.idxStr (.tmp 41) (o0 0)),H2 43 40 (.bin .neq (.tmp 42) (K9 107)),H2 44 40 (.mov (.tmp 43)),n8 45 44 (.mov (.tmp 0)),n8 46 44 (.idxStr (.tmp 45) (o0 0)),n8 47 44 (.bin .neq (.tmp 46) (K9 112)),H2 48 40 (.pick (.tmp 44) (.tmp 47) (.const (.bool false))),b8 49 (.pick (.tmp 40) (.const (.bool true)) (.tmp 48))] [0,49]) (.cond (.tmp 49) (.seq (.ops [b8 2 (.mov (.const (.slice none 0 0))),b8 3 (.mov (.const (.bool false)))] [2,3]) (.ret)) (.skip))) (.seq (.ops [a7 50 0,b8 51 (.idxStr (.tmp 50) (o0 0)),o7 52 51 .eql (K9 112),b8 53 (.build [(.int .u8 0),(.bool false),(.int .i64 0),(.int .i64 0)] [(0,1,(K9 1)),(1,1,(.tmp 52))]),b8 6 (.alloc 48 [(1,(.int .u8 0)),(1,(.bool false)),(2,(.int .i64 0))]),⟨none,none,.store 4 (.tmp 6) (.tmp 53)⟩] [0,6]) (.seq (.seq (.ops [a7 54 0,b8 55 (.len true (.tmp 54)),o7 56 55 .eql (o0 1)] [0,6,56]) (.cond (.tmp 56) (.seq (.ops [b8 57 (.load (some 4) (.tmp 6)),b8 58 (.mkRow 48 4 1 [(.int .u8 0),(.bool false),(.int .i64 0),(.int .i64 0)] [(0,4,(.tmp 57))]),
  a7 2 58,b8 3 (.mov (.const (.bool true)))] [2,3]) (.ret)) (.skip))) (.seq (.seq (.ops [a7 60 0,b8 61 (.slcS (.tmp 60) (some (o0 1)) none),P9 62 85 61,a7 59 62,B6 63 59 0,B6 64 59 1,a7 7 63,a7 8 64] [0,6,7,8]) (.seq (.ops [a7 65 8] [0,6,7,65]) (.cond (.tmp 65) (.seq (.ops [b8 9 (.mov (.const (.slice none 0 0)))] [6,7,9]) (.seq (.seq (.ops [E2 10 0] [6,7,9,10]) (.block 0 (.loop [6,7,9,10] MR))) (.seq (.ops [a7 79 9,a7 80 7,o7 81 80 .gtr (o0 1),a7 2 79,a7 3 81] [2,3]) (.ret)))) (.skip)))) (.seq (.ops [a7 82 0,b8 83 (.idxStr (.tmp 82) (o0 1)),P9 84 102 83,S9 85 0 6,⟨none,none,.store 1 (.tmp 85) (.tmp 84)⟩] [0,6]) (.seq (.seq (.ops [S9 86 0 6,O6 87 86,o7 88 87 .eql (K9 8)] [0,6,88]) (.cond (.tmp 88) (.seq (.ops [b8 89 (.load (some 4) (.tmp 6)),b8 90 (.mkRow 48 4 1 [(.int .u8 0),(.bool false),(.int .i64 0),(.int .i64 0)] [(0,4,(.tmp 89))]),a7 91 0,b8 92 (.len true (.tmp 91)),o7 93 92 .eql (o0 2),a7 2 90,a7 3 93] [2,3]) (.ret)) (.skip))) (.seq (.ops [a7 94 0,b8 95 (.slcS (.tmp 94) (some (o0 2)) none),b8 96 (.callF 84 [(.tmp 95),(K9 47)]),a7 11 96] [6,11]) (.seq (.ops [S9 97 0 6,O6 98 97,o7 99 98 .neq (K9 0),a7 100 99,n8 101 100 (.mov (.tmp 11)),n8 102 100 (.len false (.tmp 101)),n8 103 100 (.bin .eql (.tmp 102) (o0 1)),b8 104 (.pick (.tmp 100) (.tmp 103) (.const (.bool false))),a7 12 104] [6,11,12]) (.seq (.seq (.ops [S9 105 0 6,O6 106 105,o7 107 106 .eql (K9 6),a7 108 107,H2 109 108 (.fldA 0 (.tmp 6)),H2 110 108 (.load none (.tmp 109)),H2 111 108 (.bin .eql (.tmp 110) (K9 7)),b8 112 (.pick (.tmp 108) (.const (.bool true)) (.tmp 111))] [6,11,12,112]) (.cond (.tmp 112) (.seq (.ops [a7 113 11,b8 114 (.len false (.tmp 113)),o7 115 114 .eql (o0 2),a7 12 115] [6,11,12]) (.seq (.ops [a7 116 12] [6,11,12,116]) (.cond (.tmp 116) (.ops [a7 118 11,b8 119 (.idxS 1 (.tmp 118) (o0 1)),O6 120 119,P9 121 85 120,a7 117 121,B6 122 117 0,B6 123 117 1,S9 124 3 6,⟨none,none,.store 1 (.tmp 124) (.tmp 122)⟩,a7 12 123] [6,11,12]) (.skip)))) (.skip))) (.seq (.ops [a7 126 11,
  b8 127 (.idxS 1 (.tmp 126) (o0 0)),O6 128 127,P9 129 85 128,a7 125 129,B6 130 125 0,B6 131 125 1,a7 13 130,a7 14 131] [6,12,13,14]) (.seq (.ops [a7 132 13,S9 133 2 6,⟨none,none,.store 1 (.tmp 133) (.tmp 132)⟩] [6,12,14]) (.seq (.ops [b8 134 (.load (some 4) (.tmp 6)),b8 135 (.mkRow 48 4 1 [(.int .u8 0),(.bool false),(.int .i64 0),(.int .i64 0)] [(0,4,(.tmp 134))]),a7 136 12,a7 137 136,n8 138 137 (.mov (.tmp 14)),b8 139 (.pick (.tmp 137) (.tmp 138) (.const (.bool false))),a7 2 135,a7 3 139] [2,3]) (.ret))))))))))))))),140,[(2,none),(3,none)],true⟩
theorem cS0:q8 Tryd.prog 89 c89:= .code ⟨Tryd.f89,_,c89.code,Tryd.func89,rfl,by kernel_rfl,rfl,by kernel_rfl,by kernel_rfl⟩
/- raddle/raddleref25.Written -/
def DU:AC:= .seq (.seq (.draw [a7 23 0,a7 24 4,b8 25 (.idxS 4 (.tmp 23) (.tmp 24)),S9 26 0 25,O6 27 26,o7 28 27 .eql (K9 1),a7 29 28,n8 30 29 (.mov (.tmp 4)),n8 31 29 (.bin .add (.tmp 30) (o0 1)),n8 32 29 (.mov (.tmp 0)),n8 33 29 (.len false (.tmp 32)),n8 34 29 (.bin .lss (.tmp 31) (.tmp 33)),b8 35 (.pick (.tmp 29) (.tmp 34) (.const (.bool false))),a7 36 35,n8 37 36 (.mov (.tmp 0)),n8 38 36 (.mov (.tmp 4)),n8 39 36 (.bin .add (.tmp 38) (o0 1)),n8 40 36 (.idxS 4 (.tmp 37) (.tmp 39)),n8 41 36 (.load (some 4) (.tmp 40)),n8 42 36 (.mov (.tmp 0)),n8 43 36 (.mov (.tmp 4)),n8 44 36 (.idxS 4 (.tmp 42) (.tmp 43)),n8 45 36 (.load (some 4) (.tmp 44))] [n8 46 36 (.eqAgg false [(0,0),(1,2),(2,0),(3,0)] (.tmp 41) (.tmp 45)),b8 47 (.pick (.tmp 36) (.tmp 46) (.const (.bool false)))] [[],[],[],[],[],[],[],[],[],[],[],[],[],[],[],[],[],[],[],[],[],[],[]] [0,3,4,5,47]) (.cond (.tmp 47) (.skip) (.exit 2))) (.block 3 (.seq (.ops [a7 48 4,o7 49 48 .add (o0 1),a7 4 49] [0,3,4,5]) (.ops [a7 50 5,o7 51 50 .add (o0 1),a7 5 51] [0,3,4,5])))
def DW:AC:= .seq (.seq (.ops [a7 6 4,a7 7 0,b8 8 (.len false (.tmp 7)),o7 9 6 .lss (.tmp 8)] [0,3,4,9]) (.cond (.tmp 9) (.skip) (.exit 0))) (.seq (.block 1 (.seq (.seq (.ops [a7 12 4,o7 13 12 .gtr (o0 0)] [0,3,4,13]) (.cond (.tmp 13) (.ops [a7 14 3,b8 15 (.bin .add (.tmp 14) (.const (.string ⟨#[32]⟩))),a7 3 15] [0,3,4]) (.skip))) (.seq (.ops [a7 16 3,a7 17 0,a7 18 4,b8 19 (.idxS 4 (.tmp 17) (.tmp 18)),b8 20 (.load (some 4) (.tmp 19)),P9 21 103 20,o7 22 16 .add (.tmp 21),a7 3 22] [0,3,4]) (.seq (.ops [E2 5 1] [0,3,4,5]) (.seq (.block 2 (.loop [0,3,4,5] DU)) (.seq (.ops [a7 52 5,o7 53 52 .gtr (o0 1)] [0,3,4,5,53]) (.cond (.tmp 53) (.ops [a7 54 3,a7 55 5,P9 56 64 55,o7 57 54 .add (.tmp 56),a7 3 57] [0,3,4]) (.skip)))))))) (.ops [a7 10 4,o7 11 10 .add (o0 1),a7 4 11] [0,3,4]))
def c90:s6:=⟨.seq (.ops [b8 2 (.mov (.const (.string ⟨#[]⟩)))] [0]) (.seq (.ops [b8 3 (.mov (.const (.string ⟨#[]⟩)))] [0,3]) (.seq (.seq (.ops [E2 4 0] [0,3,4]) (.block 0 (.loop [0,3,4] DW))) (.seq (.ops [a7 58 3,a7 2 58] [2]) (.ret)))),59,[(2,none)],true⟩
theorem cS1:q8 Tryd.prog 90 c90:= .code ⟨Tryd.f90,_,c90.code,Tryd.func90,rfl,by kernel_rfl,rfl,by kernel_rfl,by kernel_rfl⟩
/- unicode/utf8.DecodeRuneInString -/
def c92:s6:=⟨.seq (.ops [b8 2 (.mov (.const (.int .i32 0))),E2 3 0] [0]) (.seq (.seq (.ops [a7 4 0,b8 5 (.bin .neq (.tmp 4) (.const (.string ⟨#[]⟩))),a7 6 5,n8 7 6 (.mov (.tmp 0)),n8 8 6 (.idxStr (.tmp 7) (o0 0)),n8 9 6 (.bin .lss (.tmp 8) (K9 128)),b8 10 (.pick (.tmp 6) (.tmp 9) (.const (.bool false)))] [0,10]) (.cond (.tmp 10) (.seq (.ops [a7 11 0,b8 12 (.idxStr (.tmp 11) (o0 0)),b8 13 (.convI .i32 (.tmp 12)),a7 2 13,E2 3 1] [2,3]) (.ret)) (.ops [a7 15 0,P9 16 104 15,a7 14 16,B6 17 14 0,B6 18 14 1,a7 2 17,a7 3 18] [2,3]))) (.ret)),19,[(2,none),(3,none)],true⟩
theorem cS2:q8 Tryd.prog 92 c92:= .code ⟨Tryd.f92,_,c92.code,Tryd.func92,rfl,by kernel_rfl,rfl,by kernel_rfl,by kernel_rfl⟩
/- unicode/utf8.RuneCountInString -/
def cE3:AC:= .seq (.ops [b8 5 (.nextS (.tmp 4)),B6 6 5 0] [2,4,6]) (.seq (.cond (.tmp 6) (.skip) (.exit 0)) (.block 1 (.ops [a7 7 2,o7 8 7 .add (o0 1),a7 2 8] [2,4])))
def c95:s6:=⟨.seq (.ops [E2 2 0] [0,2]) (.seq (.seq (.ops [a7 3 0,b8 4 (.rangeS (.tmp 3))] [2,4]) (.block 0 (.loop [2,4] cE3))) (.seq (.ops [a7 9 2,a7 2 9] [2]) (.ret))),10,[(2,none)],true⟩
theorem cS3:q8 Tryd.prog 95 c95:= .code ⟨Tryd.f95,_,c95.code,Tryd.func95,rfl,by kernel_rfl,rfl,by kernel_rfl,by kernel_rfl⟩
/- raddle/raddleref25.kind -/
def IY:AC:= .seq (.seq (.ops [a7 7 5,a7 8 3,b8 9 (.len true (.tmp 8)),o7 10 7 .lss (.tmp 9)] [0,3,4,5,10]) (.cond (.tmp 10) (.skip) (.exit 0))) (.seq (.block 1 (.seq (.ops [a7 13 3,a7 14 5,b8 15 (.idxStr (.tmp 13) (.tmp 14)),a7 16 0,o7 17 15 .eql (.tmp 16)] [0,3,4,5,17]) (.cond (.tmp 17) (.seq (.ops [a7 18 4,a7 19 5,b8 20 (.idxS 1 (.tmp 18) (.tmp 19)),O6 21 20,a7 2 21] [2]) (.ret)) (.skip)))) (.ops [a7 11 5,o7 12 11 .add (o0 1),a7 5 12] [0,3,4,5]))
def bG4:s6:=⟨.seq (.ops [b8 2 (.mov (K9 0))] [0]) (.seq (.ops [b8 3 (.mov (.const (.string ⟨#[102,108,109,120,121,115,111]⟩)))] [0,3]) (.seq (.ops [b8 6 (.mkRow 5 1 7 [(.int .u8 0)] [(0,1,(K9 3)),(1,1,(K9 4)),(2,1,(K9 5)),(3,1,(K9 6)),(4,1,(K9 7)),(5,1,(K9 8)),(6,1,(K9 10))]),a7 4 6] [0,3,4]) (.seq (.seq (.ops [E2 5 0] [0,3,4,5]) (.block 0 (.loop [0,3,4,5] IY))) (.seq (.ops [b8 2 (.mov (K9 0))] [2]) (.ret))))),22,[(2,none)],true⟩
theorem cF8:q8 Tryd.prog 102 bG4:= .code ⟨Tryd.f102,_,bG4.code,Tryd.func102,rfl,by kernel_rfl,rfl,by kernel_rfl,by kernel_rfl⟩
/- raddle/raddleref25.one -/
def aE4:s6:=⟨.seq (.ops [b8 1 (.box 48 (.tmp 0)),b8 2 (.mov (.const (.string ⟨#[]⟩)))] [1]) (.seq (.ops [b8 3 (.mov (.const (.string ⟨#[107]⟩)))] [1,3]) (.seq (.seq (.ops [S9 4 1 1,O6 5 4] [1,3,5]) (.cond (.tmp 5) (.ops [b8 3 (.mov (.const (.string ⟨#[112]⟩)))] [1,3]) (.skip))) (.seq (.seq (.ops [S9 6 0 1,O6 7 6] [1,3,7]) (.block 0 (.seq (.ops [o7 9 7 .eql (K9 1),a7 8 9] [1,3,7,8]) (.cond (.tmp 8) (.seq (.ops [a7 10 3,a7 2 10] [2]) (.ret)) (.seq (.ops [o7 12 7 .eql (K9 2),a7 11 12] [1,3,7,11]) (.cond (.tmp 11) (.seq (.ops [b8 2 (.mov (.const (.string ⟨#[121,111]⟩)))] [2]) (.ret)) (.seq (.ops [o7 14 7 .eql (K9 3),a7 13 14] [1,3,7,13]) (.cond (.tmp 13) (.seq (.ops [a7 15 3,b8 16 (.bin .add (.tmp 15) (.const (.string ⟨#[102]⟩))),S9 17 2 1,O6 18 17,P9 19 64 18,o7 20 16 .add (.tmp 19),a7 2 20] [2]) (.ret)) (.seq (.ops [o7 22 7 .eql (K9 4),a7 21 22] [1,3,7,21]) (.cond (.tmp 21) (.seq (.ops [a7 23 3,b8 24 (.bin .add (.tmp 23) (.const (.string ⟨#[108]⟩))),S9 25 2 1,O6 26 25,P9 27 64 26,o7 28 24 .add (.tmp 27),a7 2 28] [2]) (.ret)) (.seq (.ops [o7 30 7 .eql (K9 5),a7 29 30] [1,3,7,29]) (.cond (.tmp 29) (.seq (.ops [a7 31 3,b8 32 (.bin .add (.tmp 31) (.const (.string ⟨#[109]⟩))),S9 33 2 1,O6 34 33,P9 35 64 34,o7 36 32 .add (.tmp 35),a7 2 36] [2]) (.ret)) (.seq (.ops [o7 38 7 .eql (K9 6),a7 37 38] [1,3,7,37]) (.cond (.tmp 37) (.seq (.draw [a7 39 3,b8 40 (.bin .add (.tmp 39) (.const (.string ⟨#[120]⟩))),S9 41 2 1,O6 42 41,P9 43 64 42,o7 44 40 .add (.tmp 43),b8 45 (.bin .add (.tmp 44) (.const (.string ⟨#[47]⟩))),S9 46 3 1,O6 47 46,P9 48 64 47] [o7 49 45 .add (.tmp 48),a7 2 49] [[],[],[],[],[],[],[],[false,false,false,false,false,false,false],[true,false,false,false,false,false,false,false],[]] [2]) (.ret)) (.seq (.ops [o7 51 7 .eql (K9 7),a7 50 51] [1,3,7,50]) (.cond (.tmp 50) (.seq (.draw [a7 52 3,b8 53 (.bin .add (.tmp 52) (.const (.string ⟨#[121]⟩))),S9 54 2 1,O6 55 54,P9 56 64 55,o7 57 53 .add (.tmp 56),b8 58 (.bin .add (.tmp 57) (.const (.string ⟨#[47]⟩))),S9 59 3 1,O6 60 59,P9 61 64 60] [o7 62 58 .add (.tmp 61),
  a7 2 62] [[],[],[],[],[],[],[],[false,false,false,false,false,false,false],[true,false,false,false,false,false,false,false],[]] [2]) (.ret)) (.seq (.ops [o7 64 7 .eql (K9 8),a7 63 64] [1,3,7,63]) (.cond (.tmp 63) (.seq (.ops [a7 65 3,b8 66 (.bin .add (.tmp 65) (.const (.string ⟨#[115]⟩))),a7 2 66] [2]) (.ret)) (.seq (.ops [o7 68 7 .eql (K9 9),a7 67 68] [1,3,67]) (.cond (.tmp 67) (.seq (.ops [S9 69 2 1,O6 70 69,P9 71 64 70,b8 72 (.bin .add (.const (.string ⟨#[111,110]⟩)) (.tmp 71)),a7 2 72] [2]) (.ret)) (.skip))))))))))))))))))))) (.seq (.ops [a7 73 3,b8 74 (.bin .add (.tmp 73) (.const (.string ⟨#[111]⟩))),S9 75 2 1,O6 76 75,P9 77 64 76,o7 78 74 .add (.tmp 77),a7 2 78] [2]) (.ret))))),79,[(2,none)],true⟩
theorem cF9:q8 Tryd.prog 103 aE4:= .code ⟨Tryd.f103,_,aE4.code,Tryd.func103,rfl,by kernel_rfl,rfl,by kernel_rfl,by kernel_rfl⟩
/- unicode/utf8.decodeRuneInStringSlow -/
def bT1:s6:=⟨.seq (.ops [b8 2 (.mov (.const (.int .i32 0))),E2 3 0] [0]) (.seq (.ops [a7 13 0,b8 14 (.len true (.tmp 13)),a7 4 14] [0,4]) (.seq (.seq (.ops [a7 15 4,o7 16 15 .lss (o0 1)] [0,4,16]) (.cond (.tmp 16) (.seq (.ops [b8 2 (.mov (.const (.int .i32 65533))),E2 3 0] [2,3]) (.ret)) (.skip))) (.seq (.ops [a7 17 0,b8 18 (.idxStr (.tmp 17) (o0 0)),a7 5 18] [0,4,5]) (.seq (.ops [a7 19 5,b8 20 (.idxA 256 1 (.global 2) (.tmp 19)),O6 21 20,a7 6 21] [0,4,5,6]) (.seq (.seq (.ops [a7 22 6,o7 23 22 .geq (K9 240)] [0,4,5,6,23]) (.cond (.tmp 23) (.seq (.ops [a7 24 6,b8 25 (.convI .i32 (.tmp 24)),b8 26 (.bin .shl (.tmp 25) (.const (.int .u64 31))),b8 27 (.bin .shr (.tmp 26) (.const (.int .u64 31))),a7 7 27] [0,7]) (.seq (.ops [a7 28 0,b8 29 (.idxStr (.tmp 28) (o0 0)),b8 30 (.convI .i32 (.tmp 29)),a7 31 7,o7 32 30 .andNot (.tmp 31),a7 33 7,b8 34 (.bin .and (.const (.int .i32 65533)) (.tmp 33)),o7 35 32 .or (.tmp 34),a7 2 35,E2 3 1] [2,3]) (.ret))) (.skip))) (.seq (.ops [a7 36 6,o7 37 36 .and (K9 7),b8 38 (.convI .i64 (.tmp 37)),a7 8 38] [0,4,5,6,8]) (.seq (.ops [a7 39 6,b8 40 (.bin .shr (.tmp 39) (.const (.int .u64 4))),b8 41 (.idxA 16 2 (.global 3) (.tmp 40)),b8 42 (.load (some 2) (.tmp 41)),b8 9 (.alloc 152 [(2,(.int .u8 0))]),⟨none,none,.store 2 (.tmp 9) (.tmp 42)⟩] [0,4,5,8,9]) (.seq (.seq (.ops [a7 43 4,a7 44 8,o7 45 43 .lss (.tmp 44)] [0,5,8,9,45]) (.cond (.tmp 45) (.seq (.ops [b8 2 (.mov (.const (.int .i32 65533))),E2 3 1] [2,3]) (.ret)) (.skip))) (.seq (.ops [a7 46 0,b8 47 (.idxStr (.tmp 46) (o0 1)),a7 10 47] [0,5,8,9,10]) (.seq (.seq (.ops [a7 48 10,S9 49 0 9,O6 50 49,o7 51 48 .lss (.tmp 50),a7 52 51,H2 53 52 (.fldA 1 (.tmp 9)),H2 54 52 (.load none (.tmp 53)),H2 55 52 (.mov (.tmp 10)),H2 56 52 (.bin .lss (.tmp 54) (.tmp 55)),b8 57 (.pick (.tmp 52) (.const (.bool true)) (.tmp 56))] [0,5,8,10,57]) (.cond (.tmp 57) (.seq (.ops [b8 2 (.mov (.const (.int .i32 65533))),E2 3 1] [2,3]) (.ret)) (.skip))) (.seq (.seq (.ops [a7 58 8,o7 59 58 .leq (o0 2)] [0,5,8,10,59]) (.cond (.tmp 59) (.seq (.ops [a7 60 5,o7 61 60 .and (K9 31),b8 62 (.convI .i32 (.tmp 61)),b8 63 (.bin .shl (.tmp 62) (.const (.int .u64 6))),a7 64 10,
  o7 65 64 .and (K9 63),b8 66 (.convI .i32 (.tmp 65)),o7 67 63 .or (.tmp 66),a7 2 67,E2 3 2] [2,3]) (.ret)) (.skip))) (.seq (.ops [a7 68 0,b8 69 (.idxStr (.tmp 68) (o0 2)),a7 11 69] [0,5,8,10,11]) (.seq (.seq (.ops [a7 70 11,o7 71 70 .lss (K9 128),a7 72 71,H2 73 72 (.mov (.tmp 11)),H2 74 72 (.bin .lss (K9 191) (.tmp 73)),b8 75 (.pick (.tmp 72) (.const (.bool true)) (.tmp 74))] [0,5,8,10,11,75]) (.cond (.tmp 75) (.seq (.ops [b8 2 (.mov (.const (.int .i32 65533))),E2 3 1] [2,3]) (.ret)) (.skip))) (.seq (.seq (.ops [a7 76 8,o7 77 76 .leq (o0 3)] [0,5,10,11,77]) (.cond (.tmp 77) (.seq (.ops [a7 78 5,o7 79 78 .and (K9 15),b8 80 (.convI .i32 (.tmp 79)),b8 81 (.bin .shl (.tmp 80) (.const (.int .u64 12))),a7 82 10,o7 83 82 .and (K9 63),b8 84 (.convI .i32 (.tmp 83)),b8 85 (.bin .shl (.tmp 84) (.const (.int .u64 6))),o7 86 81 .or (.tmp 85),a7 87 11,o7 88 87 .and (K9 63),b8 89 (.convI .i32 (.tmp 88)),o7 90 86 .or (.tmp 89),a7 2 90,E2 3 3] [2,3]) (.ret)) (.skip))) (.seq (.ops [a7 91 0,b8 92 (.idxStr (.tmp 91) (o0 3)),a7 12 92] [5,10,11,12]) (.seq (.seq (.ops [a7 93 12,o7 94 93 .lss (K9 128),a7 95 94,H2 96 95 (.mov (.tmp 12)),H2 97 95 (.bin .lss (K9 191) (.tmp 96)),b8 98 (.pick (.tmp 95) (.const (.bool true)) (.tmp 97))] [5,10,11,12,98]) (.cond (.tmp 98) (.seq (.ops [b8 2 (.mov (.const (.int .i32 65533))),E2 3 1] [2,3]) (.ret)) (.skip))) (.seq (.ops [a7 99 5,o7 100 99 .and (K9 7),b8 101 (.convI .i32 (.tmp 100)),b8 102 (.bin .shl (.tmp 101) (.const (.int .u64 18))),a7 103 10,o7 104 103 .and (K9 63),b8 105 (.convI .i32 (.tmp 104)),b8 106 (.bin .shl (.tmp 105) (.const (.int .u64 12))),o7 107 102 .or (.tmp 106),a7 108 11,o7 109 108 .and (K9 63),b8 110 (.convI .i32 (.tmp 109)),b8 111 (.bin .shl (.tmp 110) (.const (.int .u64 6))),o7 112 107 .or (.tmp 111),a7 113 12,o7 114 113 .and (K9 63),b8 115 (.convI .i32 (.tmp 114)),o7 116 112 .or (.tmp 115),a7 2 116,E2 3 4] [2,3]) (.ret)))))))))))))))))),117,[(2,none),(3,none)],true⟩
theorem cG0:q8 Tryd.prog 104 bT1:= .code ⟨Tryd.f104,_,bT1.code,Tryd.func104,rfl,by kernel_rfl,rfl,by kernel_rfl,by kernel_rfl⟩
def fns:FuncId→Option s6
 |5=>some c5
 |10=>some c10
 |12=>some c12
 |14=>some c14
 |15=>some c15
 |17=>some c17
 |20=>some c20
 |21=>some c21
 |22=>some c22
 |23=>some c23
 |24=>some c24
 |27=>some c27
 |28=>some c28
 |29=>some c29
 |31=>some c31
 |32=>some c32
 |36=>some c36
 |38=>some c38
 |39=>some c39
 |40=>some c40
 |42=>some c42
 |43=>some c43
 |44=>some c44
 |45=>some c45
 |46=>some c46
 |47=>some c47
 |48=>some c48
 |49=>some c49
 |50=>some c50
 |51=>some c51
 |53=>some c53
 |54=>some c54
 |56=>some c56
 |57=>some c57
 |58=>some c58
 |59=>some c59
 |64=>some c64
 |65=>some c65
 |66=>some c66
 |67=>some c67
 |68=>some c68
 |69=>some c69
 |70=>some c70
 |71=>some c71
 |72=>some c72
 |75=>some c75
 |76=>some c76
 |79=>some c79
 |82=>some c82
 |83=>some c83
 |84=>some c84
 |85=>some c85
 |87=>some c87
 |88=>some c88
 |89=>some c89
 |90=>some c90
 |92=>some c92
 |95=>some c95
 |102=>some bG4
 |103=>some aE4
 |104=>some bT1
 |_=>none
theorem bU2:IM Tryd.prog fns:=by
 intro f af h
 unfold fns at h
 split at h
 ·cases h;exact ok5
 ·cases h;exact cM7
 ·cases h;exact cM8
 ·cases h;exact cM9
 ·cases h;exact cN0
 ·cases h;exact cN1
 ·cases h;exact cN2
 ·cases h;exact cN3
 ·cases h;exact cN4
 ·cases h;exact cN5
 ·cases h;exact cN6
 ·cases h;exact cN7
 ·cases h;exact cN8
 ·cases h;exact cN9
 ·cases h;exact cO0
 ·cases h;exact cO1
 ·cases h;exact cO2
 ·cases h;exact cO3
 ·cases h;exact cO4
 ·cases h;exact cO5
 ·cases h;exact cO6
 ·cases h;exact cO7
 ·cases h;exact cO8
 ·cases h;exact cO9
 ·cases h;exact cP0
 ·cases h;exact cP1
 ·cases h;exact cP2
 ·cases h;exact cP3
 ·cases h;exact cP4
 ·cases h;exact cP5
 ·cases h;exact cP6
 ·cases h;exact cP7
 ·cases h;exact cP8
 ·cases h;exact cP9
 ·cases h;exact cQ0
 ·cases h;exact cQ1
 ·cases h;exact cQ2
 ·cases h;exact cQ3
 ·cases h;exact cQ4
 ·cases h;exact cQ5
 ·cases h;exact cQ6
 ·cases h;exact cQ7
 ·cases h;exact cQ8
 ·cases h;exact cQ9
 ·cases h;exact cR0
 ·cases h;exact cR1
 ·cases h;exact cR2
 ·cases h;exact cR3
 ·cases h;exact cR4
 ·cases h;exact cR5
 ·cases h;exact cR6
 ·cases h;exact cR7
 ·cases h;exact cR8
 ·cases h;exact cR9
 ·cases h;exact cS0
 ·cases h;exact cS1
 ·cases h;exact cS2
 ·cases h;exact cS3
 ·cases h;exact cF8
 ·cases h;exact cF9
 ·cases h;exact cG0
 ·cases h
end Go.Proofs.YtimmmnanllcfoaaDoor
namespace Go.Proofs
open Go.Shelf
def Tryd.lays156_ren:Go.Shelf.Ren:=⟨fun|156=>52|165=>74|166=>44|169=>46|240=>68|241=>93|276=>91|277=>105|n=>n,fun|31=>62|9=>9|3=>3|4=>4|0=>0|20=>20|72=>83|76=>86|70=>80|37=>81|75=>85|127=>106|164=>126|5=>5|80=>89|n=>n,fun|n=>n⟩
theorem Tryd.lays156:Go.Proofs.Lays.n156 Tryd.prog Tryd.lays156_ren:={
 mixed:=by kernel_rfl
 f156:=Tryd.func52.trans (congrArg some (by kernel_rfl))
 f165:=Tryd.func74.trans (congrArg some (by kernel_rfl))
 f166:=Tryd.func44.trans (congrArg some (by kernel_rfl))
 f169:=Tryd.func46.trans (congrArg some (by kernel_rfl))
 f240:=Tryd.func68.trans (congrArg some (by kernel_rfl))
 f241:=Tryd.func93.trans (congrArg some (by kernel_rfl))
 f276:=Tryd.func91.trans (congrArg some (by kernel_rfl))
 f277:=Tryd.func105.trans (congrArg some (by kernel_rfl))
 t0:=Tryd.underlying0
 a0:=Tryd.isAgg0
 z0:=Tryd.sizeOf0
 v0:=Tryd.zeroValue0
 t3:=Tryd.underlying3
 a3:=Tryd.isAgg3
 z3:=Tryd.sizeOf3
 v3:=Tryd.zeroValue3
 t4:=Tryd.underlying4
 a4:=Tryd.isAgg4
 z4:=Tryd.sizeOf4
 v4:=Tryd.zeroValue4
 t9:=Tryd.underlying9
 a9:=Tryd.isAgg9
 z9:=Tryd.sizeOf9
 v9:=Tryd.zeroValue9
 t20:=Tryd.underlying20
 a20:=Tryd.isAgg20
 z20:=Tryd.sizeOf20
 v20:=Tryd.zeroValue20
 t31:=Tryd.underlying62
 a31:=Tryd.isAgg62
 z31:=Tryd.sizeOf62
 v31:=Tryd.zeroValue62
 t37:=Tryd.underlying81
 a37:=Tryd.isAgg81
 z37:=Tryd.sizeOf81
 v37:=Tryd.zeroValue81
 t70:=Tryd.underlying80
 a70:=Tryd.isAgg80
 z70:=Tryd.sizeOf80
 v70:=Tryd.zeroValue80
 t72:=Tryd.underlying83
 a72:=Tryd.isAgg83
 z72:=Tryd.sizeOf83
 v72:=Tryd.zeroValue83
 t75:=Tryd.underlying85
 a75:=Tryd.isAgg85
 z75:=Tryd.sizeOf85
 v75:=Tryd.zeroValue85
 t76:=Tryd.underlying86
 a76:=Tryd.isAgg86
 z76:=Tryd.sizeOf86
 v76:=Tryd.zeroValue86
 t127:=Tryd.underlying106
 a127:=Tryd.isAgg106
 z127:=Tryd.sizeOf106
 v127:=Tryd.zeroValue106
 t164:=Tryd.underlying126
 a164:=Tryd.isAgg126
 z164:=Tryd.sizeOf126
 v164:=Tryd.zeroValue126}
theorem Tryd.Builder_Extra_156:Builder.Extra Tryd.prog Tryd.lays156_ren:={
 sizeBuilder:=by kernel_rfl
 liesBuilder:=by kernel_rfl
 t5:=Tryd.underlying5
 a5:=Tryd.isAgg5
 z5:=Tryd.sizeOf5
 v5:=Tryd.zeroValue5
 infoByte:=by kernel_rfl
 cellsByte:=by kernel_rfl
 sizeByte:=by kernel_rfl
 neB5:=by decide}
open Go.RowKit in
theorem Tryd.strings_Join_none (a:Option Addr) (c:Nat) (sep:ByteArray) (w:World):
  Calls Tryd.prog 52 #[.slice a 0 c,.string sep] w fun e w'=>e= .returned (.string ⟨#[]⟩)∧w'=w:=Any.strings_Join_none Tryd.lays156 Tryd.Builder_Extra_156 a c sep w
open Go.RowKit in
theorem Tryd.strings_Join (bk o c:Nat) (xs:List ByteArray) (sep:ByteArray) (w:World) (hcells:∀ (j:Nat) x,xs[j]? =some x→w.cell? ⟨bk,o+j,none⟩=some (.string x)) (hbk:bk<w.heap.size) (hN:xs.length≤140737488355328) (hcap:xs.length≤c) (hlen:(Lib.join (xs.map (·.data.toList)) sep.data.toList).length≤140737488355328):
  Calls Tryd.prog 52 #[.slice (some ⟨bk,o,none⟩) xs.length c,.string sep] w fun e w'=>e= .returned (.string ⟨(Lib.join (xs.map (·.data.toList)) sep.data.toList).toArray⟩)∧Below w.heap.size w w':=Any.strings_Join Tryd.lays156 Tryd.Builder_Extra_156 bk o c xs sep w hcells hbk hN hcap hlen
def Tryd.laysM171_ren:Go.Shelf.Ren:=⟨fun|171=>35|243=>63|246=>86|283=>98|284=>99|285=>100|286=>101|129=>111|317=>110|318=>112|319=>113|320=>114|337=>117|338=>118|n=>n,fun|3=>3|9=>9|2=>2|4=>4|171=>134|0=>0|53=>135|37=>81|5=>5|173=>138|212=>145|51=>146|20=>20|213=>147|46=>143|232=>157|233=>158|n=>n,fun|17=>1|18=>4|19=>5|n=>n⟩
theorem Tryd.laysM171:Go.Proofs.LaysM.n171 Tryd.prog Tryd.laysM171_ren:={
 mixed:=by kernel_rfl
 f129:=Tryd.func111.trans (congrArg some (by kernel_rfl))
 f171:=Tryd.func35.trans (congrArg some (by kernel_rfl))
 f243:=Tryd.func63.trans (congrArg some (by kernel_rfl))
 f246:=Tryd.func86.trans (congrArg some (by kernel_rfl))
 f283:=Tryd.func98.trans (congrArg some (by kernel_rfl))
 f284:=Tryd.func99.trans (congrArg some (by kernel_rfl))
 f285:=Tryd.func100.trans (congrArg some (by kernel_rfl))
 f286:=Tryd.func101.trans (congrArg some (by kernel_rfl))
 f317:=Tryd.func110.trans (congrArg some (by kernel_rfl))
 f318:=Tryd.func112.trans (congrArg some (by kernel_rfl))
 f319:=Tryd.func113.trans (congrArg some (by kernel_rfl))
 f320:=Tryd.func114.trans (congrArg some (by kernel_rfl))
 f337:=Tryd.func117.trans (congrArg some (by kernel_rfl))
 f338:=Tryd.func118.trans (congrArg some (by kernel_rfl))
 t0:=Tryd.underlying0
 a0:=Tryd.isAgg0
 z0:=Tryd.sizeOf0
 v0:=Tryd.zeroValue0
 t2:=Tryd.underlying2
 a2:=Tryd.isAgg2
 z2:=Tryd.sizeOf2
 v2:=Tryd.zeroValue2
 t3:=Tryd.underlying3
 a3:=Tryd.isAgg3
 z3:=Tryd.sizeOf3
 v3:=Tryd.zeroValue3
 t4:=Tryd.underlying4
 a4:=Tryd.isAgg4
 z4:=Tryd.sizeOf4
 v4:=Tryd.zeroValue4
 t5:=Tryd.underlying5
 a5:=Tryd.isAgg5
 z5:=Tryd.sizeOf5
 v5:=Tryd.zeroValue5
 t9:=Tryd.underlying9
 a9:=Tryd.isAgg9
 z9:=Tryd.sizeOf9
 v9:=Tryd.zeroValue9
 t20:=Tryd.underlying20
 a20:=Tryd.isAgg20
 z20:=Tryd.sizeOf20
 v20:=Tryd.zeroValue20
 t37:=Tryd.underlying81
 a37:=Tryd.isAgg81
 z37:=Tryd.sizeOf81
 v37:=Tryd.zeroValue81
 t46:=Tryd.underlying143
 a46:=Tryd.isAgg143
 z46:=Tryd.sizeOf143
 v46:=Tryd.zeroValue143
 t51:=Tryd.underlying146
 a51:=Tryd.isAgg146
 z51:=Tryd.sizeOf146
 v51:=Tryd.zeroValue146
 t53:=Tryd.underlying135
 a53:=Tryd.isAgg135
 z53:=Tryd.sizeOf135
 v53:=Tryd.zeroValue135
 t171:=Tryd.underlying134
 a171:=Tryd.isAgg134
 z171:=Tryd.sizeOf134
 v171:=Tryd.zeroValue134
 t173:=Tryd.underlying138
 a173:=Tryd.isAgg138
 z173:=Tryd.sizeOf138
 v173:=Tryd.zeroValue138
 t212:=Tryd.underlying145
 a212:=Tryd.isAgg145
 z212:=Tryd.sizeOf145
 v212:=Tryd.zeroValue145
 t213:=Tryd.underlying147
 a213:=Tryd.isAgg147
 z213:=Tryd.sizeOf147
 t232:=Tryd.underlying157
 a232:=Tryd.isAgg157
 z232:=Tryd.sizeOf157
 v232:=Tryd.zeroValue157
 t233:=Tryd.underlying158
 a233:=Tryd.isAgg158
 z233:=Tryd.sizeOf158
 v233:=Tryd.zeroValue158
 g17:=by kernel_rfl
 g18:=by kernel_rfl
 g19:=by kernel_rfl
 i0:=by kernel_rfl
 i2:=by kernel_rfl
 i3:=by kernel_rfl
 i4:=by kernel_rfl
 i5:=by kernel_rfl
 i9:=by kernel_rfl
 i20:=by kernel_rfl
 i37:=by kernel_rfl
 i46:=by kernel_rfl
 i51:=by kernel_rfl
 i53:=by kernel_rfl
 i171:=by kernel_rfl
 i173:=by kernel_rfl
 i212:=by kernel_rfl
 i232:=by kernel_rfl
 i233:=by kernel_rfl
 m17:=by kernel_rfl
 m18:=by kernel_rfl
 m19:=by kernel_rfl}
open Go.RowKit Go.Sort Go.Lib in
theorem Tryd.strconv_Itoa (n:Int) (h0: -9223372036854775808≤n) (h1:n≤9223372036854775807) (w:World) (htab:Lib.TabIs Tryd.prog w "internal/strconv.uint64pow10" .u64 Lib.pow10Tab):
  Calls Tryd.prog 35 #[.int .i64 n] w fun e w'=>e= .returned (.string ⟨(Lib.itoa n).toArray⟩)∧∃ k os,w'=grow (w.drewN k) os:=Any.strconv_Itoa Tryd.laysM171 n h0 h1 w htab
def Tryd.lays143_ren:Go.Shelf.Ren:=⟨fun|143=>81|219=>97|217=>106|225=>107|224=>108|267=>109|266=>115|314=>116|n=>n,fun|9=>9|3=>3|4=>4|5=>5|46=>143|146=>154|51=>146|n=>n,fun|1=>0|n=>n⟩
theorem Tryd.lays143:Go.Proofs.Lays.n143 Tryd.prog Tryd.lays143_ren:={
 mixed:=by kernel_rfl
 f143:=Tryd.func81.trans (congrArg some (by kernel_rfl))
 f217:=Tryd.func106.trans (congrArg some (by kernel_rfl))
 f219:=Tryd.func97.trans (congrArg some (by kernel_rfl))
 f224:=Tryd.func108.trans (congrArg some (by kernel_rfl))
 f225:=Tryd.func107.trans (congrArg some (by kernel_rfl))
 f266:=Tryd.func115.trans (congrArg some (by kernel_rfl))
 f267:=Tryd.func109.trans (congrArg some (by kernel_rfl))
 f314:=Tryd.func116.trans (congrArg some (by kernel_rfl))
 t3:=Tryd.underlying3
 a3:=Tryd.isAgg3
 z3:=Tryd.sizeOf3
 v3:=Tryd.zeroValue3
 t4:=Tryd.underlying4
 a4:=Tryd.isAgg4
 z4:=Tryd.sizeOf4
 v4:=Tryd.zeroValue4
 t5:=Tryd.underlying5
 a5:=Tryd.isAgg5
 z5:=Tryd.sizeOf5
 v5:=Tryd.zeroValue5
 t9:=Tryd.underlying9
 a9:=Tryd.isAgg9
 z9:=Tryd.sizeOf9
 v9:=Tryd.zeroValue9
 t46:=Tryd.underlying143
 a46:=Tryd.isAgg143
 z46:=Tryd.sizeOf143
 v46:=Tryd.zeroValue143
 t51:=Tryd.underlying146
 a51:=Tryd.isAgg146
 z51:=Tryd.sizeOf146
 v51:=Tryd.zeroValue146
 t146:=Tryd.underlying154
 a146:=Tryd.isAgg154
 z146:=Tryd.sizeOf154
 v146:=Tryd.zeroValue154
 g1:=by kernel_rfl}
open Go.RowKit Go.Lib in
theorem Tryd.strings_Index (s sub:ByteArray) (m:Int) (w:World) (hs:s.size<4294967281) (hm:w.cell? ⟨0,0,none⟩=some (.int .i64 m)):
  Calls Tryd.prog 81 #[.string s,.string sub] w fun e w'=>e= .returned (.int .i64 (Lib.index s.data.toList sub.data.toList))∧w'=w:=Any.strings_Index Tryd.lays143 s sub m w hs hm
def Tryd.lays138_ren:Go.Shelf.Ren:=⟨fun|138=>80|195=>95|218=>96|143=>81|219=>97|217=>106|225=>107|224=>108|267=>109|266=>115|314=>116|n=>n,fun|9=>9|3=>3|4=>4|5=>5|0=>0|46=>143|146=>154|51=>146|n=>n,fun|1=>0|n=>n⟩
theorem Tryd.lays138:Go.Proofs.Lays.n138 Tryd.prog Tryd.lays138_ren:={
 mixed:=by kernel_rfl
 f138:=Tryd.func80.trans (congrArg some (by kernel_rfl))
 f143:=Tryd.func81.trans (congrArg some (by kernel_rfl))
 f195:=Tryd.func95.trans (congrArg some (by kernel_rfl))
 f217:=Tryd.func106.trans (congrArg some (by kernel_rfl))
 f218:=Tryd.func96.trans (congrArg some (by kernel_rfl))
 f219:=Tryd.func97.trans (congrArg some (by kernel_rfl))
 f224:=Tryd.func108.trans (congrArg some (by kernel_rfl))
 f225:=Tryd.func107.trans (congrArg some (by kernel_rfl))
 f266:=Tryd.func115.trans (congrArg some (by kernel_rfl))
 f267:=Tryd.func109.trans (congrArg some (by kernel_rfl))
 f314:=Tryd.func116.trans (congrArg some (by kernel_rfl))
 t0:=Tryd.underlying0
 a0:=Tryd.isAgg0
 z0:=Tryd.sizeOf0
 v0:=Tryd.zeroValue0
 t3:=Tryd.underlying3
 a3:=Tryd.isAgg3
 z3:=Tryd.sizeOf3
 v3:=Tryd.zeroValue3
 t4:=Tryd.underlying4
 a4:=Tryd.isAgg4
 z4:=Tryd.sizeOf4
 v4:=Tryd.zeroValue4
 t5:=Tryd.underlying5
 a5:=Tryd.isAgg5
 z5:=Tryd.sizeOf5
 v5:=Tryd.zeroValue5
 t9:=Tryd.underlying9
 a9:=Tryd.isAgg9
 z9:=Tryd.sizeOf9
 v9:=Tryd.zeroValue9
 t46:=Tryd.underlying143
 a46:=Tryd.isAgg143
 z46:=Tryd.sizeOf143
 v46:=Tryd.zeroValue143
 t51:=Tryd.underlying146
 a51:=Tryd.isAgg146
 z51:=Tryd.sizeOf146
 v51:=Tryd.zeroValue146
 t146:=Tryd.underlying154
 a146:=Tryd.isAgg154
 z146:=Tryd.sizeOf154
 v146:=Tryd.zeroValue154
 g1:=by kernel_rfl}
open Go.RowKit Go.Lib in
theorem Tryd.strings_Count_any (s sep:ByteArray) (m:Int) (w:World) (hs:s.size<4294967281) (hm:w.cell? ⟨0,0,none⟩=some (.int .i64 m)) (h1:1≤sep.size):
  Calls Tryd.prog 80 #[.string s,.string sep] w fun e w'=>e= .returned (.int .i64 (Lib.countB s sep))∧w'=w:=Any.strings_Count_any Tryd.lays138 s sep m w hs hm h1
def Tryd.lays154_ren:Go.Shelf.Ren:=⟨fun|154=>73|138=>80|165=>74|143=>81|166=>44|197=>92|169=>46|195=>95|218=>96|240=>68|241=>93|219=>97|260=>104|276=>91|277=>105|217=>106|225=>107|224=>108|267=>109|266=>115|314=>116|n=>n,fun|9=>9|3=>3|4=>4|72=>83|0=>0|76=>86|105=>130|21=>21|5=>5|70=>80|20=>20|37=>81|75=>85|127=>106|164=>126|46=>143|119=>150|139=>153|138=>152|146=>154|51=>146|80=>89|n=>n,fun|1=>0|3=>2|4=>3|n=>n⟩
theorem Tryd.lays154:Go.Proofs.Lays.n154 Tryd.prog Tryd.lays154_ren:={
 mixed:=by kernel_rfl
 f138:=Tryd.func80.trans (congrArg some (by kernel_rfl))
 f143:=Tryd.func81.trans (congrArg some (by kernel_rfl))
 f154:=Tryd.func73.trans (congrArg some (by kernel_rfl))
 f165:=Tryd.func74.trans (congrArg some (by kernel_rfl))
 f166:=Tryd.func44.trans (congrArg some (by kernel_rfl))
 f169:=Tryd.func46.trans (congrArg some (by kernel_rfl))
 f195:=Tryd.func95.trans (congrArg some (by kernel_rfl))
 f197:=Tryd.func92.trans (congrArg some (by kernel_rfl))
 f217:=Tryd.func106.trans (congrArg some (by kernel_rfl))
 f218:=Tryd.func96.trans (congrArg some (by kernel_rfl))
 f219:=Tryd.func97.trans (congrArg some (by kernel_rfl))
 f224:=Tryd.func108.trans (congrArg some (by kernel_rfl))
 f225:=Tryd.func107.trans (congrArg some (by kernel_rfl))
 f240:=Tryd.func68.trans (congrArg some (by kernel_rfl))
 f241:=Tryd.func93.trans (congrArg some (by kernel_rfl))
 f260:=Tryd.func104.trans (congrArg some (by kernel_rfl))
 f266:=Tryd.func115.trans (congrArg some (by kernel_rfl))
 f267:=Tryd.func109.trans (congrArg some (by kernel_rfl))
 f276:=Tryd.func91.trans (congrArg some (by kernel_rfl))
 f277:=Tryd.func105.trans (congrArg some (by kernel_rfl))
 f314:=Tryd.func116.trans (congrArg some (by kernel_rfl))
 t0:=Tryd.underlying0
 a0:=Tryd.isAgg0
 z0:=Tryd.sizeOf0
 v0:=Tryd.zeroValue0
 t3:=Tryd.underlying3
 a3:=Tryd.isAgg3
 z3:=Tryd.sizeOf3
 v3:=Tryd.zeroValue3
 t4:=Tryd.underlying4
 a4:=Tryd.isAgg4
 z4:=Tryd.sizeOf4
 v4:=Tryd.zeroValue4
 t5:=Tryd.underlying5
 a5:=Tryd.isAgg5
 z5:=Tryd.sizeOf5
 v5:=Tryd.zeroValue5
 t9:=Tryd.underlying9
 a9:=Tryd.isAgg9
 z9:=Tryd.sizeOf9
 v9:=Tryd.zeroValue9
 t20:=Tryd.underlying20
 a20:=Tryd.isAgg20
 z20:=Tryd.sizeOf20
 v20:=Tryd.zeroValue20
 t21:=Tryd.underlying21
 a21:=Tryd.isAgg21
 z21:=Tryd.sizeOf21
 v21:=Tryd.zeroValue21
 t37:=Tryd.underlying81
 a37:=Tryd.isAgg81
 z37:=Tryd.sizeOf81
 v37:=Tryd.zeroValue81
 t46:=Tryd.underlying143
 a46:=Tryd.isAgg143
 z46:=Tryd.sizeOf143
 v46:=Tryd.zeroValue143
 t51:=Tryd.underlying146
 a51:=Tryd.isAgg146
 z51:=Tryd.sizeOf146
 v51:=Tryd.zeroValue146
 t70:=Tryd.underlying80
 a70:=Tryd.isAgg80
 z70:=Tryd.sizeOf80
 v70:=Tryd.zeroValue80
 t72:=Tryd.underlying83
 a72:=Tryd.isAgg83
 z72:=Tryd.sizeOf83
 v72:=Tryd.zeroValue83
 t75:=Tryd.underlying85
 a75:=Tryd.isAgg85
 z75:=Tryd.sizeOf85
 v75:=Tryd.zeroValue85
 t76:=Tryd.underlying86
 a76:=Tryd.isAgg86
 z76:=Tryd.sizeOf86
 v76:=Tryd.zeroValue86
 t105:=Tryd.underlying130
 a105:=Tryd.isAgg130
 z105:=Tryd.sizeOf130
 v105:=Tryd.zeroValue130
 t119:=Tryd.underlying150
 a119:=Tryd.isAgg150
 z119:=Tryd.sizeOf150
 t127:=Tryd.underlying106
 a127:=Tryd.isAgg106
 z127:=Tryd.sizeOf106
 v127:=Tryd.zeroValue106
 t138:=Tryd.underlying152
 a138:=Tryd.isAgg152
 z138:=Tryd.sizeOf152
 v138:=Tryd.zeroValue152
 t139:=Tryd.underlying153
 a139:=Tryd.isAgg153
 z139:=Tryd.sizeOf153
 v139:=Tryd.zeroValue153
 t146:=Tryd.underlying154
 a146:=Tryd.isAgg154
 z146:=Tryd.sizeOf154
 v146:=Tryd.zeroValue154
 t164:=Tryd.underlying126
 a164:=Tryd.isAgg126
 z164:=Tryd.sizeOf126
 v164:=Tryd.zeroValue126
 g1:=by kernel_rfl
 g3:=by kernel_rfl
 g4:=by kernel_rfl}
theorem Tryd.Builder_Extra_154:Builder.Extra Tryd.prog Tryd.lays154_ren:={
 sizeBuilder:=by kernel_rfl
 liesBuilder:=by kernel_rfl
 t5:=Tryd.underlying5
 a5:=Tryd.isAgg5
 z5:=Tryd.sizeOf5
 v5:=Tryd.zeroValue5
 infoByte:=by kernel_rfl
 cellsByte:=by kernel_rfl
 sizeByte:=by kernel_rfl
 neB5:=by decide}
open Go.RowKit Go.Lib in
theorem Tryd.strings_Replace (s old new:ByteArray) (n:Int) (m:Int) (w:World) (hs:s.size<4294967281) (hm:w.cell? ⟨0,0,none⟩=some (.int .i64 m)) (h1:1≤old.size) (hlen:s.size+Lib.countB s old*new.size≤140737488355328):
  Calls Tryd.prog 73 #[.string s,.string old,.string new,.int .i64 n] w fun e w'=>
   e= .returned (.string ⟨(Lib.replace s.data.toList old.data.toList new.data.toList n).toArray⟩)∧Below w.heap.size w w':=Any.strings_Replace Tryd.lays154 Tryd.Builder_Extra_154 s old new n m w hs hm h1 hlen
end Go.Proofs
namespace Go.Proofs.YtimmmnanllcfoaaDoor
open Go Go.Itp
open Go.RowKit (Below)
set_option maxRecDepth 100000
set_option linter.unusedVariables false
theorem own:ownKnob Tryd.prog.godebug=none:=by kernel_rfl
theorem mixed:Tryd.prog.follows .mixedOrders=true:=by kernel_rfl
def WG:List (FuncId × LU × TypeId):= [(91,.same,0),(115,.indexByte,0),(96,.count,0),(105,.makeNoZero,5)]
theorem aI1:wN Tryd.prog WG:=
 ⟨⟨⟨Tryd.f91,Tryd.func91,by kernel_rfl,by kernel_rfl,by kernel_rfl,rfl⟩⟩,⟨⟨Tryd.f115,Tryd.func115,by kernel_rfl,by kernel_rfl,by kernel_rfl,rfl⟩⟩,⟨⟨Tryd.f96,Tryd.func96,by kernel_rfl,by kernel_rfl,by kernel_rfl,rfl⟩⟩,
  ⟨⟨Tryd.f105,Tryd.func105,by kernel_rfl,by kernel_rfl,#[3],81,by kernel_rfl,rfl,Tryd.underlying81⟩⟩,trivial⟩
def cF6:FuncId→List Value→St→Option (Value × List w9):=Y4 (fnP 81 OX) (Y4 (fnP 80 MY) (fnP 73 AK))
def DJ (w:World):Prop:=∃ m:Int,w.cell? ⟨0,0,none⟩=some (.int .i64 m)
theorem DJ.below {w w':World} (h:DJ w) (hb:Below w.heap.size w w'):DJ w':=by
 obtain ⟨m,h⟩:=h
 exact ⟨m,by rw[hb.cell (World.block_lt_of_cell? _ _ h)];exact h⟩
theorem bI1 {w0:World} (h:DJ w0):V6 Tryd.prog cF6 w0:=by
 refine fR (VD ⟨Tryd.f81,_,Tryd.func81,rfl,by kernel_rfl⟩ ?_ ?_) (fR (VD ⟨Tryd.f80,_,Tryd.func80,rfl,by kernel_rfl⟩ ?_ ?_) (VD ⟨Tryd.f73,_,Tryd.func73,rfl,by kernel_rfl⟩ ?_ ?_))
 ·intro xs v e
  unfold OX at e
  split at e
  ·split at e
   ·cases e;exact ⟨rfl,rfl⟩
   ·cases e
  ·cases e
 ·intro xs v e w hb
  unfold OX at e
  split at e
  ·split at e
   ·cases e
    obtain ⟨m,hm⟩:=h.below hb
    refine (Tryd.strings_Index _ _ m w ‹_› hm).mono fun e w' ⟨h1,h2⟩=>⟨h1,?_⟩
    rw[h2];exact Below.refl _ _
   ·cases e
  ·cases e
 ·intro xs v e
  unfold MY at e
  split at e
  ·split at e
   ·cases e;exact ⟨rfl,rfl⟩
   ·cases e
  ·cases e
 ·intro xs v e w hb
  unfold MY at e
  split at e
  ·split at e
   ·rename_i hc
    cases e
    obtain ⟨m,hm⟩:=h.below hb
    refine (Tryd.strings_Count_any _ _ m w hc.1 hm hc.2).mono fun e w' ⟨h1,h2⟩=>⟨h1,?_⟩
    rw[h2];exact Below.refl _ _
   ·cases e
  ·cases e
 ·intro xs v e
  unfold AK at e
  split at e
  ·split at e
   ·cases e;exact ⟨rfl,rfl⟩
   ·cases e
  ·cases e
 ·intro xs v e w hb
  unfold AK at e
  split at e
  ·split at e
   ·rename_i hc
    cases e
    obtain ⟨m,hm⟩:=h.below hb
    exact Tryd.strings_Replace _ _ _ _ m w hc.1 hm hc.2.1 hc.2.2
   ·cases e
  ·cases e
noncomputable abbrev PR (w:World):FuncId→List Value→St→Option (Value × List w9):=
 Y4 (rG WG) (Y4 cF6 (Y4 (PC 35) (FI (vN w) 52)))
noncomputable abbrev EN (w:World) (n:Nat):F7:=w8 (vN w) G4 fns (PR w) n
abbrev Tab (w:World):Prop:=Lib.TabIs Tryd.prog w "internal/strconv.uint64pow10" .u64 Lib.pow10Tab∧DJ w
theorem aW6 (W:World) (ht:Tab W):V6 Tryd.prog (PR W) W:=
 fR (zX WG aI1 W) (fR (bI1 ht.2) (fR
  (aT8 ⟨Tryd.f35,_,Tryd.func35,rfl,by kernel_rfl⟩ ht.1 Tryd.strconv_Itoa)
  (aT9 ⟨Tryd.f52,_,Tryd.func52,rfl,by kernel_rfl⟩ (PW W) Tryd.strings_Join_none Tryd.strings_Join)))
theorem bV3 {W:World} (ht:Tab W) {f:FuncId} {af:s6} (hf:fns f=some af) {xs:List Value} (hxs:y9 0 xs= []) (n:Nat) {v:Value} {s':St} (hb:body (EN W n) af xs St.empty=some (v,s')) (hv:w5 0 v= []):
  Calls Tryd.prog f xs.toArray W fun e w'=>e= .returned v∧Below W.heap.size W w':=
 bV2 mixed bU2 (PW W) (aW6 W ht) hf hxs n hb hv
theorem VH (w:World) (n:Nat) (st:m8) (k:Int) (h0: -9223372036854775808≤k) (h1:k≤9223372036854775807):J9 (EN w (n+1)) 35 st [.sc (.int .i64 k)] (.sc (.string ⟨(Lib.itoa k).toArray⟩)):=
 bU6 h0 h1 fun xs s r h=>E4 rfl (E4 rfl (W8 h))
theorem bU8 (w:World) (n:Nat) (st:m8) (s:Nat) (hs:s ≠ 1) (ls:List (List UInt8)) (sep:List UInt8) (hl:ls.length≤1099511627776) (hlen:(Lib.join ls sep).length≤140737488355328):
  J9 (EN w (n+1)) 52 st [.sl s ls.length (ls.map sD),.sc (.string ⟨sep.toArray⟩)] (.sc (.string ⟨(Lib.join ls sep).toArray⟩)):=
 bU7 s hs ls sep hl hlen fun xs s r h=>E4 rfl (E4 rfl (E4 rfl h))
abbrev n4 (l:List UInt8):V:= .sc (.string ⟨l.toArray⟩)
theorem YY (w:World) (n:Nat) (st:m8) (l t:List UInt8) (hl:l.length≤1000000000):J9 (EN w (n+1)) 81 st [n4 l,n4 t] (.sc (.int .i64 (Lib.index l t))):=
 bU1 (F:=OX) (v:= .int .i64 (Lib.index l t)) (ys:= [.string ⟨l.toArray⟩,.string ⟨t.toArray⟩]) (by simp only[OX];rw[if_pos (by rw[p9];omega)]) rfl fun xs s r h=>E4 rfl (W8 (W8 h))
theorem XR (w:World) (n:Nat) (st:m8) (l t:List UInt8) (hl:l.length≤1000000000) (ht:1≤t.length):J9 (EN w (n+1)) 80 st [n4 l,n4 t] (.sc (.int .i64 (Lib.countB ⟨l.toArray⟩ ⟨t.toArray⟩))):=
 bU1 (F:=MY) (v:= .int .i64 (Lib.countB ⟨l.toArray⟩ ⟨t.toArray⟩)) (ys:= [.string ⟨l.toArray⟩,.string ⟨t.toArray⟩]) (by simp only[MY];rw[if_pos ⟨by rw[p9];omega,by rw[p9];omega⟩]) rfl fun xs s r h=>E4 rfl (W8 (E4 rfl (W8 h)))
theorem WM (w:World) (n:Nat) (st:m8) (l t u:List UInt8) (k:Int) (hl:l.length≤1000000) (ht:1≤t.length) (hu:l.length+Lib.countB ⟨l.toArray⟩ ⟨t.toArray⟩*u.length≤140737488355328):J9 (EN w (n+1)) 73 st [n4 l,n4 t,n4 u,.sc (.int .i64 k)] (n4 (Lib.replace l t u k)):=
 bU1 (F:=AK) (v:= .string ⟨(Lib.replace l t u k).toArray⟩) (ys:= [.string ⟨l.toArray⟩,.string ⟨t.toArray⟩,.string ⟨u.toArray⟩,.int .i64 k]) (by simp only[AK];rw[if_pos ⟨by rw[p9];omega,by rw[p9];omega,by rw[p9,p9];exact hu⟩]) rfl fun xs s r h=>E4 rfl (W8 (E4 rfl (E4 rfl h)))
end Go.Proofs.YtimmmnanllcfoaaDoor
namespace Go.Itp
set_option linter.unusedVariables false
set_option linter.unusedSimpArgs false
set_option maxRecDepth 10000
structure p7 where
 kind:Nat
 purl:Bool
 a:Int
 b:Int
abbrev cI3:List UInt8:= [107,110,105,116]
abbrev aD1:List UInt8:= [112,117,114,108]
abbrev bE0:List UInt8:= [115,108,105,112]
abbrev bR9:List UInt8:= [119,105,116,104]
abbrev TK:List UInt8:= [121,97,114,110]
abbrev wIn:List UInt8:= [105,110]
abbrev LN:List UInt8:= [102,114,111,110,116]
abbrev bR8:List UInt8:= [111,118,101,114]
abbrev cA2:List UInt8:= [116,111,103,101,116,104,101,114]
abbrev bD8:List UInt8:= [40,102,105,114,115,116]
abbrev wOn:List UInt8:= [111,110]
abbrev cI7:List UInt8:= [116,111,112,41]
abbrev bD9:List UInt8:= [109,97,107,101]
abbrev cI6:List UInt8:= [111,117,116]
abbrev wOf:List UInt8:= [111,102]
abbrev w1:List UInt8:= [49]
abbrev TJ:List UInt8:= [112,117,114,108,119,105,115,101]
abbrev LM:List UInt8:= [99,114,111,115,115]
abbrev aD0:List UInt8:= [98,101,104,105,110,100]
abbrev bD7:List UInt8:= [99,97,115,116]
abbrev bD6:List UInt8:= [98,105,110,100]
abbrev cI4:List UInt8:= [111,102,102]
abbrev Z3:List UInt8:= [116,105,109,101,115]
theorem p7.ext' {x y:p7} (h1:x.kind=y.kind) (h2:x.purl=y.purl) (h3:x.a=y.a) (h4:x.b=y.b):x=y:=by
 cases x;cases y;simp_all
instance:DecidableEq p7:=fun x y=>decidable_of_iff (x.kind=y.kind∧x.purl=y.purl∧x.a=y.a∧x.b=y.b) ⟨fun ⟨h1,h2,h3,h4⟩=>p7.ext' h1 h2 h3 h4,fun h=>by subst h;exact ⟨rfl,rfl,rfl,rfl⟩⟩
def eW:p7:=⟨0,false,0,0⟩
instance:Inhabited p7:=⟨eW⟩
def H6 (x:p7):Prop:=
 (x.kind=1∨x.kind=8)∧x.a=0∧x.b=0∨
 x.kind=2∧x.purl=false∧x.a=0∧x.b=0∨
 (x.kind=3∨x.kind=4∨x.kind=5)∧2≤x.a∧x.a≤4∧x.b=0∨
 (x.kind=6∨x.kind=7)∧(1≤x.a∧x.a≤6)∧1≤x.b∧x.b≤6∨
 x.kind=9∧x.purl=false∧1≤x.a∧x.a≤200∧x.b=0∨
 x.kind=10∧1≤x.a∧x.a≤200∧x.b=0
instance cH6 (x:p7):Decidable (H6 x):=by unfold H6;infer_instance
def E5 (x:p7):Bool:=decide (H6 x)
theorem E9 {x:p7}:E5 x=true↔H6 x:=by unfold E5;exact decide_eq_true_iff
theorem H6.bounds {x:p7} (h:H6 x):1≤x.kind∧x.kind≤10∧0≤x.a∧x.a≤200∧0≤x.b∧x.b≤6:=by
 unfold H6 at h
 omega
def rQ (p:Bool):List UInt8:=if p=true then aD1 else cI3
def nV (p:Bool):List (List UInt8):=if p=true then [TJ] else []
def jB (x:p7) (n:Int):List (List UInt8):=match x.kind with
 |1=> [rQ x.purl,Lib.itoa n]
 |2=> [TK,bR8]
 |3=> [rQ x.purl,Lib.itoa x.a,cA2,bD8,wOn,cI7]
 |4=> [rQ x.purl,Lib.itoa x.a,cA2]
 |5=> [bD9,Lib.itoa x.a,cI6,wOf,w1]++nV x.purl
 |6=> [LM,Lib.itoa x.a,wIn,LN,wOf,Lib.itoa x.b]++nV x.purl
 |7=> [LM,Lib.itoa x.a,aD0,Lib.itoa x.b]++nV x.purl
 |8=> [bE0,Lib.itoa n]++if x.purl=true then [bR9,TK,wIn,LN] else []
 |9=> [bD7,wOn,Lib.itoa x.a]
 |_=> [bD6,cI4,Lib.itoa x.a]++nV x.purl
def BR (x:p7) (n:Int):List (List UInt8):=if 1<n∧x.kind ≠ 1∧x.kind ≠ 8 then [Lib.itoa n,Z3] else []
def Y5 (x:p7) (n:Int):List (List UInt8):=jB x n++BR x n
def D2 (x:p7) (n:Int):List UInt8:=join 32 (Y5 x n)
theorem cI {z:Int} (h:0≤z) (c:UInt8) (hc:C5 c=false):c ∉ Lib.itoa z:=fun hm=>by
 rw[PD h c hm] at hc;cases hc
theorem W3 {z:Int} (h:0≤z) {c:UInt8} {l:List UInt8} (hc:C5 c=false):Lib.itoa z ≠ c::l:=fun e=>cI h c hc (by rw[e];simp)
def vM (w:List UInt8):Prop:=(32:UInt8) ∉ w∧(44:UInt8) ∉ w∧(10:UInt8) ∉ w∧w ≠ []
theorem zT {z:Int} (h:0≤z):vM (Lib.itoa z):=⟨cI h _ (by decide),cI h _ (by decide),cI h _ (by decide),qM⟩
instance cL5 (w:List UInt8):Decidable (vM w):=by unfold vM;infer_instance
theorem oT {x:p7} {n:Int} (hx:H6 x) (hn:0≤n):∀ w ∈ Y5 x n,vM w:=by
 have hb:=hx.bounds
 have h1:=zT (z:=n) hn
 have h2:=zT (z:=x.a) (by omega)
 have h3:=zT (z:=x.b) (by omega)
 have hs:∀ p,vM (rQ p):=by intro p;cases p<;>decide
 have hw:∀ p,∀ w ∈ nV p,vM w:=by intro p;cases p<;>decide
 have hf:∀ p:Bool,∀ w ∈ (if p=true then [bR9,TK,wIn,LN] else []),vM w:=by intro p;cases p<;>decide
 have hc:vM TK∧vM bR8∧vM cA2∧vM bD8∧vM wOn∧vM cI7∧vM bD9∧vM cI6∧vM wOf∧vM w1∧vM LM∧vM wIn∧vM LN∧vM aD0∧vM bE0∧vM bD7∧vM bD6∧vM cI4∧vM Z3:=by decide
 obtain ⟨c1,c2,c3,c4,c5,c6,c7,c8,c9,c10,c11,c12,c13,c14,c15,c16,c17,c18,c19⟩:=hc
 intro w hm
 unfold Y5 at hm
 rcases List.mem_append.1 hm with hm|hm
 ·obtain ⟨k,p,a,b⟩:=x
  unfold jB at hm
  simp only at hm h2 h3 hb
  split at hm
  all_goals
   simp only[List.cons_append,List.nil_append,List.mem_cons,List.not_mem_nil,or_false] at hm
  ·rcases hm with rfl|rfl<;>first|exact hs p|assumption
  ·rcases hm with rfl|rfl<;>assumption
  ·rcases hm with rfl|rfl|rfl|rfl|rfl|rfl<;>first|exact hs p|assumption
  ·rcases hm with rfl|rfl|rfl<;>first|exact hs p|assumption
  ·rcases hm with rfl|rfl|rfl|rfl|rfl|hm<;>first|exact hw p w hm|assumption
  ·rcases hm with rfl|rfl|rfl|rfl|rfl|rfl|hm<;>first|exact hw p w hm|assumption
  ·rcases hm with rfl|rfl|rfl|rfl|hm<;>first|exact hw p w hm|assumption
  ·rcases hm with rfl|rfl|hm<;>first|exact hf p w hm|assumption
  ·rcases hm with rfl|rfl|rfl<;>assumption
  ·rcases hm with rfl|rfl|rfl|hm<;>first|exact hw p w hm|assumption
 ·unfold BR at hm
  split at hm
  ·simp only[List.mem_cons,List.not_mem_nil,or_false] at hm
   rcases hm with rfl|rfl<;>assumption
  ·cases hm
theorem MG (x:p7) (n:Int):jB x n ≠ []:=by
 unfold jB;split<;>simp
theorem WE (x:p7) (n:Int):Y5 x n ≠ []:=by
 unfold Y5;simp[MG]
theorem nO {x:p7} {n:Int} (hx:H6 x) (hn:0≤n):n7 32 (D2 x n)=Y5 x n:=
 pH (WE x n) fun w hw=>(oT hx hn w hw).1
def PS (l:List UInt8):Int:=match Lib.atoiAll l with
 | .ok v=>v
 |_=>0
theorem mG {z:Int} (h0:0≤z) (h1:z≤1000000):PS (Lib.itoa z)=z:=by
 unfold PS;rw[aE2 h0 (by omega)]
def aH3 (ws:List (List UInt8)):List (List UInt8) × Int:=match ws.reverse with
 |t::n::r=>if t=Z3 then (r.reverse,PS n) else (ws,1)
 |_=>(ws,1)
def bG8 (ws:List (List UInt8)) (n:Int):p7 × Int:=
 let h:=ws.headD []
 let at1:=PS (ws.getD 1 [])
 let ws2:=decide (TJ ∈ ws)
 if h=TK then (⟨2,false,0,0⟩,n)
 else if h=bD9 then (⟨5,ws2,at1,0⟩,n)
 else if h=LM then (if ws.getD 2 []=wIn then (⟨6,ws2,at1,PS (ws.getD 5 [])⟩,n) else (⟨7,ws2,at1,PS (ws.getD 3 [])⟩,n))
 else if h=bD7 then (⟨9,false,PS (ws.getD 2 []),0⟩,n)
 else if h=bD6 then (⟨10,ws2,PS (ws.getD 2 []),0⟩,n)
 else if h=bE0 then (⟨8,decide (2<ws.length),0,0⟩,at1)
 else if ws.length=2 then (⟨1,decide (h=aD1),0,0⟩,at1)
 else if ws.length=3 then (⟨4,decide (h=aD1),at1,0⟩,n)
 else (⟨3,decide (h=aD1),at1,0⟩,n)
def bG9 (ws:List (List UInt8)):p7 × Int:=bG8 (aH3 ws).1 (aH3 ws).2
theorem VX (B:List (List UInt8)) {n:Int} (h0:0≤n) (h1:n≤1000000):aH3 (B++ [Lib.itoa n,Z3])=(B,n):=by
 unfold aH3
 simp only[List.reverse_append,List.reverse_cons,List.reverse_nil,List.nil_append,List.cons_append,List.reverse_reverse,if_true,mG h0 h1]
theorem EJ {x:p7} {n:Int} (hx:H6 x) (h0:0≤n) (h1:n≤1000) (m:Int) (hm:x.kind ≠ 1→x.kind ≠ 8→m=n):bG8 (jB x n) m=(x,n):=by
 have hb:=hx.bounds
 have n1:=mG (z:=n) h0 (by omega)
 have n2:=mG (z:=x.a) (by omega) (by omega)
 have n3:=mG (z:=x.b) (by omega) (by omega)
 have q1:Lib.itoa n ≠ TJ:=W3 h0 (by decide)
 have q2:Lib.itoa x.a ≠ TJ:=W3 (by omega) (by decide)
 have q3:Lib.itoa x.b ≠ TJ:=W3 (by omega) (by decide)
 obtain ⟨k,p,a,b⟩:=x
 unfold H6 at hx
 simp only at hx n1 n2 n3 q1 q2 q3 hm
 have r2:=Ne.symm q2
 have r3:=Ne.symm q3
 rcases hx with ⟨rfl|rfl,rfl,rfl⟩|⟨rfl,rfl,rfl,rfl⟩|⟨rfl|rfl|rfl,h2,h3,rfl⟩|⟨rfl|rfl,h2,h3⟩|⟨rfl,rfl,h2,h3,rfl⟩|⟨rfl,h2,h3,rfl⟩
 all_goals
  try (have hm:=hm (by decide) (by decide);subst hm)
  first
  |(cases p<;>simp[bG8,jB,rQ,nV,n1,n2,n3,r2,r3])
  |simp[bG8,jB,rQ,nV,n1,n2,n3,r2,r3]
theorem aH4 (B:List (List UInt8)) (h:∀ w,B.getLast? =some w→w ≠ Z3):aH3 B=(B,1):=by
 unfold aH3
 cases hr:B.reverse with
 |nil=>rfl
 |cons t r=>
  have hl:B.getLast? =some t:=by rw[← List.head?_reverse,hr];rfl
  cases r with
  |nil=>rfl
  |cons n r=>simp only[if_neg (h t hl)]
theorem NH {x:p7} {n:Int} (hx:H6 x) (h0:1≤n) (h1:n≤1000):bG9 (Y5 x n)=(x,n):=by
 unfold bG9 Y5 BR
 by_cases ht:1<n∧x.kind ≠ 1∧x.kind ≠ 8
 ·rw[if_pos ht,VX _ (by omega) (by omega)]
  exact EJ hx (by omega) h1 n fun _ _=>rfl
 ·rw[if_neg ht,List.append_nil,aH4]
  ·exact EJ hx (by omega) h1 1 fun a b=>by
    have:¬ 1<n:=fun h=>ht ⟨h,a,b⟩
    omega
  ·have hb:=hx.bounds
   have q1:Lib.itoa n ≠ Z3:=W3 (by omega) (by decide)
   have q2:Lib.itoa x.a ≠ Z3:=W3 (by omega) (by decide)
   have q3:Lib.itoa x.b ≠ Z3:=W3 (by omega) (by decide)
   have r1:=Ne.symm q1
   have r2:=Ne.symm q2
   have r3:=Ne.symm q3
   intro w hw e
   subst e
   obtain ⟨k,p,a,b⟩:=x
   simp only at r1 r2 r3
   unfold jB at hw
   simp only at hw
   split at hw
   all_goals
    revert hw
    cases p<;>simp[nV,rQ,q1,q2,q3,r1,r2,r3]
def fW (s:List UInt8):Option (p7 × Int):=
 let r:=bG9 (n7 32 s)
 if H6 r.1∧(1≤r.2∧r.2≤200)∧D2 r.1 r.2=s then some r else none
theorem AH {s:List UInt8} {x:p7} {n:Int} (h:fW s=some (x,n)):H6 x∧(1≤n∧n≤200)∧D2 x n=s:=by
 unfold fW at h
 generalize bG9 (n7 32 s)=r at h
 simp only at h
 split at h
 ·rename_i hc
  cases h
  exact hc
 ·cases h
theorem rJ {x:p7} {n:Int} (hx:H6 x) (h0:1≤n) (h1:n≤200):fW (D2 x n)=some (x,n):=by
 unfold fW
 simp only[nO hx (by omega:0≤n),NH hx h0 (by omega:n≤1000)]
 rw[if_pos ⟨hx,⟨h0,h1⟩,trivial⟩]
end Go.Itp
namespace Go.Itp
set_option linter.unusedVariables false
set_option linter.unusedSimpArgs false
set_option maxRecDepth 10000
def T6 (x:p7):Int:=if x.kind=2∨x.kind=9 then 0 else if x.kind=3∨x.kind=4∨x.kind=10 then x.a else if x.kind=6∨x.kind=7 then x.a+x.b else 1
def T5 (x:p7):Int:=if x.kind=10 then 0 else if x.kind=5∨x.kind=9 then x.a else if x.kind=6∨x.kind=7 then x.a+x.b else 1
def U1 (f:p7→Int):List p7→Int
 | []=>0
 |x::l=>f x+U1 f l
def S3 (L:List p7):Int:=if 200<L.length then 4 else if L.all E5=true then (if 200<U1 T6 L∨200<U1 T5 L then 4 else 0) else 8
def O3:List p7→List (p7 × Nat)
 | []=> []
 |x::l=>match O3 l with
  | []=> [(x,1)]
  |(y,n)::r=>if y=x then (x,n+1)::r else (x,1)::(y,n)::r
def phr (r:p7 × Nat):List UInt8:=D2 r.1 r.2
def jnC:List (List UInt8)→List UInt8
 | []=> []
 | [w]=>w
 |w::ws=>w++44::32::jnC ws
theorem qN (w:List UInt8) {ws:List (List UInt8)} (h:ws ≠ []):jnC (w::ws)=w++44::32::jnC ws:=by
 cases ws with
 |nil=>exact absurd rfl h
 |cons a r=>rfl
theorem VI:∀ ws,jnC ws=Lib.join ws [44,32]
 | []=>rfl
 | [w]=>by simp[jnC,Lib.join,List.intercalate]
 |w::v::ws=>by
  rw[qN w (by simp),VI (v::ws)]
  simp[Lib.join,List.intercalate]
def L8:List UInt8:= [110,111,116,104,105,110,103]
def C0 (L:List p7):List UInt8:=if L= [] then L8 else jnC ((O3 L).map phr)
def C4 (L:List p7):List UInt8 × Int:=if S3 L=0 then (if 2000<(C0 L).length then ([],4) else (C0 L,0)) else ([],S3 L)
theorem V7 {L:List p7} (h:S3 L=0):L.length≤200∧L.all E5=true∧U1 T6 L≤200∧U1 T5 L≤200:=by
 unfold S3 at h
 split at h
 ·exact absurd h (by decide)
 split at h
 ·split at h
  ·exact absurd h (by decide)
  ·rename_i h1 h2 h3
   exact ⟨by omega,h2,by omega,by omega⟩
 ·exact absurd h (by decide)
def nE (R:List (p7 × Nat)):List p7:=R.flatMap fun r=>List.replicate r.2 r.1
theorem dT:∀ L,nE (O3 L)=L
 | []=>rfl
 |x::l=>by
  have ih:=dT l
  rw[O3]
  cases hr:O3 l with
  |nil=>rw[hr] at ih;simp[nE] at ih ⊢;exact ih
  |cons y r=>
   obtain ⟨y,n⟩:=y
   rw[hr] at ih
   simp only[nE,List.flatMap_cons] at ih
   by_cases e:y=x
   ·simp only[if_pos e,nE,List.flatMap_cons,List.replicate_succ,List.cons_append]
    rw[← e,ih]
   ·simp only[if_neg e,nE,List.flatMap_cons]
    rw[ih];rfl
theorem cV:∀ L,∀ r ∈ O3 L,1≤r.2∧r.2≤L.length∧r.1 ∈ L
 | [],r,h=>by cases h
 |x::l,r,h=>by
  have ih:=cV l
  rw[O3] at h
  cases hr:O3 l with
  |nil=>
   rw[hr] at h
   simp only[List.mem_singleton] at h
   subst h
   simp
  |cons y q=>
   obtain ⟨y,n⟩:=y
   rw[hr] at h ih
   simp only at h
   have h1:=ih (y,n) (by simp)
   split at h
   ·rcases List.mem_cons.1 h with rfl|h
    ·simp only[List.length_cons,List.mem_cons,true_or,and_true];omega
    ·have:=ih r (List.mem_cons_of_mem _ h)
     exact ⟨this.1,by simp;omega,List.mem_cons_of_mem _ this.2.2⟩
   ·rcases List.mem_cons.1 h with rfl|h
    ·simp
    ·have:=ih r h
     exact ⟨this.1,by simp;omega,List.mem_cons_of_mem _ this.2.2⟩
theorem rO {L:List p7} (h:L ≠ []):O3 L ≠ []:=fun e=>h (by rw[← dT L,e];rfl)
theorem oJ (r:p7 × Nat) (R:List (p7 × Nat)):nE (r::R)=List.replicate r.2 r.1++nE R:=rfl
def xP (c:UInt8):List (List UInt8)→List (List UInt8)
 | []=> [[c]]
 |w::ws=>(c::w)::ws
def v7:List UInt8→List (List UInt8)
 | []=> [[]]
 | [c]=> [[c]]
 |c::d::r=>if c=44∧d=32 then []::v7 r else xP c (v7 (d::r))
theorem tZ:∀ s,v7 s ≠ []
 | []=>by simp[v7]
 | [c]=>by simp[v7]
 |c::d::r=>by
  rw[v7]
  split
  ·simp
  ·cases v7 (d::r)<;>simp[xP]
theorem bP {c d:UInt8} {r:List UInt8} (h:¬ (c=44∧d=32)):v7 (c::d::r)=xP c (v7 (d::r)):=by rw[v7,if_neg h]
theorem vR:∀ {w:List UInt8},(44:UInt8) ∉ w→v7 w= [w]
 | [],_=>rfl
 | [c],_=>rfl
 |c::d::r,h=>by
  rw[bP (fun e=>h (by rw[e.1];simp)),vR (fun e=>h (List.mem_cons_of_mem _ e))]
  rfl
theorem BG:∀ {w:List UInt8} (r:List UInt8),(44:UInt8) ∉ w→v7 (w++44::32::r)=w::v7 r
 | [],r,_=>by rw[List.nil_append,v7,if_pos ⟨rfl,rfl⟩]
 | [c],r,h=>by
  rw[List.cons_append,List.nil_append,bP (fun e=>h (by rw[e.1];simp)),v7,if_pos ⟨rfl,rfl⟩]
  rfl
 |c::d::w,r,h=>by
  have ih:=BG (w:=d::w) r (fun e=>h (List.mem_cons_of_mem _ e))
  rw[List.cons_append] at ih
  rw[List.cons_append,List.cons_append,bP (fun e=>h (by rw[e.1];simp)),ih]
  rfl
theorem lE:∀ {ws:List (List UInt8)},ws ≠ []→(∀ w ∈ ws,(44:UInt8) ∉ w)→v7 (jnC ws)=ws
 | [],h,_=>absurd rfl h
 | [w],_,h=>vR (h w (by simp))
 |w::v::ws,_,h=>by
  rw[qN w (by simp),BG _ (h w (by simp)),lE (by simp) (fun x hx=>h x (List.mem_cons_of_mem _ hx))]
theorem WD {x:p7} {n:Int} (hx:H6 x) (hn:0≤n):(44:UInt8) ∉ D2 x n∧(10:UInt8) ∉ D2 x n:=by
 have aux:∀ d:UInt8,d ≠ 32→∀ ws:List (List UInt8),(∀ w ∈ ws,d ∉ w)→d ∉ join 32 ws:=by
  intro d hd ws
  induction ws with
  |nil=>intro _;simp[join]
  |cons w ws ih=>
   intro h
   cases ws with
   |nil=>exact h w (by simp)
   |cons v r=>
    rw[join,List.mem_append,List.mem_cons]
    rintro (h1|h1|h1)
    ·exact h w (by simp) h1
    ·exact hd h1
    ·exact ih (fun x hx=>h x (List.mem_cons_of_mem _ hx)) h1
 exact ⟨aux 44 (by decide) _ fun w hw=>(oT hx hn w hw).2.1,aux 10 (by decide) _ fun w hw=>(oT hx hn w hw).2.2.1⟩
def tR:List (List UInt8)→List p7→Option (List p7)
 | [],acc=>some acc
 |p::ps,acc=>match fW p with
  |none=>none
  |some (x,n)=>if 200<(acc.length:Int)+n then none else tR ps (acc++List.replicate n.toNat x)
def eM (s:List UInt8):Option (List p7):=if 2000<s.length then none else if s=L8 then some [] else match tR (v7 s) [] with
 |none=>none
 |some L=>if S3 L=0∧C0 L=s then some L else none
def A7 (s:List UInt8):List p7 × Int:=match eM s with
 |none=>([],12)
 |some L=>(L,0)
theorem GF:∀ (R:List (p7 × Nat)) (acc:List p7),(∀ r ∈ R,H6 r.1∧1≤r.2∧r.2≤200)→acc.length+(nE R).length≤200→tR (R.map phr) acc=some (acc++nE R)
 | [],acc,_,_=>by simp[tR,nE]
 |r::R,acc,h,hl=>by
  obtain ⟨h1,h2,h3⟩:=h r (by simp)
  rw[oJ,List.length_append,List.length_replicate] at hl
  rw[List.map_cons,tR,show phr r=D2 r.1 (r.2:Int) from rfl,rJ h1 (by omega) (by omega)]
  simp only
  rw[if_neg (by omega),Int.toNat_natCast,GF R _ (fun q hq=>h q (List.mem_cons_of_mem _ hq)) (by rw[List.length_append,List.length_replicate];omega),oJ]
  simp
theorem WB {L:List p7} (h:L.all E5=true):∀ w ∈ (O3 L).map phr,(44:UInt8) ∉ w∧(10:UInt8) ∉ w:=by
 intro w hw
 obtain ⟨r,hr,rfl⟩:=List.mem_map.1 hw
 have h1:=cV L r hr
 exact WD (E9.1 (List.all_eq_true.1 h _ h1.2.2)) (by omega)
theorem rY {L:List p7} (h:L.all E5=true) (hl:L.length≤200) (hn:L ≠ []):C0 L ≠ L8:=fun e=>by
 unfold C0 at e
 rw[if_neg hn] at e
 have h1:=congrArg v7 e
 rw[lE (by simp[rO hn]) (fun w hw=>(WB h w hw).1),show v7 L8= [L8] from by decide] at h1
 cases hr:O3 L with
 |nil=>exact rO hn hr
 |cons r R=>
  rw[hr,List.map_cons] at h1
  obtain ⟨h2,_⟩:=List.cons.inj h1
  have h3:=cV L r (by rw[hr];simp)
  have h4:=nO (E9.1 (List.all_eq_true.1 h _ h3.2.2)) (n:=(r.2:Int)) (by omega)
  rw[show D2 r.1 (r.2:Int)=phr r from rfl,h2,show n7 32 L8= [L8] from by decide] at h4
  have h5:(Y5 r.1 (r.2:Int)).length=1:=by rw[← h4];rfl
  have h6:2≤(jB r.1 (r.2:Int)).length:=by
   unfold jB;split<;>simp
  unfold Y5 at h5
  rw[List.length_append] at h5
  omega
theorem aZ {L:List p7} (h:(C4 L).2=0):eM (C0 L)=some L∧C4 L=(C0 L,0):=by
 unfold C4 at h ⊢
 by_cases ha:S3 L=0
 ·rw[if_pos ha] at h ⊢
  by_cases hl:2000<(C0 L).length
  ·rw[if_pos hl] at h;exact absurd h (by decide)
  ·rw[if_neg hl]
   refine ⟨?_,rfl⟩
   obtain ⟨h1,h2,h3,h4⟩:=V7 ha
   unfold eM
   rw[if_neg hl]
   by_cases hn:L= []
   ·subst hn;rfl
   ·rw[if_neg (rY h2 h1 hn)]
    have e:v7 (C0 L)=(O3 L).map phr:=by
     unfold C0
     rw[if_neg hn,lE (by simp[rO hn]) (fun w hw=>(WB h2 w hw).1)]
    rw[e,GF _ [] (fun r hr=>by
     have:=cV L r hr
     exact ⟨E9.1 (List.all_eq_true.1 h2 _ this.2.2),by omega,by omega⟩) (by rw[dT];simpa using h1),dT]
    simp only[List.nil_append]
    rw[if_pos ⟨ha,trivial⟩]
 ·rw[if_neg ha] at h;exact absurd h ha
theorem KR {s:List UInt8} {L:List p7} (h:eM s=some L):C4 L=(s,0):=by
 unfold eM at h
 split at h
 ·cases h
 rename_i hs
 split at h
 ·rename_i he
  cases h
  rw[he]
  rfl
 ·cases hr:tR (v7 s) [] with
  |none=>rw[hr] at h;cases h
  |some M=>
   rw[hr] at h
   simp only at h
   split at h
   ·rename_i hc
    cases h
    unfold C4
    rw[if_pos hc.1,if_neg (by rw[hc.2];exact hs),hc.2]
   ·cases h
theorem oV {s:List UInt8} {L:List p7} (h:C4 L=(s,0)):eM s=some L:=by
 have h1:=aZ (L:=L) (by rw[h])
 rw[h1.2] at h
 cases h
 exact h1.1
theorem UM {L M:List p7} {s:List UInt8} (h1:C4 L=(s,0)) (h2:C4 M=(s,0)):L=M:=by
 have:=oV h1
 rw[oV h2] at this
 exact (Option.some.inj this).symm
def Z8 (b:Bool):List UInt8:=if b=true then [98,97,99,107] else [102,114,111,110,116]
def nC (b:Bool):List UInt8:=40::Z8 b++ [41,58]
def aJ0:List UInt8:= [114,111,119]
def cB (b:Bool) (n:Int):List UInt8:=aJ0++32::(Lib.itoa n++32::(nC b++ [32]))
def G6 (b:Bool) (L:List p7) (n:Int):List UInt8 × Int:=if S3 L=0 then (if n<1∨100<n then ([],2) else if (C4 L).2=0 then (cB b n++(C4 L).1++ [46],0) else ([],(C4 L).2)) else ([],S3 L)
theorem rM {b:Bool} {L:List p7} {n:Int} (h:(G6 b L n).2=0):(1≤n∧n≤100)∧C4 L=(C0 L,0)∧G6 b L n=(cB b n++C0 L++ [46],0)∧S3 L=0:=by
 unfold G6 at h ⊢
 by_cases h1:S3 L=0
 ·rw[if_pos h1] at h ⊢
  by_cases h2:n<1∨100<n
  ·rw[if_pos h2] at h;exact absurd h (by decide)
  ·rw[if_neg h2] at h ⊢
   by_cases h3:(C4 L).2=0
   ·have:=(aZ h3).2
    rw[if_pos h3,this]
    exact ⟨by omega,rfl,rfl,h1⟩
   ·rw[if_neg h3] at h;exact absurd h h3
 ·rw[if_neg h1] at h;exact absurd h h1
theorem vC (b:Bool) {n:Int} (hn:0≤n) (r:List UInt8):n7 32 (cB b n++r)=aJ0::Lib.itoa n::nC b::n7 32 r:=by
 have h2:(32:UInt8) ∉ Lib.itoa n:=cI hn _ (by decide)
 have h3:(32:UInt8) ∉ nC b:=by cases b<;>decide
 have e:cB b n++r=aJ0++32::(Lib.itoa n++32::(nC b++32::r)):=by simp[cB]
 rw[e,H5 _ (by decide),H5 _ h2,H5 _ h3]
theorem aF6 {b c:Bool} (h:nC b=nC c):b=c:=by cases b<;>cases c<;>first|rfl|(revert h;decide)
theorem aG2 {b c:Bool} {n m:Int} {r q:List UInt8} (hn:0≤n) (hm:0≤m) (h:cB b n++r=cB c m++q):b=c∧n=m∧r=q:=by
 have e:=congrArg (n7 32) h
 rw[vC b hn,vC c hm] at e
 obtain ⟨_,e⟩:=List.cons.inj e
 obtain ⟨e1,e⟩:=List.cons.inj e
 obtain ⟨e2,e⟩:=List.cons.inj e
 have h1:=PE hn hm e1
 have h2:=aF6 e2
 subst h1 h2
 exact ⟨rfl,rfl,List.append_cancel_left h⟩
theorem RF {b c:Bool} {L M:List p7} {n m:Int} {s:List UInt8} (h1:G6 b L n=(s,0)) (h2:G6 c M m=(s,0)):b=c∧L=M∧n=m:=by
 obtain ⟨a1,a2,a3,_⟩:=rM (by rw[h1]:(G6 b L n).2=0)
 obtain ⟨b1,b2,b3,_⟩:=rM (by rw[h2]:(G6 c M m).2=0)
 rw[h1] at a3
 rw[h2] at b3
 have e:cB b n++(C0 L++ [46])=cB c m++(C0 M++ [46]):=by
  rw[← List.append_assoc,← List.append_assoc]
  exact (congrArg Prod.fst a3).symm.trans (congrArg Prod.fst b3)
 obtain ⟨e1,e2,e3⟩:=aG2 (by omega) (by omega) e
 have e4:=List.append_cancel_right e3
 rw[e4] at a2
 exact ⟨e1,UM a2 b2,e2⟩
open Classical in
noncomputable def cD (s:List UInt8):Option (Bool × List p7 × Int):=if h:∃ r:Bool × List p7 × Int,G6 r.1 r.2.1 r.2.2=(s,0) then some (Classical.choose h) else none
theorem AF {b:Bool} {L:List p7} {n:Int} {s:List UInt8} (h:G6 b L n=(s,0)):cD s=some (b,L,n):=by
 have hx:∃ r:Bool × List p7 × Int,G6 r.1 r.2.1 r.2.2=(s,0):=⟨(b,L,n),h⟩
 unfold cD
 rw[dif_pos hx]
 have h2:=Classical.choose_spec hx
 generalize Classical.choose hx=r at h2
 obtain ⟨c,M,m⟩:=r
 obtain ⟨e1,e2,e3⟩:=RF h2 h
 simp only at e1 e2 e3
 rw[e1,e2,e3]
theorem AG {b:Bool} {L:List p7} {n:Int} {s:List UInt8} (h:cD s=some (b,L,n)):G6 b L n=(s,0):=by
 unfold cD at h
 split at h
 ·rename_i hx
  have h2:=Classical.choose_spec hx
  rw[Option.some.inj h] at h2
  exact h2
 ·cases h
theorem aT4 (b:Bool) {n:Int} (hn:0≤n):(10:UInt8) ∉ cB b n:=by
 have h2:(10:UInt8) ∉ Lib.itoa n:=cI hn _ (by decide)
 have h3:(10:UInt8) ∉ nC b:=by cases b<;>decide
 unfold cB
 simp only[List.mem_append,List.mem_cons,h2,h3,not_or]
 decide
theorem TS {L:List p7} (h:L.all E5=true):(10:UInt8) ∉ C0 L:=by
 have aux:∀ ws:List (List UInt8),(∀ w ∈ ws,(10:UInt8) ∉ w)→(10:UInt8) ∉ jnC ws:=by
  intro ws
  induction ws with
  |nil=>intro _;simp[jnC]
  |cons w ws ih=>
   intro h
   cases ws with
   |nil=>exact h w (by simp)
   |cons v r=>
    rw[qN w (by simp),List.mem_append,List.mem_cons,List.mem_cons]
    rintro (h1|h1|h1|h1)
    ·exact h w (by simp) h1
    ·exact absurd h1 (by decide)
    ·exact absurd h1 (by decide)
    ·exact ih (fun x hx=>h x (List.mem_cons_of_mem _ hx)) h1
 unfold C0
 split
 ·decide
 ·exact aux _ fun w hw=>(WB h w hw).2
theorem aI9 {b:Bool} {L:List p7} {n:Int} {s:List UInt8} (h:G6 b L n=(s,0)):(10:UInt8) ∉ s:=by
 obtain ⟨a1,a2,a3,a4⟩:=rM (by rw[h]:(G6 b L n).2=0)
 rw[h] at a3
 rw[show s=_ from congrArg Prod.fst a3]
 simp only[List.mem_append,not_or]
 exact ⟨⟨aT4 b (by omega),TS (V7 a4).2.1⟩,by decide⟩
theorem aZ1 {b:Bool} {L:List p7} {n:Int}:(G6 b L n).1.length≤2100:=by
 unfold G6
 split
 ·split
  ·simp
  split
  ·rename_i h1 h2 h3
   have h4:=(aZ h3).2
   have h5:(C0 L).length≤2000:=by
    unfold C4 at h3
    rw[if_pos h1] at h3
    split at h3
    ·exact absurd h3 (by decide)
    ·omega
   rw[h4]
   have h6:(Lib.itoa n).length≤4:=by
    obtain ⟨u,rfl⟩:=Int.eq_ofNat_of_zero_le (show 0≤n by omega)
    rw[Lib.itoa_nonneg]
    exact Nat.le_trans (aV 3 u (by omega)) (Nat.le_refl _)
   have h7:(nC b).length≤10:=by cases b<;>decide
   unfold cB
   simp only[List.length_append,List.length_cons,List.length_nil]
   have h8:aJ0.length=3:=rfl
   omega
  ·simp
 ·simp
abbrev DI:=Int × List (Bool × List p7)
def GU:List (Bool × List p7)→Int
 | []=>0
 |r::l=>if S3 r.2=0 then GU l else S3 r.2
def aD (c:DI):Int:=if 100<c.2.length then 4 else if c.1<0∨200<c.1 then 8 else GU c.2
def B9:Int→List (Bool × List p7)→List UInt8 × Int
 |_,[]=>([],0)
 |n,r::l=>if (G6 r.1 r.2 n).2=0 then (if (B9 (n+1) l).2=0 then ((G6 r.1 r.2 n).1++10::(B9 (n+1) l).1,0) else ([],(B9 (n+1) l).2)) else ([],(G6 r.1 r.2 n).2)
def L1 (n:Int):List UInt8:= [115,116,97,114,116]++32::([119,105,116,104]++32::(Lib.itoa n++32:: [115,116,105,116,99,104,101,115,46]))
def A4 (c:DI):List UInt8 × Int:=if aD c=0 then (if (B9 1 c.2).2=0 then (if 60000<(L1 c.1++10::(B9 1 c.2).1).length then ([],4) else (L1 c.1++10::(B9 1 c.2).1,0)) else ([],(B9 1 c.2).2)) else ([],aD c)
theorem lV {c:DI} (h:(A4 c).2=0):aD c=0∧(B9 1 c.2).2=0∧(L1 c.1++10::(B9 1 c.2).1).length≤60000∧A4 c=(L1 c.1++10::(B9 1 c.2).1,0):=by
 unfold A4 at h ⊢
 by_cases h1:aD c=0
 ·rw[if_pos h1] at h ⊢
  by_cases h2:(B9 1 c.2).2=0
  ·rw[if_pos h2] at h ⊢
   by_cases h3:60000<(L1 c.1++10::(B9 1 c.2).1).length
   ·rw[if_pos h3] at h;exact absurd h (by decide)
   ·exact ⟨h1,h2,by omega,by rw[if_neg h3]⟩
  ·rw[if_neg h2] at h;exact absurd h h2
 ·rw[if_neg h1] at h;exact absurd h h1
theorem fC {c:DI} (h:aD c=0):c.2.length≤100∧(0≤c.1∧c.1≤200)∧GU c.2=0:=by
 unfold aD at h
 split at h
 ·exact absurd h (by decide)
 split at h
 ·exact absurd h (by decide)
 ·exact ⟨by omega,by omega,h⟩
def aG:Int→List (Bool × List p7)→List (List UInt8)
 |_,[]=> []
 |n,r::l=>(G6 r.1 r.2 n).1::aG (n+1) l
theorem dM:∀ (n:Int) (l:List (Bool × List p7)),(aG n l).length=l.length
 |_,[]=>rfl
 |n,r::l=>by rw[aG,List.length_cons,List.length_cons,dM]
theorem qR:∀ (l:List (Bool × List p7)) (n:Int),(B9 n l).2=0→n7 10 (B9 n l).1=aG n l++ [[]]
 | [],_,_=>(S1 (c:=10) (s:= []) (by simp))
 |r::l,n,h=>by
  unfold B9 at h ⊢
  by_cases h1:(G6 r.1 r.2 n).2=0
  ·rw[if_pos h1] at h ⊢
   by_cases h2:(B9 (n+1) l).2=0
   ·rw[if_pos h2]
    have h3:G6 r.1 r.2 n=((G6 r.1 r.2 n).1,0):=by rw[← h1]
    rw[H5 _ (aI9 h3),qR l (n+1) h2,aG]
    rfl
   ·rw[if_neg h2] at h;exact absurd h h2
  ·rw[if_neg h1] at h;exact absurd h h1
theorem tL:∀ (l:List (Bool × List p7)) (n:Int),(B9 n l).2=0→∀ j (hj:j<l.length),G6 l[j].1 l[j].2 (n+j)=((aG n l)[j]'(by rw[dM];exact hj),0)
 | [],_,_,j,hj=>by simp at hj
 |r::l,n,h,j,hj=>by
  have h1:(G6 r.1 r.2 n).2=0∧(B9 (n+1) l).2=0:=by
   unfold B9 at h
   by_cases h1:(G6 r.1 r.2 n).2=0
   ·rw[if_pos h1] at h
    by_cases h2:(B9 (n+1) l).2=0
    ·exact ⟨h1,h2⟩
    ·rw[if_neg h2] at h;exact absurd h h2
   ·rw[if_neg h1] at h;exact absurd h h1
  cases j with
  |zero=>
   show G6 r.1 r.2 (n+((0:Nat):Int))=((G6 r.1 r.2 n).1,0)
   rw[show n+((0:Nat):Int)=n from by omega,← h1.1]
  |succ j=>
   have:=tL l (n+1) h1.2 j (by simpa using hj)
   simp only[List.getElem_cons_succ,aG]
   rw[← this]
   congr 1
   omega
theorem rT {n:Int} (hn:0≤n):n7 32 (L1 n)= [[115,116,97,114,116],[119,105,116,104],Lib.itoa n,[115,116,105,116,99,104,101,115,46]]:=by
 have h2:(32:UInt8) ∉ Lib.itoa n:=cI hn _ (by decide)
 unfold L1
 rw[H5 _ (by decide),H5 _ (by decide),H5 _ h2,S1 (by decide)]
theorem aJ7 {n:Int} (hn:0≤n):(10:UInt8) ∉ L1 n:=by
 have h2:(10:UInt8) ∉ Lib.itoa n:=cI hn _ (by decide)
 unfold L1
 simp only[List.mem_append,List.mem_cons,h2,not_or]
 decide
theorem iB {c:DI} {s:List UInt8} (h:A4 c=(s,0)):n7 10 s=L1 c.1::(aG 1 c.2++ [[]]):=by
 obtain ⟨h1,h2,h3,h4⟩:=lV (by rw[h]:(A4 c).2=0)
 rw[h] at h4
 rw[show s=_ from congrArg Prod.fst h4,H5 _ (aJ7 (fC h1).2.1.1),qR _ _ h2]
theorem VM:∀ (l m:List (Bool × List p7)) (n:Int),(B9 n l).2=0→(B9 n m).2=0→aG n l=aG n m→l=m:=fun l m n h1 h2 h=>by
 have hl:=congrArg List.length h
 rw[dM,dM] at hl
 refine List.ext_getElem hl fun j a b=>?_
 have e1:=tL l n h1 j a
 have e2:=tL m n h2 j b
 simp only[h] at e1
 obtain ⟨q1,q2,_⟩:=RF e1 e2
 exact Prod.ext q1 q2
theorem UO {c d:DI} {s:List UInt8} (h1:A4 c=(s,0)) (h2:A4 d=(s,0)):c=d:=by
 have e:=iB h1
 rw[iB h2] at e
 obtain ⟨e1,e2⟩:=List.cons.inj e
 have a:=lV (by rw[h1]:(A4 c).2=0)
 have b:=lV (by rw[h2]:(A4 d).2=0)
 have n1:=(fC a.1).2.1
 have n2:=(fC b.1).2.1
 have w:=congrArg (n7 32) e1
 rw[rT n1.1,rT n2.1] at w
 simp only[List.cons.injEq,and_true,true_and] at w
 refine Prod.ext (PE n2.1 n1.1 w).symm (VM _ _ 1 a.2.1 b.2.1 (List.append_cancel_right e2).symm)
open Classical in
noncomputable def fX (s:List UInt8):Option DI:=if h:∃ c:DI,A4 c=(s,0) then some (Classical.choose h) else none
theorem QU {c:DI} {s:List UInt8} (h:A4 c=(s,0)):fX s=some c:=by
 have hx:∃ c:DI,A4 c=(s,0):=⟨c,h⟩
 unfold fX
 rw[dif_pos hx,UO (Classical.choose_spec hx) h]
theorem WK {c:DI} {s:List UInt8} (h:fX s=some c):A4 c=(s,0):=by
 unfold fX at h
 split at h
 ·rename_i hx
  have h2:=Classical.choose_spec hx
  rw[Option.some.inj h] at h2
  exact h2
 ·cases h
end Go.Itp
namespace Go.Itp
set_option linter.unusedVariables false
set_option linter.unusedSimpArgs false
set_option maxRecDepth 10000
def AZ (p:Bool):List UInt8:=if p=true then [112,117,114,108] else [107,110,105,116]
def IG (p:Bool):List UInt8:=if p=true then [32,112,117,114,108,119,105,115,101] else []
def p8 (k:Nat) (p:Bool):List (List UInt8):=match k with
 |1=> [AZ p++ [32],[]]
 |2=> [[121,97,114,110,32,111,118,101,114]]
 |3=> [AZ p++ [32],[32,116,111,103,101,116,104,101,114,32,40,102,105,114,115,116,32,111,110,32,116,111,112,41]]
 |4=> [AZ p++ [32],[32,116,111,103,101,116,104,101,114]]
 |5=> [[109,97,107,101,32],[32,111,117,116,32,111,102,32,49]++IG p]
 |6=> [[99,114,111,115,115,32],[32,105,110,32,102,114,111,110,116,32,111,102,32],IG p]
 |7=> [[99,114,111,115,115,32],[32,98,101,104,105,110,100,32],IG p]
 |8=> [[115,108,105,112,32],if p=true then [32,119,105,116,104,32,121,97,114,110,32,105,110,32,102,114,111,110,116] else []]
 |9=> [[99,97,115,116,32,111,110,32],[]]
 |_=> [[98,105,110,100,32,111,102,102,32],IG p]
def T4 (k:Nat) (p:Bool):List UInt8:=join 35 (p8 k p)
def countB (k:Nat):Bool:=decide (k=1∨k=8)
theorem EP:∀ k p,∀ w ∈ p8 k p,(35:UInt8) ∉ w:=by
 intro k p
 unfold p8
 split<;>cases p<;>decide
theorem NY (k:Nat) (p:Bool):n7 35 (T4 k p)=p8 k p:=
 pH (by unfold p8;split<;>simp) (EP k p)
def fill:List (List UInt8)→List Int→List UInt8
 | [],_=> []
 | [p],_=>p
 |p::ps,[]=>p++35::fill ps []
 |p::ps,v::vs=>p++(Lib.itoa v++fill ps vs)
def aV3 (x:p7) (n:Int):List Int:=if x.kind=1∨x.kind=8 then [n] else [x.a,x.b]
def M4 (x:p7) (n:Int):List UInt8:=if 1<n∧x.kind ≠ 1∧x.kind ≠ 8 then 32::(Lib.itoa n++32::Z3) else []
theorem rC {x:p7} (n:Int) (hx:H6 x):D2 x n=fill (p8 x.kind x.purl) (aV3 x n)++M4 x n:=by
 have hb:∀ B:List (List UInt8),B ≠ []→join 32 (B++BR x n)=join 32 B++M4 x n:=fun B hB=>by
  unfold BR M4
  split
  ·rw[show B++ [Lib.itoa n,Z3]=(B++ [Lib.itoa n])++ [Z3] from by simp,tJ _ _ (by simp),tJ _ _ hB]
   simp
  ·simp
 unfold D2 Y5
 rw[hb _ (MG x n)]
 congr 1
 obtain ⟨k,p,a,b⟩:=x
 unfold H6 at hx
 simp only at hx
 rcases hx with ⟨rfl|rfl,rfl,rfl⟩|⟨rfl,rfl,rfl,rfl⟩|⟨rfl|rfl|rfl,h2,h3,rfl⟩|⟨rfl|rfl,h2,h3⟩|⟨rfl,rfl,h2,h3,rfl⟩|⟨rfl,h2,h3,rfl⟩
 all_goals
  first
  |(cases p<;>simp[jB,rQ,nV,join,p8,fill,aV3,AZ,IG])
  |simp[jB,rQ,nV,join,p8,fill,aV3,AZ,IG]
def L3 (s:List UInt8):List UInt8:=(s.take 4).takeWhile C5
def bQ:List UInt8→Int
 |l=>l.foldl (fun a d=>10*a+((d.toNat:Int) - 48)) 0
def gA (s:List UInt8):List UInt8:=s.drop (L3 s).length
theorem bB4:∀ (w:List UInt8),(∀ c ∈ w,C5 c=true)→w.takeWhile C5=w
 | [],_=>rfl
 |c::w,h=>by rw[List.takeWhile_cons,h c (by simp),if_pos rfl,bB4 w fun x hx=>h x (List.mem_cons_of_mem _ hx)]
theorem aF3 {w r:List UInt8} (hw:∀ c ∈ w,C5 c=true) (hl:w.length≤4) (hr:w.length=4∨∀ c,r.head? =some c→C5 c=false):L3 (w++r)=w:=by
 unfold L3
 rw[List.take_append,List.take_of_length_le hl,List.takeWhile_append]
 have h1:w.takeWhile C5=w:=bB4 w hw
 rw[h1,if_pos rfl]
 rcases hr with h|h
 ·rw[h];simp
 ·cases r with
  |nil=>simp
  |cons c r=>
   have:=h c rfl
   cases hk:4 - w.length with
   |zero=>simp
   |succ k=>rw[List.take_succ_cons,List.takeWhile_cons,this];simp
theorem uC (l:List UInt8) (d:UInt8):bQ (l++ [d])=10*bQ l+((d.toNat:Int) - 48):=by simp[bQ]
theorem vV:∀ (n u:Nat),u≤n→bQ (Lib.decDigits u)=u
 |n,u,hn=>by
  rw[Lib.decDigits]
  split
  ·rename_i h
   have:=(fE h).2
   simp only[bQ,List.foldl_cons,List.foldl_nil,this]
   omega
  ·cases n with
   |zero=>omega
   |succ n=>
    rw[uC,vV n (u / 10) (by omega),(fE (show u % 10<10 by omega)).2]
    omega
theorem gN {z:Int} (h:0≤z):bQ (Lib.itoa z)=z:=by
 obtain ⟨u,rfl⟩:=Int.eq_ofNat_of_zero_le h
 rw[Lib.itoa_nonneg]
 exact vV u u (Nat.le_refl _)
theorem H4 {z:Int} (h:0≤z) (h1:z≤9999):(Lib.itoa z).length≤4:=by
 obtain ⟨u,rfl⟩:=Int.eq_ofNat_of_zero_le h
 rw[Lib.itoa_nonneg]
 exact aV 3 u (by omega)
def U8 (r:List UInt8):Prop:=∀ c,r.head? =some c→C5 c=false
theorem aE {z:Int} (h:0≤z) (h1:z≤9999) {r:List UInt8} (hr:U8 r):L3 (Lib.itoa z++r)=Lib.itoa z:=
 aF3 (PD h) (H4 h h1) (.inr hr)
theorem dR {z:Int} (h:0≤z) (h1:z≤9999) {r:List UInt8} (hr:U8 r):gA (Lib.itoa z++r)=r:=by
 unfold gA
 rw[aE h h1 hr,List.drop_left]
def z7 (p s:List UInt8):Option (List UInt8):=if p.length≤s.length∧s.take p.length=p then some (s.drop p.length) else none
theorem K3 (p r:List UInt8):z7 p (p++r)=some r:=by
 unfold z7
 rw[if_pos ⟨by simp,by simp⟩]
 simp
def W4:List (List UInt8)→List UInt8→List Int→Option (List Int × List UInt8)
 | [],s,l=>some (l,s)
 |p::ps,s,l=>if L3 s= [] then none else match z7 p (gA s) with
  |none=>none
  |some t=>W4 ps t (l++ [bQ (L3 s)])
def C6 (f:List (List UInt8)) (s:List UInt8):Option (List Int × List UInt8):=match f with
 | []=>some ([],s)
 |p::ps=>match z7 p s with
  |none=>none
  |some t=>W4 ps t []
theorem zH:∀ (ps:List (List UInt8)) (s:List UInt8) (l m:List Int) (r:List UInt8),W4 ps s l=some (m,r)→m.length=l.length+ps.length∧r.length≤s.length
 | [],s,l,m,r,h=>by cases h;simp
 |p::ps,s,l,m,r,h=>by
  rw[W4] at h
  split at h
  ·cases h
  ·cases hc:z7 p (gA s) with
   |none=>rw[hc] at h;cases h
   |some t=>
    rw[hc] at h
    have:=zH ps t _ m r h
    unfold z7 at hc
    split at hc
    ·cases hc
     rw[List.length_append,List.length_drop] at this
     unfold gA at this
     rw[List.length_drop] at this
     simp only[List.length_cons,List.length_nil] at this ⊢
     omega
    ·cases hc
theorem oS {f:List (List UInt8)} {s r:List UInt8} {m:List Int} (hf:f ≠ []) (h:C6 f s=some (m,r)):m.length+1=f.length∧r.length≤s.length:=by
 cases f with
 |nil=>exact absurd rfl hf
 |cons p ps=>
  unfold C6 at h
  cases hc:z7 p s with
  |none=>simp only[hc] at h;cases h
  |some t=>
   simp only[hc] at h
   have:=zH ps t [] m r h
   unfold z7 at hc
   split at hc
   ·cases hc
    rw[List.length_drop] at this
    simp only[List.length_cons,List.length_nil] at this ⊢
    omega
   ·cases hc
theorem kO:∀ (ps:List (List UInt8)) (v:Int) (vs:List Int) (r:List UInt8) (l:List Int),ps ≠ []→vs.length+1=ps.length→(∀ z ∈ v::vs,0≤z∧z≤9999)→(∀ p ∈ ps.dropLast,p ≠ [])→(∀ p ∈ ps,U8 p)→U8 r→
  W4 ps (Lib.itoa v++fill ps vs++r) l=some (l++v::vs,r)
 | [],v,vs,r,l,h,_,_,_,_,_=>absurd rfl h
 | [p],v,vs,r,l,_,hl,hv,hne,hp,hr=>by
  have:vs= []:=by cases vs with
   |nil=>rfl
   |cons a b=>simp at hl
  subst this
  have h0:=hv v (by simp)
  have hnd:U8 (p++r):=by
   cases p with
   |nil=>exact hr
   |cons c q=>intro d hd;exact hp (c::q) (by simp) d (by simpa using hd)
  rw[fill,List.append_assoc,W4,aE h0.1 h0.2 hnd,if_neg qM,dR h0.1 h0.2 hnd,K3,gN h0.1]
  rfl
 |p::q::ps,v,vs,r,l,_,hl,hv,hne,hp,hr=>by
  cases vs with
  |nil=>simp at hl
  |cons u us=>
   have h0:=hv v (by simp)
   have hpn:=hne p (by simp)
   have hnd:U8 (p++(Lib.itoa u++fill (q::ps) us++r)):=by
    cases p with
    |nil=>exact absurd rfl hpn
    |cons c t=>intro d hd;exact hp (c::t) (by simp) d (by simpa using hd)
   have e:Lib.itoa v++fill (p::q::ps) (u::us)++r=Lib.itoa v++(p++(Lib.itoa u++fill (q::ps) us++r)):=by
    rw[fill]
    ·simp
    ·simp
   rw[e,W4,aE h0.1 h0.2 hnd,if_neg qM,dR h0.1 h0.2 hnd,K3,gN h0.1]
   simp only
   rw[kO (q::ps) u us r _ (by simp) (by simpa using hl) (fun z hz=>hv z (List.mem_cons_of_mem _ hz)) (fun z hz=>hne z (by simp at hz ⊢;exact .inr hz)) (fun z hz=>hp z (List.mem_cons_of_mem _ hz)) hr]
   simp
def lF:List UInt8:=32::Z3
def M3 (p s:List UInt8):Option (List UInt8):=if p.length≤s.length∧s.drop (s.length - p.length)=p then some (s.take (s.length - p.length)) else none
theorem xT (p r:List UInt8):M3 p (r++p)=some r:=by
 unfold M3
 rw[if_pos ⟨by simp,by simp⟩]
 simp
def uR (k:Nat) (p:Bool) (m:List Int):p7:=if countB k=true then ⟨k,p,0,0⟩ else match m with
 | [a,b]=>⟨k,p,a,b⟩
 | [a]=>⟨k,p,a,0⟩
 |_=>⟨k,p,0,0⟩
def bF (k:Nat) (m:List Int) (rest:List UInt8):Int × List UInt8:=if countB k=true then (m.headD 0,rest) else match M3 lF rest with
 |none=>(1,rest)
 |some t=>(bQ (L3 ((z7 [32] t).getD t)),gA ((z7 [32] t).getD t))
def dA (x:p7) (q:Int × List UInt8) (s:List UInt8):Option (p7 × Int):=if q.2= []∧(1≤q.1∧q.1≤200)∧H6 x∧D2 x q.1=s then some (x,q.1) else none
def jS (k:Nat) (p:Bool) (s:List UInt8):Option (p7 × Int):=match C6 (p8 k p) s with
 |none=>none
 |some (m,r)=>dA (uR k p m) (bF k m r) s
theorem UK {x y:p7} {q:Int × List UInt8} {s:List UInt8} {n:Int} (h:dA x q s=some (y,n)):fW s=some (y,n):=by
 unfold dA at h
 split at h
 ·rename_i hc
  cases h
  rw[← hc.2.2.2]
  exact rJ hc.2.2.1 hc.2.1.1 hc.2.1.2
 ·cases h
theorem UL {k:Nat} {p:Bool} {s:List UInt8} {x:p7} {n:Int} (h:jS k p s=some (x,n)):fW s=some (x,n):=by
 unfold jS at h
 cases hm:C6 (p8 k p) s with
 |none=>rw[hm] at h;cases h
 |some r=>
  obtain ⟨m,r⟩:=r
  rw[hm] at h
  exact UK h
instance cC2 (r:List UInt8):Decidable (U8 r):=decidable_of_iff (r.head?.all (fun c=> !C5 c)=true) (by
 cases r with
 |nil=>simp[U8]
 |cons c r=>simp[U8])
theorem VB:∀ k p,∀ w ∈ p8 k p,U8 w:=by
 intro k p
 unfold p8
 split<;>cases p<;>decide
theorem VC:∀ k p,∀ w ∈ (p8 k p).tail.dropLast,w ≠ []:=by
 intro k p
 unfold p8
 split<;>cases p<;>decide
theorem WT (x:p7) (n:Int):U8 (M4 x n):=by
 unfold M4
 split
 ·intro c hc;cases hc;decide
 ·intro c hc;cases hc
theorem KG {x:p7} {n:Int} (hx:H6 x) (h0:1≤n) (h1:n≤200):C6 (p8 x.kind x.purl) (D2 x n)=some (if x.kind=2 then [] else (if x.kind=6∨x.kind=7 then [x.a,x.b] else if x.kind=1∨x.kind=8 then [n] else [x.a]),M4 x n):=by
 rw[rC n hx]
 have hd:=VB x.kind x.purl
 have hm:=VC x.kind x.purl
 have ht:=WT x n
 have hb:=hx.bounds
 have two:∀ (p q:List UInt8) (v:Int),0≤v→v≤9999→U8 q→∀ t,U8 t→C6 [p,q] (fill [p,q] [v]++t)=some ([v],t):=fun p q v a b c t d=>by
  rw[fill,List.append_assoc,C6,K3]
  ·have:=kO [q] v [] t [] (by simp) rfl (by simp;omega) (by simp) (by simpa using c) d
   exact this
  ·simp
 have one:∀ p t:List UInt8,C6 [p] (p++t)=some ([],t):=fun p t=>by
  unfold C6
  simp only[K3]
  rfl
 have two':∀ (p q:List UInt8) (v u:Int),0≤v→v≤9999→U8 q→∀ t,U8 t→C6 [p,q] (fill [p,q] [v,u]++t)=some ([v],t):=fun p q v u a b c t d=>by
  have:=two p q v a b c t d
  have e:fill [p,q] [v,u]=fill [p,q] [v]:=by
   rw[fill,fill,fill,fill]<;>simp
  rw[e];exact this
 have three:∀ (p q r:List UInt8) (v u:Int),0≤v→v≤9999→0≤u→u≤9999→U8 q→q ≠ []→U8 r→∀ t,U8 t→C6 [p,q,r] (fill [p,q,r] [v,u]++t)=some ([v,u],t):=fun p q r v u a b a' b' c c' d t e=>by
  rw[fill,List.append_assoc,C6,K3]
  ·have:=kO [q,r] v [u] t [] (by simp) rfl (by simp;omega) (by simpa using c') (by simpa using ⟨c,d⟩) e
   exact this
  ·simp
 obtain ⟨k,p,a,b⟩:=x
 unfold H6 at hx
 simp only at hx hb hd hm ht ⊢
 rcases hx with ⟨rfl|rfl,rfl,rfl⟩|⟨rfl,rfl,rfl,rfl⟩|⟨rfl|rfl|rfl,h2,h3,rfl⟩|⟨rfl|rfl,h2,h3⟩|⟨rfl,rfl,h2,h3,rfl⟩|⟨rfl,h2,h3,rfl⟩
 ·exact two _ _ n (by omega) (by omega) (hd _ (by simp[p8])) _ ht
 ·exact two _ _ n (by omega) (by omega) (hd _ (by simp[p8])) _ ht
 ·exact one _ _
 ·exact two' _ _ a 0 (by omega) (by omega) (hd _ (by simp[p8])) _ ht
 ·exact two' _ _ a 0 (by omega) (by omega) (hd _ (by simp[p8])) _ ht
 ·exact two' _ _ a 0 (by omega) (by omega) (hd _ (by simp[p8])) _ ht
 ·exact three _ _ _ a b (by omega) (by omega) (by omega) (by omega) (hd _ (by simp[p8])) (hm _ (by simp[p8])) (hd _ (by simp[p8])) _ ht
 ·exact three _ _ _ a b (by omega) (by omega) (by omega) (by omega) (hd _ (by simp[p8])) (hm _ (by simp[p8])) (hd _ (by simp[p8])) _ ht
 ·exact two' _ _ a 0 (by omega) (by omega) (hd _ (by simp[p8])) _ ht
 ·exact two' _ _ a 0 (by omega) (by omega) (hd _ (by simp[p8])) _ ht
theorem MU {x:p7} {n:Int} (hk:¬ (x.kind=1∨x.kind=8)) (h0:1≤n) (h1:n≤200) (m:List Int):bF x.kind m (M4 x n)=(n,[]):=by
 unfold bF countB
 rw[decide_eq_false hk,if_neg (by decide)]
 unfold M4
 by_cases h2:1<n
 ·rw[if_pos ⟨h2,fun e=>hk (.inl e),fun e=>hk (.inr e)⟩,show (32::(Lib.itoa n++32::Z3))=(32::Lib.itoa n)++lF from by simp[lF],xT]
  have e:z7 [32] (32::Lib.itoa n)=some (Lib.itoa n):=K3 [32] (Lib.itoa n)
  have hd:U8 []:=by decide
  have d1:=aE (z:=n) (by omega) (by omega) hd
  have d2:=dR (z:=n) (by omega) (by omega) hd
  rw[List.append_nil] at d1 d2
  simp only[e,Option.getD_some,d1,d2,gN (show 0≤n by omega)]
 ·rw[if_neg (fun e=>h2 e.1)]
  have:n=1:=by omega
  subst this
  rfl
theorem aO6 {x:p7} {n:Int} (hx:H6 x) (h0:1≤n) (h1:n≤200):jS x.kind x.purl (D2 x n)=some (x,n):=by
 unfold jS
 rw[KG hx h0 h1]
 simp only
 have fin:∀ m,uR x.kind x.purl m=x→bF x.kind m (M4 x n)=(n,[])→dA (uR x.kind x.purl m) (bF x.kind m (M4 x n)) (D2 x n)=some (x,n):=fun m e1 e2=>by
  rw[e1,e2]
  unfold dA
  rw[if_pos ⟨rfl,⟨h0,h1⟩,hx,rfl⟩]
 have hb:=hx.bounds
 have hx':=hx
 unfold H6 at hx'
 refine fin _ ?_ ?_
 ·clear fin
  obtain ⟨k,p,a,b⟩:=x
  simp only at hx' ⊢
  rcases hx' with ⟨rfl|rfl,rfl,rfl⟩|⟨rfl,rfl,rfl,rfl⟩|⟨rfl|rfl|rfl,h2,h3,rfl⟩|⟨rfl|rfl,h2,h3⟩|⟨rfl,rfl,h2,h3,rfl⟩|⟨rfl,h2,h3,rfl⟩<;>rfl
 ·by_cases hk:x.kind=1∨x.kind=8
  ·have ht:M4 x n= []:=by unfold M4;rw[if_neg (by omega)]
   rw[ht]
   unfold bF countB
   rw[decide_eq_true hk,if_pos rfl]
   rcases hk with e|e<;>simp[e]
  ·exact MU hk h0 h1 _
def Z6 (l:List UInt8):Option Int:=if l ≠ []∧l.length≤4∧(1<l.length→l[0]! ≠ 48)∧l.all C5=true then some (((Lib.decFrom 0 l).getD 0:Nat):Int) else none
theorem aI3 {cand:Nat→Bool→List UInt8→Option (p7 × Int)} (hof:∀ {x:p7} {n:Int},H6 x→1≤n→n≤200→cand x.kind x.purl (D2 x n)=some (x,n)) {s:List UInt8} (h:∀ k p,1≤k→k≤10→cand k p s=none):fW s=none:=by
 cases hr:fW s with
 |none=>rfl
 |some r=>
  obtain ⟨x,n⟩:=r
  obtain ⟨a,b,c⟩:=AH hr
  have:=hof a b.1 b.2
  rw[c,h x.kind x.purl a.bounds.1 a.bounds.2.1] at this
  cases this
end Go.Itp
namespace Go.Proofs.YtimmmnanllcfoaaDoor
open Go Go.Itp
set_option maxRecDepth 100000
set_option maxHeartbeats 400000
set_option linter.unusedSimpArgs false
set_option linter.unusedVariables false
def fL:Nat→List UInt8
 |3=> [102]|4=> [108]|5=> [109]|6=> [120]|7=> [121]|8=> [115]|10=> [111]
 |_=> []
def fA0:Nat→Int
 |3=>2|4=>2|5=>2|6=>1|7=>1|9=>1|10=>1
 |_=>0
def fA1:Nat→Int
 |3=>4|4=>4|5=>4|6=>6|7=>6|9=>200|10=>200
 |_=>0
def fB0:Nat→Int
 |6=>1|7=>1
 |_=>0
def fB1:Nat→Int
 |6=>6|7=>6
 |_=>0
def fS:Nat→Bool
 |2=>false|9=>false
 |_=>true
def fU:Nat→Nat
 |1=>1|2=>0|3=>2|4=>2|5=>1|6=>3|7=>3|8=>1|9=>0
 |_=>2
def fM:Nat→Nat
 |1=>1|2=>1|3=>1|4=>1|5=>2|6=>3|7=>3|8=>1|9=>2
 |_=>0
def dF (k:Nat):List Value:= [.string ⟨(fL k).toArray⟩,.int .i64 (fA0 k),.int .i64 (fA1 k),.int .i64 (fB0 k),.int .i64 (fB1 k),.bool (fS k),.int .i64 (fU k),.int .i64 (fM k)]
def VE:List D:=(dF 1++dF 2++dF 3++dF 4++dF 5++dF 6++dF 7++dF 8++dF 9++dF 10).map D.sc
theorem cH3 (s g u m:Value) (a b c d:Value):bR (WI (WI [.sc s,.sc (.int .i64 0),.sc (.int .i64 0),.sc (.int .i64 0),.sc (.int .i64 0),.sc (.bool false),.sc (.int .i64 0),.sc (.int .i64 0)] 1 [.sc a,.sc b]) 3 [.sc c,.sc d]) [(5,1,.sc g),(6,1,.sc u),(7,1,.sc m)]=some [.sc s,.sc a,.sc b,.sc c,.sc d,.sc g,.sc u,.sc m]:=(rfl)
theorem cH4 (nx t:Nat):M7 nx t 8 10 [.string ⟨#[]⟩,.int .i64 0,.int .i64 0,.int .i64 0,.int .i64 0,.bool false,.int .i64 0,.int .i64 0] [(0,8,.agg [.sc (.string ⟨#[]⟩),.sc (.int .i64 0),.sc (.int .i64 0),.sc (.int .i64 0),.sc (.int .i64 0),.sc (.bool true),.sc (.int .i64 1),.sc (.int .i64 1)]),(8,8,.agg [.sc (.string ⟨#[]⟩),.sc (.int .i64 0),.sc (.int .i64 0),.sc (.int .i64 0),.sc (.int .i64 0),.sc (.bool false),.sc (.int .i64 0),.sc (.int .i64 1)]),(16,8,.agg [.sc (.string ⟨#[102]⟩),.sc (.int .i64 2),.sc (.int .i64 4),.sc (.int .i64 0),.sc (.int .i64 0),.sc (.bool true),.sc (.int .i64 2),.sc (.int .i64 1)]),(24,8,.agg [.sc (.string ⟨#[108]⟩),.sc (.int .i64 2),.sc (.int .i64 4),.sc (.int .i64 0),.sc (.int .i64 0),.sc (.bool true),.sc (.int .i64 2),.sc (.int .i64 1)]),(32,8,.agg [.sc (.string ⟨#[109]⟩),.sc (.int .i64 2),.sc (.int .i64 4),.sc (.int .i64 0),.sc (.int .i64 0),.sc (.bool true),.sc (.int .i64 1),.sc (.int .i64 2)]),(40,8,.agg [.sc (.string ⟨#[120]⟩),.sc (.int .i64 1),.sc (.int .i64 6),.sc (.int .i64 1),.sc (.int .i64 6),.sc (.bool true),.sc (.int .i64 3),.sc (.int .i64 3)]),(48,8,.agg [.sc (.string ⟨#[121]⟩),.sc (.int .i64 1),.sc (.int .i64 6),.sc (.int .i64 1),.sc (.int .i64 6),.sc (.bool true),.sc (.int .i64 3),.sc (.int .i64 3)]),(56,8,.agg [.sc (.string ⟨#[115]⟩),.sc (.int .i64 0),.sc (.int .i64 0),.sc (.int .i64 0),.sc (.int .i64 0),.sc (.bool true),.sc (.int .i64 1),.sc (.int .i64 1)]),(64,8,.agg [.sc (.string ⟨#[]⟩),.sc (.int .i64 1),.sc (.int .i64 200),.sc (.int .i64 0),.sc (.int .i64 0),.sc (.bool false),.sc (.int .i64 0),.sc (.int .i64 2)]),(72,8,.agg [.sc (.string ⟨#[111]⟩),.sc (.int .i64 1),.sc (.int .i64 200),.sc (.int .i64 0),.sc (.int .i64 0),.sc (.bool true),.sc (.int .i64 2),.sc (.int .i64 0)])]=some (.ref nx 0 10 10,some (.row t 8 false false VE),[]):=(rfl)
theorem aF7 (k:Nat) (h1:1≤k) (h2:k≤10):F9 VE ((k - 1)*8) (some 8)=some (.agg ((dF k).map V.sc)):=by
 rcases (by omega:k=1∨k=2∨k=3∨k=4∨k=5∨k=6∨k=7∨k=8∨k=9∨k=10) with rfl|rfl|rfl|rfl|rfl|rfl|rfl|rfl|rfl|rfl<;>rfl
attribute [local irreducible] VE
theorem aK1 {x:p7} (h1:1≤x.kind) (h2:x.kind≤10):H6 x↔(fA0 x.kind≤x.a∧x.a≤fA1 x.kind)∧(fB0 x.kind≤x.b∧x.b≤fB1 x.kind)∧(x.purl=true→fS x.kind=true):=by
 obtain ⟨k,p,a,b⟩:=x
 simp only at h1 h2 ⊢
 unfold H6
 simp only
 rcases (by omega:k=1∨k=2∨k=3∨k=4∨k=5∨k=6∨k=7∨k=8∨k=9∨k=10) with rfl|rfl|rfl|rfl|rfl|rfl|rfl|rfl|rfl|rfl
 all_goals
  cases p<;>simp[fA0,fA1,fB0,fB1,fS]<;>omega
theorem aK2 {x:p7} (h:¬ (1≤x.kind∧x.kind≤10)):E5 x=false:=by
 rw[← Bool.not_eq_true,E9]
 intro hx
 exact h ⟨hx.bounds.1,hx.bounds.2.1⟩
def KD (x:p7) (h:Nat):Int:=if h=0 then 0 else if h=1 then 1 else if h=2 then x.a else x.a+x.b
theorem WY {x:p7} (h1:1≤x.kind) (h2:x.kind≤10):T6 x=KD x (fU x.kind)∧T5 x=KD x (fM x.kind):=by
 obtain ⟨k,p,a,b⟩:=x
 simp only at h1 h2 ⊢
 rcases (by omega:k=1∨k=2∨k=3∨k=4∨k=5∨k=6∨k=7∨k=8∨k=9∨k=10) with rfl|rfl|rfl|rfl|rfl|rfl|rfl|rfl|rfl|rfl
 all_goals
  simp[T6,T5,KD,fU,fM]
theorem aQ5 (k:Nat):fU k≤3∧fM k≤3:=by
 constructor
 ·unfold fU;split<;>decide
 ·unfold fM;split<;>decide
abbrev pE (x:p7):V:= .agg [.sc (.int .u8 x.kind),.sc (.bool x.purl),.sc (.int .i64 x.a),.sc (.int .i64 x.b)]
theorem CR:Int.toNat 0=0:=rfl
theorem tn1:Int.toNat 1=1:=rfl
section
variable (w:World) (n:Nat)
theorem XZ (k:Nat) (hk:1≤k) (hk2:k≤10):m7 (EN w (n+1)) 70 [.sc (.int .u8 k)] (.tup [.agg ((dF k).map V.sc),.sc (.bool true)]) ⟨[],0,0⟩:=by
 refine d7 rfl rfl (fun _ _=>rfl) (Nat.le_of_ble_eq_true rfl) (j4 w) rfl fun C hC h0=>?_
 have hld:=aF7 k hk hk2
 have hw:IntKind.u8.wrap ((k:Int) - 1)=((k - 1:Nat):Int):=by rw[wM _ (by omega) (by omega)];omega
 unfold dF at hld ⊢
 simp (disch:=first|omega|exact bd (by with_unfolding_all rfl)|(simp only[b9]<;>omega)) only[WA,Nat.reduceEqDiff,Nat.reduceLT,Nat.reduceAdd,↓reduceIte,reduceCtorEq,List.replicate,c70,cH3,↓cH4]
 rw[hw]
 simp (disch:=first|exact bd (by with_unfolding_all rfl)|(simp only[b9]<;>omega)) only[WA,Nat.reduceEqDiff,Nat.reduceLT,↓reduceIte,reduceCtorEq,hld]
 exact d6 rfl h0 rfl
theorem aQ8 (k:Nat) (hk:¬ (1≤k∧k≤10)) (hb:k<256):m7 (EN w (n+1)) 70 [.sc (.int .u8 k)] (.tup [.agg [.sc (.string ⟨#[]⟩),.sc (.int .i64 0),.sc (.int .i64 0),.sc (.int .i64 0),.sc (.int .i64 0),.sc (.bool false),.sc (.int .i64 0),.sc (.int .i64 0)],.sc (.bool false)]) ⟨[],0,0⟩:=by
 have hne:¬ (k:Int)<1→10<(k:Int):=by omega
 by_cases h1:(k:Int)<1
 all_goals
  refine d7 rfl rfl (fun _ _=>rfl) (Nat.le_of_ble_eq_true rfl) (j4 w) rfl fun C hC h0=>?_
  repeat' (first|(simp (disch:=first|omega|exact bd (by with_unfolding_all rfl)|(simp only[b9]<;>omega)) only[WA,Nat.reduceEqDiff,Nat.reduceLT,Nat.reduceAdd,↓reduceIte,reduceCtorEq,List.replicate,c70,cH3,↓cH4])|apply y8|((first|apply H9|apply B4|apply C8|apply J0|apply H8|apply C9)<;>intro _))
  all_goals try (exfalso;omega)
  exact d6 rfl h0 rfl
theorem TQ (v lo hi:Int):m7 (EN w (n+1)) 71 [.sc (.int .i64 v),.agg [.sc (.int .i64 lo),.sc (.int .i64 hi)]] (.sc (.bool (decide (lo≤v∧v≤hi)))) ⟨[],0,0⟩:=by
 refine d7 rfl rfl (fun _ _=>rfl) (Nat.le_of_ble_eq_true rfl) (j4 w) rfl fun C hC h0=>?_
 by_cases h1:lo≤v
 ·by_cases h2:v≤hi
  ·rw[decide_eq_true ⟨h1,h2⟩]
   simp (disch:=first|omega|exact bd (by with_unfolding_all rfl)|fail) only[WA,Nat.reduceEqDiff,Nat.reduceLT,↓reduceIte,reduceCtorEq,c71,CR,tn1]
   all_goals try (exfalso;omega)
   exact d6 rfl h0 rfl
  ·rw[decide_eq_false (fun h=>h2 h.2)]
   simp (disch:=first|omega|exact bd (by with_unfolding_all rfl)|fail) only[WA,Nat.reduceEqDiff,Nat.reduceLT,↓reduceIte,reduceCtorEq,c71,CR,tn1]
   all_goals try (exfalso;omega)
   exact d6 rfl h0 rfl
 ·rw[decide_eq_false (fun h=>h1 h.1)]
  simp (disch:=first|omega|exact bd (by with_unfolding_all rfl)|fail) only[WA,Nat.reduceEqDiff,Nat.reduceLT,↓reduceIte,reduceCtorEq,c71,CR,tn1]
  all_goals try (exfalso;omega)
  exact d6 rfl h0 rfl
end
end Go.Proofs.YtimmmnanllcfoaaDoor
namespace Go.Proofs.YtimmmnanllcfoaaDoor
open Go Go.Itp
set_option maxRecDepth 100000
set_option maxHeartbeats 400000
set_option linter.unusedSimpArgs false
set_option linter.unusedVariables false
def u9 (L:List p7):List D:=L.flatMap fun x=> [.sc (.int .u8 x.kind),.sc (.bool x.purl),.sc (.int .i64 x.a),.sc (.int .i64 x.b)]
theorem z6 (L:List p7):(u9 L).length=L.length*4:=by
 induction L with
 |nil=>rfl
 |cons p L ih=>
  have e:u9 (p::L)= [.sc (.int .u8 p.kind),.sc (.bool p.purl),.sc (.int .i64 p.a),.sc (.int .i64 p.b)]++u9 L:=by simp[u9]
  rw[e,List.length_append,ih];simp;omega
theorem O5 (L:List p7) (k:Nat) (hk:k<L.length):F9 (u9 L) (k*4) (some 4)=some (pE L[k]!):=by
 have:=xX (fun x:p7=> [D.sc (.int .u8 x.kind),.sc (.bool x.purl),.sc (.int .i64 x.a),.sc (.int .i64 x.b)]) 4 L (fun _=>rfl) (by decide) k hk
 unfold u9
 rw[this]
 rfl
theorem ix0 (a b c d:V):yV 4 1 none (.agg [a,b,c,d]) (.sc (.int .i64 ((0:Nat):Int)))=some a:=(rfl)
theorem ix1 (a b c d:V):yV 4 1 none (.agg [a,b,c,d]) (.sc (.int .i64 ((1:Nat):Int)))=some b:=(rfl)
theorem ix2 (a b c d:V):yV 4 1 none (.agg [a,b,c,d]) (.sc (.int .i64 ((2:Nat):Int)))=some c:=(rfl)
theorem ix3 (a b c d:V):yV 4 1 none (.agg [a,b,c,d]) (.sc (.int .i64 ((3:Nat):Int)))=some d:=(rfl)
section
variable (w:World) (n:Nat)
theorem RL (x:p7) (hk:x.kind<256):m7 (EN w (n+2)) 49 [pE x] (.sc (.int .i64 (if E5 x=true then 0 else 8))) ⟨[],0,0⟩:=by
 by_cases hr:1≤x.kind∧x.kind≤10
 ·have hf:=XZ w n x.kind hr.1 hr.2
  have w1:=TQ w n x.a (fA0 x.kind) (fA1 x.kind)
  have w2:=TQ w n x.b (fB0 x.kind) (fB1 x.kind)
  have he:E5 x=(decide (fA0 x.kind≤x.a∧x.a≤fA1 x.kind) && (decide (fB0 x.kind≤x.b∧x.b≤fB1 x.kind) && (!x.purl||fS x.kind))):=by
   have h1:=aK1 hr.1 hr.2
   rw[Bool.eq_iff_iff,E9,h1]
   cases x.purl<;>simp
  rw[he]
  unfold dF at hf
  generalize decide (fA0 x.kind≤x.a∧x.a≤fA1 x.kind)=A at*
  generalize decide (fB0 x.kind≤x.b∧x.b≤fB1 x.kind)=B at*
  generalize fS x.kind=S at*
  obtain ⟨k,p,a,b⟩:=x
  simp only at hf w1 w2 ⊢
  have go:∀ e:Int,(A=false∧e=8)∨(A=true∧B=false∧e=8)∨(A=true∧B=true∧p=false∧e=0)∨(A=true∧B=true∧p=true∧S=false∧e=8)∨(A=true∧B=true∧p=true∧S=true∧e=0)→m7 (EN w (n+2)) 49 [pE ⟨k,p,a,b⟩] (.sc (.int .i64 e)) ⟨[],0,0⟩:=by
   rintro e (⟨rfl,rfl⟩|⟨rfl,rfl,rfl⟩|⟨rfl,rfl,rfl,rfl⟩|⟨rfl,rfl,rfl,rfl,rfl⟩|⟨rfl,rfl,rfl,rfl,rfl⟩)
   all_goals
    refine d7 rfl rfl (fun _ _=>rfl) (Nat.le_of_ble_eq_true rfl) (j4 w) rfl fun C hC h0=>?_
    repeat' (first|(simp (disch:=first|exact bd (by with_unfolding_all rfl)|fail) only[WA,Nat.reduceEqDiff,Nat.reduceLT,↓reduceIte,reduceCtorEq,c49]))
    refine a6 (by rw[hC];exact hf.flat rfl rfl) ?_
    repeat' (first|(simp (disch:=first|exact bd (by with_unfolding_all rfl)|(simp only[b9]<;>omega)) only[WA,Nat.reduceEqDiff,Nat.reduceLT,Nat.reduceAdd,↓reduceIte,reduceCtorEq,List.replicate]))
    refine a6 (by rw[hC];exact w1.flat rfl rfl) ?_
    repeat' (first|(simp (disch:=first|exact bd (by with_unfolding_all rfl)|fail) only[WA,Nat.reduceEqDiff,Nat.reduceLT,↓reduceIte,reduceCtorEq]))
   ·exact d6 rfl h0 rfl
   all_goals
    refine a6 (by rw[hC];exact w2.flat rfl rfl) ?_
    repeat' (first|(simp (disch:=first|exact bd (by with_unfolding_all rfl)|fail) only[WA,Nat.reduceEqDiff,Nat.reduceLT,↓reduceIte,reduceCtorEq]))
    exact d6 rfl h0 rfl
  refine go _ ?_
  cases A<;>cases B<;>cases p<;>cases S<;>simp
 ·have hf:=aQ8 w n x.kind hr hk
  rw[aK2 hr]
  obtain ⟨k,p,a,b⟩:=x
  refine d7 rfl rfl (fun _ _=>rfl) (Nat.le_of_ble_eq_true rfl) (j4 w) rfl fun C hC h0=>?_
  simp (disch:=first|exact bd (by with_unfolding_all rfl)|fail) only[WA,Nat.reduceEqDiff,Nat.reduceLT,↓reduceIte,reduceCtorEq,c49]
  refine a6 (by rw[hC];exact hf.flat rfl rfl) ?_
  simp (disch:=first|omega|exact bd (by with_unfolding_all rfl)|(simp only[b9]<;>omega)) only[WA,Nat.reduceEqDiff,Nat.reduceLT,Nat.reduceAdd,↓reduceIte,List.replicate]
  exact d6 rfl h0 rfl
theorem ZG (x:p7) (h:Nat) (hh:h≤3) (ha: -1000000≤x.a∧x.a≤1000000) (hb: -1000000≤x.b∧x.b≤1000000):m7 (EN w (n+1)) 72 [pE x,.sc (.int .i64 h)] (.sc (.int .i64 (KD x h))) ⟨[],0,0⟩:=by
 obtain ⟨k,p,a,b⟩:=x
 simp only at ha hb
 rcases (by omega:h=0∨h=1∨h=2∨h=3) with rfl|rfl|rfl|rfl
 all_goals
  refine d7 rfl rfl (fun _ _=>rfl) (Nat.le_of_ble_eq_true rfl) (j4 w) rfl fun C hC h0=>?_
  repeat' (first|(simp (disch:=first|omega|exact bd (by with_unfolding_all rfl)|(simp only[b9]<;>omega)) only[WA,Nat.reduceEqDiff,Nat.reduceLT,↓reduceIte,reduceCtorEq,c72,ix0,ix1,ix2,ix3]))
  all_goals try (exfalso;omega)
  exact d6 rfl h0 rfl
theorem mV {f:p7→Int} {L:List p7} (h:∀ x ∈ L,0≤f x∧f x≤1000):0≤U1 f L∧U1 f L≤1000*L.length:=by
 induction L with
 |nil=>simp[U1]
 |cons x L ih=>
  have h1:=h x (by simp)
  have h2:=ih fun y hy=>h y (List.mem_cons_of_mem _ hy)
  simp only[U1,List.length_cons]
  omega
theorem mU {f:p7→Int} {L:List p7} {k:Nat} (hk:k<L.length):U1 f (L.take (k+1))=U1 f (L.take k)+f L[k]! :=by
 have app:∀ A B:List p7,U1 f (A++B)=U1 f A+U1 f B:=by
  intro A B
  induction A with
  |nil=>simp[U1]
  |cons x A ih=>simp only[List.cons_append,U1,ih];omega
 rw[List.take_succ_eq_append_getElem hk,app,getElem!_pos _ k hk]
 simp[U1]
theorem aS {x:p7} (h:H6 x):(0≤T6 x∧T6 x≤1000)∧0≤T5 x∧T5 x≤1000:=by
 have hb:=h.bounds
 unfold T6 T5
 constructor
 ·split
  ·omega
  split
  ·omega
  split<;>omega
 ·split
  ·omega
  split
  ·omega
  split<;>omega
theorem bY5 (s:Nat) (L:List p7) (hL:L.length≤200) (hok:L.all E5=true):m7 (EN w (n+2)) 50 [.sl s L.length (u9 L)] (.tup [.sc (.int .i64 (U1 T6 L)),.sc (.int .i64 (U1 T5 L))]) ⟨[],0,0⟩:=by
 refine d7 rfl rfl (fun _ _=>rfl) (Nat.le_of_ble_eq_true rfl) (j4 w) rfl fun C hC h0=>?_
 have hrn:C.E.rounds=G4:=by rw[hC,l8]
 have hil:=z6 L
 simp (disch:=first|exact bd (by with_unfolding_all rfl)|fail) only[WA,Nat.reduceEqDiff,Nat.reduceLT,↓reduceIte,reduceCtorEq,c50]
 all_goals try (exfalso;omega)
 refine B0 (fun m fr st=>∃ (k:Nat),m=L.length - k∧k≤L.length∧fr= [(2,.sc (.int .i64 (U1 T6 (L.take k)))),(3,.sc (.int .i64 (U1 T5 (L.take k)))),(8,.sl s L.length (u9 L)),(9,.sc (.int .i64 L.length)),(10,.sc (.int .i64 k))]∧st=⟨[],0,0⟩) L.length ?_ ⟨_,_,.refl _ _,0,by omega,Nat.zero_le _,rfl,rfl⟩ ?_
 ·rw[hrn];unfold G4;omega
 rintro m fr st ⟨k,rfl,hk,rfl,rfl⟩
 by_cases hlt:k<L.length
 case neg=>
  have:k=L.length:=by omega
  subst this
  rw[List.take_length]
  simp (disch:=first|omega|exact bd (by with_unfolding_all rfl)|fail) only[WA,Nat.reduceEqDiff,Nat.reduceLT,↓reduceIte,aO0]
  all_goals try (exfalso;omega)
  exact d6 rfl h0 rfl
 have hag:=O5 L k hlt
 have u1:=mU (f:=T6) hlt
 have u2:=mU (f:=T5) hlt
 have htk:∀ x ∈ L.take k,H6 x:=fun x hx=>E9.1 (List.all_eq_true.1 hok x (List.mem_of_mem_take hx))
 have b1:=mV (f:=T6) fun x hx=>(aS (htk x hx)).1
 have b2:=mV (f:=T5) fun x hx=>(aS (htk x hx)).2
 have hl2:(L.take k).length≤200:=by rw[List.length_take];omega
 have hx:H6 L[k]! :=E9.1 (List.all_eq_true.1 hok _ (by rw[getElem!_pos _ k hlt];exact List.getElem_mem hlt))
 generalize L[k]! =X at*
 have hb:=hx.bounds
 have c1:=aS hx
 have hf:=XZ w n X.kind hb.1 hb.2.1
 have l1:=ZG w n X (fU X.kind) (aQ5 _).1 (by omega) (by omega)
 have l2:=ZG w n X (fM X.kind) (aQ5 _).2 (by omega) (by omega)
 have e:=WY hb.1 hb.2.1
 rw[← e.1] at l1
 rw[← e.2] at l2
 unfold dF at hf
 generalize U1 T6 (L.take k)=U at*
 generalize U1 T5 (L.take k)=M at*
 generalize T6 X=uu at*
 generalize T5 X=mm at*
 obtain ⟨xk,xp,xa,xb⟩:=X
 simp (disch:=first|omega|exact bd (by with_unfolding_all rfl)|(simp only[b9]<;>omega)) only[WA,Nat.reduceEqDiff,Nat.reduceLT,↓reduceIte,List.replicate,aO0,hag]
 all_goals try (exfalso;omega)
 refine a6 (by rw[hC];exact hf.flat rfl rfl) ?_
 simp (disch:=first|exact bd (by with_unfolding_all rfl)|(simp only[b9]<;>omega)) only[WA,Nat.reduceEqDiff,Nat.reduceLT,Nat.reduceAdd,↓reduceIte,reduceCtorEq,List.replicate]
 refine a6 (by rw[hC];exact l1.flat rfl rfl) ?_
 simp (disch:=first|omega|exact bd (by with_unfolding_all rfl)|fail) only[WA,Nat.reduceEqDiff,Nat.reduceLT,↓reduceIte,reduceCtorEq]
 refine a6 (by rw[hC];exact l2.flat rfl rfl) ?_
 simp (disch:=first|omega|exact bd (by with_unfolding_all rfl)|fail) only[WA,Nat.reduceEqDiff,Nat.reduceLT,↓reduceIte]
 all_goals try (exfalso;omega)
 refine ⟨L.length - (k+1),_,_,by omega,v6 [] 0 h0 rfl rfl rfl rfl,k+1,rfl,by omega,?_,rfl⟩
 rw[u1,u2]
 rfl
end
abbrev LS (L:List p7):Prop:=∀ x ∈ L,x.kind<256
theorem LS.at {L:List p7} (h:LS L) {k:Nat} (hk:k<L.length):L[k]!.kind<256:=h _ (by rw[getElem!_pos _ k hk];exact List.getElem_mem hk)
theorem HK {L:List p7} {k:Nat} (hk:k<L.length) (h:(L.take k).all E5=true) (h2:E5 L[k]! =true):(L.take (k+1)).all E5=true:=by
 rw[List.take_succ_eq_append_getElem hk,List.all_append,h]
 rw[getElem!_pos _ k hk] at h2
 simp[h2]
theorem RX {L:List p7} {k:Nat} (hk:k<L.length) (h2:E5 L[k]! =false):¬ L.all E5=true:=fun h=>by
 rw[getElem!_pos _ k hk] at h2
 have:=List.all_eq_true.1 h _ (List.getElem_mem hk)
 rw[this] at h2;cases h2
section
variable (w:World) (n:Nat)
theorem bK3 (x:p7) (hk:x.kind<256):m7 (EN w (n+3)) 48 [pE x] (.sc (.bool (!E5 x))) ⟨[],0,0⟩:=by
 have hc:=RL w n x hk
 cases he:E5 x with
 |true=>
  rw[he,if_pos rfl] at hc
  obtain ⟨xk,xp,xa,xb⟩:=x
  refine d7 rfl rfl (fun _ _=>rfl) (Nat.le_of_ble_eq_true rfl) (j4 w) rfl fun C hC h0=>?_
  simp (disch:=first|exact bd (by with_unfolding_all rfl)|fail) only[WA,Nat.reduceEqDiff,Nat.reduceLT,↓reduceIte,reduceCtorEq,c48]
  refine a6 (by rw[hC];exact hc.flat rfl rfl) ?_
  simp (disch:=first|exact bd (by with_unfolding_all rfl)|fail) only[WA,Nat.reduceEqDiff,Nat.reduceLT,↓reduceIte]
  exact d6 rfl h0 rfl
 |false=>
  rw[he,if_neg (by decide)] at hc
  obtain ⟨xk,xp,xa,xb⟩:=x
  refine d7 rfl rfl (fun _ _=>rfl) (Nat.le_of_ble_eq_true rfl) (j4 w) rfl fun C hC h0=>?_
  simp (disch:=first|exact bd (by with_unfolding_all rfl)|fail) only[WA,Nat.reduceEqDiff,Nat.reduceLT,↓reduceIte,reduceCtorEq,c48]
  refine a6 (by rw[hC];exact hc.flat rfl rfl) ?_
  simp (disch:=first|exact bd (by with_unfolding_all rfl)|(simp only[b9]<;>omega)) only[WA,Nat.reduceEqDiff,Nat.reduceLT,Int.reduceEq,↓reduceIte]
  exact d6 rfl h0 rfl
theorem bA0 (s:Nat) (L:List p7) (hL:L.length≤200) (hK:LS L):∃ r:Int,(L.all E5=true→r= -1)∧(¬ L.all E5=true→0≤r)∧
  m7 (EN w (n+4)) 69 [.sl s L.length (u9 L),.sc (.func (.func 48) #[] #[])] (.sc (.int .i64 r)) ⟨[],0,0⟩:=by
 have main:∀ (j:Nat),j≤L.length→(L.take j).all E5=true→(j<L.length→E5 L[j]! =false)→m7 (EN w (n+4)) 69 [.sl s L.length (u9 L),.sc (.func (.func 48) #[] #[])] (.sc (.int .i64 (if j<L.length then (j:Int) else -1))) ⟨[],0,0⟩:=by
  intro j hj hall hbad
  refine d7 rfl rfl (fun _ _=>rfl) (Nat.le_of_ble_eq_true rfl) (j4 w) rfl fun C hC h0=>?_
  have hrn:C.E.rounds=G4:=by rw[hC,l8]
  have hil:=z6 L
  simp (disch:=first|exact bd (by with_unfolding_all rfl)|fail) only[WA,Nat.reduceEqDiff,Nat.reduceLT,Int.reduceNeg,↓reduceIte,reduceCtorEq,c69]
  all_goals try (exfalso;omega)
  refine B0 (fun m fr st=>∃ (k:Nat),m=L.length - k∧k≤j∧fr= [(0,.sl s L.length (u9 L)),(1,.sc (.func (.func 48) #[] #[])),(7,.sc (.int .i64 L.length)),(8,.sc (.int .i64 k))]∧st=⟨[],0,0⟩) L.length ?_ ⟨_,_,.refl _ _,0,by omega,Nat.zero_le _,rfl,rfl⟩ ?_
  ·rw[hrn];unfold G4;omega
  rintro m fr st ⟨k,rfl,hk,rfl,rfl⟩
  by_cases hlt:k<L.length
  case neg=>
   rw[if_neg (by omega)]
   simp (disch:=first|omega|exact bd (by with_unfolding_all rfl)|fail) only[WA,Nat.reduceEqDiff,Nat.reduceLT,Int.reduceNeg,↓reduceIte,reduceCtorEq,XO]
   all_goals try (exfalso;omega)
   exact d6 rfl h0 rfl
  have hag:=O5 L k hlt
  have h1:=bK3 w n L[k]! (hK.at hlt)
  by_cases hkj:k=j
  ·subst hkj
   rw[hbad hlt] at h1
   rw[if_pos hlt]
   generalize L[k]! =X at*
   obtain ⟨xk,xp,xa,xb⟩:=X
   simp (disch:=first|omega|exact bd (by with_unfolding_all rfl)|fail) only[WA,Nat.reduceEqDiff,Nat.reduceLT,Int.reduceNeg,↓reduceIte,reduceCtorEq,XO,hag]
   all_goals try (exfalso;omega)
   refine a6 (by rw[hC];exact h1.flat rfl rfl) ?_
   simp (disch:=first|exact bd (by with_unfolding_all rfl)|fail) only[WA,Nat.reduceEqDiff,Nat.reduceLT,Int.reduceNeg,↓reduceIte,reduceCtorEq]
   exact d6 rfl h0 rfl
  ·have ho:E5 L[k]! =true:=List.all_eq_true.1 hall _ (by
    rw[getElem!_pos _ k hlt]
    exact List.mem_iff_getElem.2 ⟨k,by rw[List.length_take];omega,List.getElem_take⟩)
   rw[ho] at h1
   generalize L[k]! =X at*
   obtain ⟨xk,xp,xa,xb⟩:=X
   simp (disch:=first|omega|exact bd (by with_unfolding_all rfl)|fail) only[WA,Nat.reduceEqDiff,Nat.reduceLT,Int.reduceNeg,↓reduceIte,reduceCtorEq,XO,hag]
   all_goals try (exfalso;omega)
   refine a6 (by rw[hC];exact h1.flat rfl rfl) ?_
   simp (disch:=first|omega|exact bd (by with_unfolding_all rfl)|fail) only[WA,Nat.reduceEqDiff,Nat.reduceLT,Int.reduceNeg,↓reduceIte,reduceCtorEq]
   exact ⟨L.length - (k+1),_,_,by omega,.refl _ _,k+1,rfl,by omega,rfl,rfl⟩
 have hex:∃ j,j≤L.length∧(L.take j).all E5=true∧(j<L.length→E5 L[j]! =false):=by
  have:∀ m,m≤L.length→(L.take m).all E5=true∨∃ j,j<m∧(L.take j).all E5=true∧E5 L[j]! =false:=by
   intro m
   induction m with
   |zero=>intro _;exact .inl rfl
   |succ m ih=>
    intro hm
    rcases ih (by omega) with h|⟨j,h1,h2,h3⟩
    ·cases hc:E5 L[m]! with
     |true=>exact .inl (HK (by omega) h hc)
     |false=>exact .inr ⟨m,by omega,h,hc⟩
    ·exact .inr ⟨j,by omega,h2,h3⟩
  rcases this L.length (Nat.le_refl _) with h|⟨j,h1,h2,h3⟩
  ·exact ⟨L.length,Nat.le_refl _,h,fun h=>absurd h (Nat.lt_irrefl _)⟩
  ·exact ⟨j,by omega,h2,fun _=>h3⟩
 obtain ⟨j,h1,h2,h3⟩:=hex
 refine ⟨_,fun hall=>?_,fun hall=>?_,main j h1 h2 h3⟩
 ·rw[if_neg fun h=>RX h (h3 h) hall]
 ·by_cases h:j<L.length
  ·rw[if_pos h];omega
  ·have:j=L.length:=by omega
   subst this
   rw[List.take_length] at h2
   exact absurd h2 hall
theorem RM (s:Nat) (L:List p7) (hL:L.length≤200) (hK:LS L):m7 (EN w (n+5)) 47 [.sl s L.length (u9 L),.sc (.func (.func 48) #[] #[])] (.sc (.bool (!(L.all E5)))) ⟨[],0,0⟩:=by
 obtain ⟨r,h1,h2,hr⟩:=bA0 w n s L hL hK
 cases ha:L.all E5 with
 |true=>
  have e:=h1 ha
  subst e
  refine d7 rfl rfl (fun _ _=>rfl) (Nat.le_of_ble_eq_true rfl) (j4 w) rfl fun C hC h0=>?_
  simp (disch:=first|exact bd (by with_unfolding_all rfl)|fail) only[WA,Nat.reduceEqDiff,Nat.reduceLT,↓reduceIte,reduceCtorEq,c47]
  refine a6 (by rw[hC];exact hr.flat rfl rfl) ?_
  simp (disch:=first|exact bd (by with_unfolding_all rfl)|fail) only[WA,Nat.reduceEqDiff,Nat.reduceLT,Int.reduceLE,Int.reduceNeg,↓reduceIte,reduceCtorEq]
  exact d6 rfl h0 rfl
 |false=>
  have e:=h2 (by rw[ha];decide)
  refine d7 rfl rfl (fun _ _=>rfl) (Nat.le_of_ble_eq_true rfl) (j4 w) rfl fun C hC h0=>?_
  simp (disch:=first|exact bd (by with_unfolding_all rfl)|fail) only[WA,Nat.reduceEqDiff,Nat.reduceLT,↓reduceIte,reduceCtorEq,c47]
  refine a6 (by rw[hC];exact hr.flat rfl rfl) ?_
  simp (disch:=first|omega|exact bd (by with_unfolding_all rfl)|fail) only[WA,Nat.reduceEqDiff,Nat.reduceLT,↓reduceIte,reduceCtorEq]
  all_goals try (exfalso;omega)
  exact d6 rfl h0 rfl
theorem KZ (s:Nat) (L:List p7) (hL:L.length≤140737488351232) (hK:LS L):m7 (EN w (n+6)) 27 [.sl s L.length (u9 L)] (.sc (.int .i64 (S3 L))) ⟨[],0,0⟩:=by
 have hil:=z6 L
 unfold S3
 by_cases h2:200<L.length
 ·rw[if_pos h2]
  refine d7 rfl rfl (fun _ _=>rfl) (Nat.le_of_ble_eq_true rfl) (j4 w) rfl fun C hC h0=>?_
  simp (disch:=first|omega|exact bd (by with_unfolding_all rfl)|fail) only[WA,Nat.reduceEqDiff,Nat.reduceLT,↓reduceIte,reduceCtorEq,c27]
  all_goals try (exfalso;omega)
  exact d6 rfl h0 rfl
 rw[if_neg h2]
 have hc:=RM w n s L (by omega) hK
 cases ha:L.all E5 with
 |false=>
  rw[ha] at hc
  rw[if_neg (by decide)]
  refine d7 rfl rfl (fun _ _=>rfl) (Nat.le_of_ble_eq_true rfl) (j4 w) rfl fun C hC h0=>?_
  simp (disch:=first|omega|exact bd (by with_unfolding_all rfl)|fail) only[WA,Nat.reduceEqDiff,Nat.reduceLT,↓reduceIte,reduceCtorEq,c27]
  all_goals try (exfalso;omega)
  refine a6 (by rw[hC];exact hc.flat rfl rfl) ?_
  simp (disch:=first|exact bd (by with_unfolding_all rfl)|fail) only[WA,Nat.reduceEqDiff,Nat.reduceLT,↓reduceIte,reduceCtorEq]
  exact d6 rfl h0 rfl
 |true=>
  rw[ha] at hc
  rw[if_pos rfl]
  have hs:=bY5 w (n+3) s L (by omega) ha
  generalize U1 T6 L=U at*
  generalize U1 T5 L=M at*
  by_cases hm:200<U∨200<M
  ·rw[if_pos hm]
   have hmx:200<max U M:=by omega
   generalize hX:max U M=X at*
   refine d7 rfl rfl (fun _ _=>rfl) (Nat.le_of_ble_eq_true rfl) (j4 w) rfl fun C hC h0=>?_
   simp (disch:=first|omega|exact bd (by with_unfolding_all rfl)|fail) only[WA,Nat.reduceEqDiff,Nat.reduceLT,↓reduceIte,reduceCtorEq,c27]
   all_goals try (exfalso;omega)
   refine a6 (by rw[hC];exact hc.flat rfl rfl) ?_
   simp (disch:=first|exact bd (by with_unfolding_all rfl)|fail) only[WA,Nat.reduceEqDiff,Nat.reduceLT,↓reduceIte,reduceCtorEq]
   refine a6 (by rw[hC];exact hs.flat rfl rfl) ?_
   simp (disch:=first|omega|exact bd (by with_unfolding_all rfl)|fail) only[WA,Nat.reduceEqDiff,Nat.reduceLT,↓reduceIte,reduceCtorEq,wD,hX]
   all_goals try (exfalso;omega)
   exact d6 rfl h0 rfl
  ·rw[if_neg hm]
   have hmx:max U M≤200:=by omega
   generalize hX:max U M=X at*
   refine d7 rfl rfl (fun _ _=>rfl) (Nat.le_of_ble_eq_true rfl) (j4 w) rfl fun C hC h0=>?_
   simp (disch:=first|omega|exact bd (by with_unfolding_all rfl)|fail) only[WA,Nat.reduceEqDiff,Nat.reduceLT,↓reduceIte,reduceCtorEq,c27]
   all_goals try (exfalso;omega)
   refine a6 (by rw[hC];exact hc.flat rfl rfl) ?_
   simp (disch:=first|exact bd (by with_unfolding_all rfl)|fail) only[WA,Nat.reduceEqDiff,Nat.reduceLT,↓reduceIte,reduceCtorEq]
   refine a6 (by rw[hC];exact hs.flat rfl rfl) ?_
   simp (disch:=first|omega|exact bd (by with_unfolding_all rfl)|fail) only[WA,Nat.reduceEqDiff,Nat.reduceLT,↓reduceIte,reduceCtorEq,wD,hX]
   all_goals try (exfalso;omega)
   exact d6 rfl h0 rfl
end
end Go.Proofs.YtimmmnanllcfoaaDoor
namespace Go.Itp
set_option linter.unusedVariables false
set_option linter.unusedSimpArgs false
set_option maxRecDepth 10000
theorem mD {c:UInt8}:∀ (p r:List UInt8),c ∉ p→Lib.index (p++c::r) [c]=p.length
 | [],r,_=>by
  rw[List.nil_append,Lib.index]
  simp[List.isPrefixOf]
 |b::p,r,h=>by
  have hb:(c==b)=false:=by simpa using fun e=>h (by rw[e];simp)
  rw[List.cons_append,Lib.index,mD p r fun e=>h (List.mem_cons_of_mem _ e)]
  simp only[List.isPrefixOf,hb,Bool.false_and,Bool.false_eq_true,if_false,List.length_cons]
  rw[if_neg (by simp only[beq_iff_eq];omega)]
  omega
theorem tG {c:UInt8}:∀ (s:List UInt8),c ∉ s→Lib.index s [c]= -1
 | [],_=>rfl
 |b::p,h=>by
  have hb:(c==b)=false:=by simpa using fun e=>h (by rw[e];simp)
  rw[Lib.index,tG p fun e=>h (List.mem_cons_of_mem _ e)]
  simp[List.isPrefixOf,hb]
theorem dP {c:UInt8} {p r u:List UInt8} (h:c ∉ p) (hu:u ≠ [c]):Lib.replace (p++c::r) [c] u 1=p++u++r:=by
 have hi:=mD p r h
 have hc:=Lib.count_hit (s:=p++c::r) (sub:= [c]) (i:=p.length) (by simp) hi
 have hn:Lib.replaceNum (p++c::r) [c] 1=1:=by
  unfold Lib.replaceNum
  rw[if_neg (by omega)]
  rfl
 unfold Lib.replace
 rw[if_neg (by simpa using Ne.symm hu),hn,Lib.replaceK_hit _ _ _ _ _ hi,Lib.replaceK]
 simp
theorem mO {c:UInt8} {s u:List UInt8} (h:c ∉ s):Lib.replace s [c] u 1=s:=by
 unfold Lib.replace Lib.replaceNum
 rw[Lib.count_miss (tG s h)]
 split
 ·rfl
 ·rw[if_pos (by omega),Lib.replaceK]
theorem W6 {z:Int} (h:0≤z):Lib.itoa z ≠ [35]:=W3 h (by decide)
theorem QD {x:p7} {n:Int} (hx:H6 x) (h0:1≤n):D2 x n=if countB x.kind=true then Lib.replace (T4 x.kind x.purl) [35] (Lib.itoa n) 1 else Lib.replace (Lib.replace (T4 x.kind x.purl) [35] (Lib.itoa x.a) 1) [35] (Lib.itoa x.b) 1++M4 x n:=by
 rw[rC n hx]
 have hno:=EP x.kind x.purl
 have hb:=hx.bounds
 have i1:=W6 (z:=n) (by omega)
 have i2:=W6 (z:=x.a) (by omega)
 have i3:=W6 (z:=x.b) (by omega)
 have j2:(35:UInt8) ∉ Lib.itoa x.a:=cI (by omega) _ (by decide)
 have two:∀ (p q:List UInt8) (v:Int),(35:UInt8) ∉ p→Lib.itoa v ≠ [35]→Lib.replace (join 35 [p,q]) [35] (Lib.itoa v) 1=fill [p,q] [v]:=fun p q v h1 h2=>by
  rw[join,join,dP h1 h2,fill]
  ·simp[fill]
  ·simp
 have two':∀ (p q:List UInt8) (v u:Int),(35:UInt8) ∉ p→(35:UInt8) ∉ q→(35:UInt8) ∉ Lib.itoa v→Lib.itoa v ≠ [35]→Lib.replace (Lib.replace (join 35 [p,q]) [35] (Lib.itoa v) 1) [35] (Lib.itoa u) 1=fill [p,q] [v,u]:=fun p q v u h1 h3 h4 h2=>by
  rw[join,join,dP h1 h2,mO (by simp[h1,h3,h4]),fill]
  ·simp[fill]
  ·simp
 have three:∀ (p q r:List UInt8) (v u:Int),(35:UInt8) ∉ p→(35:UInt8) ∉ q→(35:UInt8) ∉ Lib.itoa v→Lib.itoa v ≠ [35]→Lib.itoa u ≠ [35]→Lib.replace (Lib.replace (join 35 [p,q,r]) [35] (Lib.itoa v) 1) [35] (Lib.itoa u) 1=fill [p,q,r] [v,u]:=fun p q r v u h1 h3 h4 h2 h5=>by
  rw[join,join,join,dP h1 h2,← List.append_assoc,dP (by simp[h1,h3,h4]) h5,fill]
  ·rw[fill]
   ·simp[fill]
   ·simp
  ·simp
 obtain ⟨k,p,a,b⟩:=x
 unfold H6 at hx
 simp only at hx hno i2 i3 j2 ⊢
 unfold T4
 rcases hx with ⟨rfl|rfl,rfl,rfl⟩|⟨rfl,rfl,rfl,rfl⟩|⟨rfl|rfl|rfl,h2,h3,rfl⟩|⟨rfl|rfl,h2,h3⟩|⟨rfl,rfl,h2,h3,rfl⟩|⟨rfl,h2,h3,rfl⟩
 ·rw[if_pos (by decide),show M4 ⟨1,p,0,0⟩ n= [] from by unfold M4;rw[if_neg (by simp)],List.append_nil]
  exact (two _ _ n (hno _ (by simp[p8])) i1).symm
 ·rw[if_pos (by decide),show M4 ⟨8,p,0,0⟩ n= [] from by unfold M4;rw[if_neg (by simp)],List.append_nil]
  exact (two _ _ n (hno _ (by simp[p8])) i1).symm
 ·rw[if_neg (by decide)]
  congr 1
  have h35:(35:UInt8) ∉ join 35 (p8 2 false):=hno _ (by simp[p8,join])
  rw[mO h35,mO h35]
  rfl
 ·rw[if_neg (by decide)]
  congr 1
  exact (two' _ _ a 0 (hno _ (by simp[p8])) (hno _ (by simp[p8])) j2 i2).symm
 ·rw[if_neg (by decide)]
  congr 1
  exact (two' _ _ a 0 (hno _ (by simp[p8])) (hno _ (by simp[p8])) j2 i2).symm
 ·rw[if_neg (by decide)]
  congr 1
  exact (two' _ _ a 0 (hno _ (by simp[p8])) (hno _ (by simp[p8])) j2 i2).symm
 ·rw[if_neg (by decide)]
  congr 1
  exact (three _ _ _ a b (hno _ (by simp[p8])) (hno _ (by simp[p8])) j2 i2 i3).symm
 ·rw[if_neg (by decide)]
  congr 1
  exact (three _ _ _ a b (hno _ (by simp[p8])) (hno _ (by simp[p8])) j2 i2 i3).symm
 ·rw[if_neg (by decide)]
  congr 1
  exact (two' _ _ a 0 (hno _ (by simp[p8])) (hno _ (by simp[p8])) j2 i2).symm
 ·rw[if_neg (by decide)]
  congr 1
  exact (two' _ _ a 0 (hno _ (by simp[p8])) (hno _ (by simp[p8])) j2 i2).symm
theorem oO:∀ s:List UInt8,(Lib.index s [44,32]= -1∧v7 s= [s])∨∃ x r,s=x++44::32::r∧Lib.index s [44,32]=x.length∧v7 s=x::v7 r
 | []=> .inl ⟨rfl,rfl⟩
 | [c]=> .inl ⟨by simp[Lib.index,List.isPrefixOf],rfl⟩
 |c::d::r=>by
  by_cases h:c=44∧d=32
  ·obtain ⟨rfl,rfl⟩:=h
   refine .inr ⟨[],r,rfl,?_,by rw[v7,if_pos ⟨rfl,rfl⟩]⟩
   rw[Lib.index]
   simp[List.isPrefixOf]
  ·have hp:List.isPrefixOf [44,32] (c::d::r)=false:=by
    simp only[List.isPrefixOf,Bool.and_true]
    rw[← Bool.not_eq_true]
    intro e
    simp only[Bool.and_eq_true,beq_iff_eq] at e
    exact h ⟨e.1.symm,e.2.symm⟩
   rcases oO (d::r) with ⟨h1,h2⟩|⟨x,q,h1,h2,h3⟩
   ·refine .inl ⟨?_,by rw[bP h,h2];rfl⟩
    rw[Lib.index,hp,h1]
    rfl
   ·refine .inr ⟨c::x,q,by rw[h1];rfl,?_,by rw[bP h,h3];rfl⟩
    rw[Lib.index,hp,h2]
    rw[if_neg (by decide),if_neg (by simp only[beq_iff_eq];omega)]
    simp
theorem cE6:∀ (m:Nat) (s:List UInt8),s.length≤m→(v7 s).length=Lib.countB ⟨s.toArray⟩ ⟨#[44,32]⟩+1
 |m,s,hm=>by
  show (v7 s).length=Lib.count s [44,32]+1
  rcases oO s with ⟨h1,h2⟩|⟨x,r,rfl,h2,h3⟩
  ·rw[h2,Lib.count_miss h1];rfl
  ·cases m with
   |zero=>simp at hm
   |succ m=>
    have ih:=cE6 m r (by simp at hm;omega)
    rw[h3,Lib.count_hit (by simp) h2,List.length_cons,ih]
    have e:(x++44::32::r).drop (x.length+([44,32]:List UInt8).length)=r:=by
     rw[show x++44::32::r=(x++ [44,32])++r from by simp,List.drop_left' (by simp)]
    rw[e]
    show Lib.count r [44,32]+1+1=_
    omega
theorem iS:∀ (s:List UInt8),(v7 s).length≤s.length+1
 | []=>Nat.le_refl _
 | [c]=>by simp[v7]
 |c::d::r=>by
  rw[v7]
  split
  ·have:=iS r;simp;omega
  ·have:=iS (d::r)
   cases h:v7 (d::r) with
   |nil=>simp[xP]
   |cons a b=>rw[h] at this;simp[xP] at this ⊢;omega
theorem pC:∀ (s:List UInt8),∀ w ∈ v7 s,w.length≤s.length
 | [],w,h=>by simp[v7] at h;simp[h]
 | [c],w,h=>by simp[v7] at h;simp[h]
 |c::d::r,w,h=>by
  rw[v7] at h
  split at h
  ·rcases List.mem_cons.1 h with rfl|h
   ·simp
   ·have:=pC r w h;simp;omega
  ·have ih:=pC (d::r)
   cases hs:v7 (d::r) with
   |nil=>rw[hs] at h;simp[xP] at h;subst h;simp
   |cons a b=>
    rw[hs] at h ih
    simp only[xP] at h
    rcases List.mem_cons.1 h with rfl|h
    ·have:=ih a (by simp);simp at this ⊢;omega
    ·have:=ih w (List.mem_cons_of_mem _ h);simp at this ⊢;omega
end Go.Itp
namespace Go.Proofs.YtimmmnanllcfoaaDoor
open Go Go.Itp
set_option maxRecDepth 100000
set_option maxHeartbeats 400000
set_option linter.unusedSimpArgs false
set_option linter.unusedVariables false
theorem UT (l:List UInt8) (c:UInt8):Lib.countB ⟨l.toArray⟩ ⟨[c].toArray⟩≤l.length:=by
 have:=Lib.countB_le ⟨[c].toArray⟩ (Nat.le_refl 1) l.length ⟨l.toArray⟩ (by rw[p9];exact Nat.le_refl _)
 rwa [p9] at this
theorem sY:∀ k p,(T4 k p).length≤60:=by
 intro k p
 unfold T4 p8
 split<;>cases p<;>decide
theorem tS (l u:List UInt8) (c:UInt8) (k:Int) (h1:l.length≤1000) (h2:u.length≤1000):l.length+Lib.countB ⟨l.toArray⟩ ⟨[c].toArray⟩*u.length≤140737488355328:=by
 have:=Nat.mul_le_mul (UT l c) h2
 have h3:l.length*1000≤1000*1000:=Nat.mul_le_mul_right _ h1
 omega
theorem cQ (g:Bool) (k k':Nat) (p p':Bool) (a b a' b':Int):sS g [(0,0),(1,2),(2,0),(3,0)] (.agg [.sc (.int .u8 k),.sc (.bool p),.sc (.int .i64 a),.sc (.int .i64 b)]) (.agg [.sc (.int .u8 k'),.sc (.bool p'),.sc (.int .i64 a'),.sc (.int .i64 b')])=some (.sc (.bool (bI2 g (decide ((⟨k,p,a,b⟩:p7)=⟨k',p',a',b'⟩))))):=by
 rw[oH]
 have e:X7 [(0,0),(1,2),(2,0),(3,0)] [V.sc (.int .u8 k),.sc (.bool p),.sc (.int .i64 a),.sc (.int .i64 b)] [V.sc (.int .u8 k'),.sc (.bool p'),.sc (.int .i64 a'),.sc (.int .i64 b')]=some (decide ((k:Int)=k') && ((p==p') && (decide (a=a') && decide (b=b')))):=by
  simp only[eR,iH,jX,iG,sG,Bool.and_true,B8,Option.bind_some]
 rw[e]
 simp only[Option.map_some]
 congr 4
 rw[Bool.eq_iff_iff]
 simp only[Bool.and_eq_true,beq_iff_eq,decide_eq_true_eq,p7.mk.injEq]
 constructor
 ·rintro ⟨h1,h2,h3,h4⟩;exact ⟨by omega,h2,h3,h4⟩
 ·rintro ⟨h1,h2,h3,h4⟩;exact ⟨by omega,h2,h3,h4⟩
section
variable (w:World) (n:Nat)
theorem bY2 (p:Bool):m7 (EN w (n+1)) 82 [.sc (.bool p)] (n4 (AZ p)) ⟨[],0,0⟩:=by
 cases p
 all_goals
  refine d7 rfl rfl (fun _ _=>rfl) (Nat.le_of_ble_eq_true rfl) (j4 w) rfl fun C hC h0=>?_
  repeat' (first|(simp (disch:=first|exact bd (by with_unfolding_all rfl)|fail) only[WA,Nat.reduceEqDiff,Nat.reduceLT,↓reduceIte,reduceCtorEq,c82]))
  exact d6 rfl h0 rfl
theorem aQ7 (k:Nat) (p:Bool) (h1:1≤k) (h2:k≤10):m7 (EN w (n+2)) 57 [.sc (.int .u8 k),.sc (.bool p)] (.tup [n4 (T4 k p),.sc (.bool (countB k))]) ⟨[],0,0⟩:=by
 have hs:=bY2 w n p
 unfold AZ at hs
 cases p
 all_goals
  rcases (by omega:k=1∨k=3∨k=4∨k=2∨k=5∨k=6∨k=7∨k=8∨k=9∨k=10) with rfl|rfl|rfl|rfl|rfl|rfl|rfl|rfl|rfl|rfl
  iterate 3
   ·refine d7 rfl rfl (fun _ _=>rfl) (Nat.le_of_ble_eq_true rfl) (j4 w) rfl fun C hC h0=>?_
    repeat' (first|(simp (disch:=first|omega|exact bd (by with_unfolding_all rfl)|fail) only[WA,Nat.reduceEqDiff,Nat.reduceLT,↓reduceIte,reduceCtorEq,c57]))
    refine a6 (by rw[hC];exact hs.flat rfl rfl) ?_
    repeat' (first|(simp (disch:=first|exact bd (by with_unfolding_all rfl)|(simp only[b9]<;>omega)) only[WA,Nat.reduceEqDiff,Nat.reduceLT,↓reduceIte,N2]))
    exact d6 rfl h0 rfl
  all_goals
   refine d7 rfl rfl (fun _ _=>rfl) (Nat.le_of_ble_eq_true rfl) (j4 w) rfl fun C hC h0=>?_
   repeat' (first|(simp (disch:=first|omega|exact bd (by with_unfolding_all rfl)|(simp only[b9]<;>omega)) only[WA,Nat.reduceEqDiff,Nat.reduceLT,↓reduceIte,reduceCtorEq,c57,N2]))
   exact d6 rfl h0 rfl
theorem QF (x:p7) (hx:H6 x) (m:Int) (h0:1≤m) (h1:m≤1000):m7 (EN w (n+3)) 51 [pE x,.sc (.int .i64 m)] (n4 (D2 x m)) ⟨[],0,0⟩:=by
 have hb:=hx.bounds
 have hf:=aQ7 w n x.kind x.purl hb.1 hb.2.1
 have hfl:=sY x.kind x.purl
 have hr:=QD hx h0
 have im:=VH w (n+1)
 have l1:=H4 (z:=m) (by omega) (by omega)
 have l2:=H4 (z:=x.a) (by omega) (by omega)
 have l3:=H4 (z:=x.b) (by omega) (by omega)
 have r1:=fun st=>WM w (n+1) st (T4 x.kind x.purl) [35] (Lib.itoa m) 1 (by omega) (Nat.le_refl 1) (tS _ _ 35 1 (by omega) (by omega))
 have r2:=fun st=>WM w (n+1) st (T4 x.kind x.purl) [35] (Lib.itoa x.a) 1 (by omega) (Nat.le_refl 1) (tS _ _ 35 1 (by omega) (by omega))
 have hlen2:(Lib.replace (T4 x.kind x.purl) [35] (Lib.itoa x.a) 1).length≤70:=by
  rcases W1 35 (T4 x.kind x.purl) with h|⟨p,q,e,h⟩
  ·rw[mO h];omega
  ·rw[e,dP h (W6 (by omega))]
   have:=congrArg List.length e
   simp only[List.length_append,List.length_cons] at this ⊢
   omega
 have r3:=fun st=>WM w (n+1) st (Lib.replace (T4 x.kind x.purl) [35] (Lib.itoa x.a) 1) [35] (Lib.itoa x.b) 1 (by omega) (Nat.le_refl 1) (tS _ _ 35 1 (by omega) (by omega))
 have hlen3:(Lib.replace (Lib.replace (T4 x.kind x.purl) [35] (Lib.itoa x.a) 1) [35] (Lib.itoa x.b) 1).length≤80:=by
  rcases W1 35 (Lib.replace (T4 x.kind x.purl) [35] (Lib.itoa x.a) 1) with h|⟨p,q,e,h⟩
  ·rw[mO h];omega
  ·rw[e,dP h (W6 (by omega))]
   have:=congrArg List.length e
   simp only[List.length_append,List.length_cons] at this ⊢
   omega
 rw[hr]
 have hk:countB x.kind=true↔x.kind=1∨x.kind=8:=by unfold countB;exact decide_eq_true_iff
 cases hc:countB x.kind with
 |true=>
  rw[hc] at hf
  rw[if_pos rfl]
  generalize T4 x.kind x.purl=F at*
  clear r2 r3 hlen2 hlen3 hr
  obtain ⟨xk,xp,xa,xb⟩:=x
  refine d7 rfl rfl (fun _ _=>rfl) (Nat.le_of_ble_eq_true rfl) (j4 w) rfl fun C hC h0=>?_
  simp (disch:=first|exact bd (by with_unfolding_all rfl)|fail) only[WA,Nat.reduceEqDiff,Nat.reduceLT,↓reduceIte,reduceCtorEq,c51]
  refine a6 (by rw[hC];exact hf.flat rfl rfl) ?_
  simp (disch:=first|exact bd (by with_unfolding_all rfl)|fail) only[WA,Nat.reduceEqDiff,Nat.reduceLT,↓reduceIte]
  refine a6 (by rw[hC];exact im _ m (by omega) (by omega)) ?_
  repeat' (first|(simp (disch:=fail) only[WA,m9,u5,Nat.reduceEqDiff,Nat.reduceLT,Nat.reduceAdd,Nat.reduceBEq,Int.reduceAdd,Int.reduceSub,Int.reduceLT,Int.reduceLE,Int.reduceEq,Int.reduceNeg,↓reduceIte,reduceCtorEq,List.replicate])|apply y8|((first|apply H9|apply B4|apply C8|apply J0|apply H8|apply C9)<;>intro _))
  refine a6 (by rw[hC];exact r1 _) ?_
  repeat' (first|(simp (disch:=fail) only[WA,m9,u5,Nat.reduceEqDiff,Nat.reduceLT,Nat.reduceAdd,Nat.reduceBEq,Int.reduceAdd,Int.reduceSub,Int.reduceLT,Int.reduceLE,Int.reduceEq,Int.reduceNeg,↓reduceIte,reduceCtorEq,List.replicate])|apply y8|((first|apply H9|apply B4|apply C8|apply J0|apply H8|apply C9)<;>intro _))
  exact d6 rfl h0 rfl
 |false=>
  rw[hc] at hf
  rw[if_neg (by decide)]
  have hkk:x.kind ≠ 1∧x.kind ≠ 8:=by
   rw[← Bool.not_eq_true,hk] at hc
   omega
  have ht:M4 x m=if 1<m then 32::(Lib.itoa m++lF) else []:=by
   unfold M4
   by_cases h:1<m
   ·rw[if_pos h,if_pos ⟨h,hkk⟩];rfl
   ·rw[if_neg h,if_neg fun hh=>h hh.1]
  rw[ht]
  generalize Lib.replace (Lib.replace (T4 x.kind x.purl) [35] (Lib.itoa x.a) 1) [35] (Lib.itoa x.b) 1=R3 at*
  generalize Lib.replace (T4 x.kind x.purl) [35] (Lib.itoa x.a) 1=R2 at*
  generalize T4 x.kind x.purl=F at*
  obtain ⟨xk,xp,xa,xb⟩:=x
  simp only at*
  by_cases hm:1<m
  ·rw[if_pos hm]
   refine d7 rfl rfl (fun _ _=>rfl) (Nat.le_of_ble_eq_true rfl) (j4 w) rfl fun C hC h0=>?_
   simp (disch:=first|exact bd (by with_unfolding_all rfl)|fail) only[WA,Nat.reduceEqDiff,Nat.reduceLT,↓reduceIte,reduceCtorEq,c51]
   refine a6 (by rw[hC];exact hf.flat rfl rfl) ?_
   simp (disch:=first|exact bd (by with_unfolding_all rfl)|fail) only[WA,Nat.reduceEqDiff,Nat.reduceLT,↓reduceIte]
   refine a6 (by rw[hC];exact im _ xa (by omega) (by omega)) ?_
   repeat' (first|(simp (disch:=fail) only[WA,m9,u5,Nat.reduceEqDiff,Nat.reduceLT,Nat.reduceAdd,Nat.reduceBEq,Int.reduceAdd,Int.reduceSub,Int.reduceLT,Int.reduceLE,Int.reduceEq,Int.reduceNeg,↓reduceIte,reduceCtorEq,List.replicate])|apply y8|((first|apply H9|apply B4|apply C8|apply J0|apply H8|apply C9)<;>intro _))
   refine a6 (by rw[hC];exact r2 _) ?_
   simp (disch:=first|omega|exact bd (by with_unfolding_all rfl)|fail) only[WA,Nat.reduceEqDiff,Nat.reduceLT,↓reduceIte]
   refine a6 (by rw[hC];exact im _ xb (by omega) (by omega)) ?_
   repeat' (first|(simp (disch:=fail) only[WA,m9,u5,Nat.reduceEqDiff,Nat.reduceLT,Nat.reduceAdd,Nat.reduceBEq,Int.reduceAdd,Int.reduceSub,Int.reduceLT,Int.reduceLE,Int.reduceEq,Int.reduceNeg,↓reduceIte,reduceCtorEq,List.replicate])|apply y8|((first|apply H9|apply B4|apply C8|apply J0|apply H8|apply C9)<;>intro _))
   refine a6 (by rw[hC];exact r3 _) ?_
   repeat' (first|(simp (disch:=fail) only[WA,m9,u5,Nat.reduceEqDiff,Nat.reduceLT,Nat.reduceAdd,Nat.reduceBEq,Int.reduceAdd,Int.reduceSub,Int.reduceLT,Int.reduceLE,Int.reduceEq,Int.reduceNeg,↓reduceIte,reduceCtorEq,List.replicate])|apply y8|((first|apply H9|apply B4|apply C8|apply J0|apply H8|apply C9)<;>intro _))
   all_goals try (exfalso;omega)
   refine a6 (by rw[hC];exact im _ m (by omega) (by omega)) ?_
   simp (disch:=first|exact bd (by with_unfolding_all rfl)|(simp only[b9]<;>omega)) only[WA,Nat.reduceEqDiff,Nat.reduceLT,↓reduceIte,N2,List.append_assoc]
   all_goals try (exfalso;omega)
   exact d6 rfl h0 rfl
  ·rw[if_neg hm,List.append_nil]
   refine d7 rfl rfl (fun _ _=>rfl) (Nat.le_of_ble_eq_true rfl) (j4 w) rfl fun C hC h0=>?_
   simp (disch:=first|exact bd (by with_unfolding_all rfl)|fail) only[WA,Nat.reduceEqDiff,Nat.reduceLT,↓reduceIte,reduceCtorEq,c51]
   refine a6 (by rw[hC];exact hf.flat rfl rfl) ?_
   simp (disch:=first|exact bd (by with_unfolding_all rfl)|fail) only[WA,Nat.reduceEqDiff,Nat.reduceLT,↓reduceIte]
   refine a6 (by rw[hC];exact im _ xa (by omega) (by omega)) ?_
   repeat' (first|(simp (disch:=fail) only[WA,m9,u5,Nat.reduceEqDiff,Nat.reduceLT,Nat.reduceAdd,Nat.reduceBEq,Int.reduceAdd,Int.reduceSub,Int.reduceLT,Int.reduceLE,Int.reduceEq,Int.reduceNeg,↓reduceIte,reduceCtorEq,List.replicate])|apply y8|((first|apply H9|apply B4|apply C8|apply J0|apply H8|apply C9)<;>intro _))
   refine a6 (by rw[hC];exact r2 _) ?_
   simp (disch:=first|omega|exact bd (by with_unfolding_all rfl)|fail) only[WA,Nat.reduceEqDiff,Nat.reduceLT,↓reduceIte]
   refine a6 (by rw[hC];exact im _ xb (by omega) (by omega)) ?_
   repeat' (first|(simp (disch:=fail) only[WA,m9,u5,Nat.reduceEqDiff,Nat.reduceLT,Nat.reduceAdd,Nat.reduceBEq,Int.reduceAdd,Int.reduceSub,Int.reduceLT,Int.reduceLE,Int.reduceEq,Int.reduceNeg,↓reduceIte,reduceCtorEq,List.replicate])|apply y8|((first|apply H9|apply B4|apply C8|apply J0|apply H8|apply C9)<;>intro _))
   refine a6 (by rw[hC];exact r3 _) ?_
   repeat' (first|(simp (disch:=fail) only[WA,m9,u5,Nat.reduceEqDiff,Nat.reduceLT,Nat.reduceAdd,Nat.reduceBEq,Int.reduceAdd,Int.reduceSub,Int.reduceLT,Int.reduceLE,Int.reduceEq,Int.reduceNeg,↓reduceIte,reduceCtorEq,List.replicate])|apply y8|((first|apply H9|apply B4|apply C8|apply J0|apply H8|apply C9)<;>intro _))
   all_goals try (exfalso;omega)
   exact d6 rfl h0 rfl
end
theorem AT (x:p7):∀ l:List p7,∃ t,t≤l.length∧(∀ i,i<t→l[i]! =x)∧(t<l.length→l[t]! ≠ x)∧O3 (x::l)=(x,t+1)::O3 (l.drop t)
 | []=>⟨0,Nat.le_refl _,fun i h=>absurd h (Nat.not_lt_zero _),fun h=>absurd h (Nat.not_lt_zero _),rfl⟩
 |y::l=>by
  by_cases hy:y=x
  ·subst hy
   obtain ⟨t,h1,h2,h3,h4⟩:=AT y l
   refine ⟨t+1,by simp;omega,fun i hi=>?_,fun h=>?_,?_⟩
   ·cases i with
    |zero=>rfl
    |succ i=>simpa using h2 i (by omega)
   ·have:=h3 (by simpa using h)
    simpa using this
   ·rw[O3,h4]
    simp
  ·refine ⟨0,Nat.zero_le _,fun i h=>absurd h (Nat.not_lt_zero _),fun _=>hy,?_⟩
   rw[O3]
   cases hr:O3 (y::l) with
   |nil=>exact absurd hr (rO (by simp))
   |cons z r=>
    obtain ⟨z,m⟩:=z
    have hz:z=y:=by
     have:=dT (y::l)
     have hp:=cV (y::l) (z,m) (by rw[hr];simp)
     rw[hr,oJ] at this
     obtain ⟨q,rfl⟩:∃ q,m=q+1:=⟨m - 1,by simp only at hp;omega⟩
     simp only[List.replicate_succ,List.cons_append] at this
     exact (List.cons.inj this).1
    rw[hz]
    simp only
    rw[if_neg hy,List.drop_zero,hr,hz]
theorem xZ {L:List p7} {j:Nat} (h:j<L.length):L.drop j=L[j]! ::L.drop (j+1):=by
 rw[List.drop_eq_getElem_cons h,getElem!_pos _ j h]
theorem xY {L:List p7} {j i:Nat} (h:j+i<L.length):(L.drop j)[i]! =L[j+i]! :=by
 rw[getElem!_pos _ i (by rw[List.length_drop];omega),List.getElem_drop,getElem!_pos _ (j+i) h]
theorem aI8 (nx t:Nat) (b:ByteArray):M7 nx t 1 1 [.string ⟨#[]⟩] [(0,1,.sc (.string b))]=some (.ref nx 0 1 1,some (.row t 1 false false [.sc (.string b)]),[]):=(rfl)
theorem QE {x:p7} {m:Int} (hx:H6 x) (h0:1≤m) (h1:m≤1000):(D2 x m).length≤100:=by
 have hb:=hx.bounds
 have hfl:=sY x.kind x.purl
 have l1:=H4 (z:=m) (by omega) (by omega)
 have l2:=H4 (z:=x.a) (by omega) (by omega)
 have l3:=H4 (z:=x.b) (by omega) (by omega)
 have aux:∀ (F u:List UInt8),u ≠ [35]→(Lib.replace F [35] u 1).length≤F.length+u.length:=fun F u hu=>by
  rcases W1 35 F with h|⟨p,q,e,h⟩
  ·rw[mO h];omega
  ·rw[e,dP h hu];simp;omega
 rw[QD hx h0]
 split
 ·have:=aux (T4 x.kind x.purl) (Lib.itoa m) (W6 (by omega))
  omega
 ·have a1:=aux (T4 x.kind x.purl) (Lib.itoa x.a) (W6 (by omega))
  have a2:=aux (Lib.replace (T4 x.kind x.purl) [35] (Lib.itoa x.a) 1) (Lib.itoa x.b) (W6 (by omega))
  have ht:(M4 x m).length≤11:=by
   unfold M4
   split
   ·have:Z3.length=5:=rfl
    simp only[List.length_cons,List.length_append,this];omega
   ·simp
  rw[List.length_append]
  omega
theorem YZ:∀ (ws:List (List UInt8)) (b:Nat),(∀ w ∈ ws,w.length≤b)→(jnC ws).length≤ws.length*(b+2)
 | [],b,_=>by simp[jnC]
 |w::ws,b,h=>by
  have ih:=YZ ws b fun x hx=>h x (List.mem_cons_of_mem _ hx)
  have hw:=h w (by simp)
  have e:(ws.length+1)*(b+2)=ws.length*(b+2)+(b+2):=Nat.succ_mul _ _
  cases ws with
  |nil=>simp[jnC];omega
  |cons v r=>
   rw[qN w (by simp)]
   simp only[List.length_append,List.length_cons] at ih e ⊢
   omega
theorem GW:∀ L:List p7,(O3 L).length≤L.length
 | []=>Nat.le_refl _
 |x::l=>by
  have ih:=GW l
  rw[O3]
  cases h:O3 l with
  |nil=>simp
  |cons y r=>
   obtain ⟨y,m⟩:=y
   rw[h] at ih
   simp only[List.length_cons] at ih ⊢
   split<;>simp<;>omega
section
variable (w:World) (n:Nat)
theorem TT {C:D7} (hC:C.E=EN w (n+3)) (s:Nat) (L:List p7) (hL:L.length≤200) (j t:Nat) (hj:j+1+t≤L.length) (ht:∀ i,i<t→(L.drop (j+1))[i]! =L[j]!) (hn:t<(L.drop (j+1)).length→(L.drop (j+1))[t]! ≠ L[j]!) (q:Nat) (st:m8) {K:List KF} {P:D3}
  (hgo:gK C K (.exit 2) [(0,.sl s L.length (u9 L)),(3,.gr 2 0 q),(4,.sc (.int .i64 j)),(5,.sc (.int .i64 ((j+1+t:Nat):Int))),(29,.sc (.bool false))] st P) (hst0:st.own.length=st.own.length):
  gL C [0,3,4,5] MM K [(0,.sl s L.length (u9 L)),(3,.gr 2 0 q),(4,.sc (.int .i64 j)),(5,.sc (.int .i64 ((j+1:Nat):Int)))] st P:=by
 have hrn:C.E.rounds=G4:=by rw[hC,l8]
 have hil:=z6 L
 have hdl:(L.drop (j+1)).length=L.length - (j+1):=List.length_drop
 refine B0 (fun m fr st'=>∃ k:Nat,m=t - k∧k≤t∧fr= [(0,.sl s L.length (u9 L)),(3,.gr 2 0 q),(4,.sc (.int .i64 j)),(5,.sc (.int .i64 ((j+1+k:Nat):Int)))]∧st'=st) t ?_ ⟨_,_,.refl _ _,0,by omega,Nat.zero_le _,rfl,rfl⟩ ?_
 ·rw[hrn];unfold G4;omega
 rintro m fr st' ⟨k,rfl,hk,rfl,rfl⟩
 have hagj:=O5 L j (by omega)
 by_cases hlt:j+1+k<L.length
 ·have hag:=O5 L (j+1+k) hlt
  have hdk:=xY (L:=L) (j:=j+1) (i:=k) hlt
  by_cases hkt:k<t
  ·have he:=ht k hkt
   rw[hdk] at he
   rw[he] at hag
   generalize L[j]! =X at*
   obtain ⟨xk,xp,xa,xb⟩:=X
   simp (disch:=first|omega|exact bd (by with_unfolding_all rfl)|(simp only[b9]<;>omega)) only[WA,m9,u5,Nat.reduceEqDiff,Nat.reduceLT,↓reduceIte,reduceCtorEq,MM,hag,hagj,↓cQ]
   exact ⟨t - (k+1),_,_,by omega,.refl _ _,k+1,rfl,by omega,by rw[show ((j+1+k:Nat):Int)+1=((j+1+(k+1):Nat):Int) from by omega],rfl⟩
  ·have:k=t:=by omega
   subst this
   have he:=hn (by omega)
   rw[hdk] at he
   have hd:=decide_eq_false he
   generalize L[j]! =X at*
   generalize L[j+1+k]! =Y at*
   obtain ⟨xk,xp,xa,xb⟩:=X
   obtain ⟨yk,yp,ya,yb⟩:=Y
   simp (disch:=first|omega|exact bd (by with_unfolding_all rfl)|fail) only[WA,m9,u5,Nat.reduceEqDiff,Nat.reduceLT,↓reduceIte,reduceCtorEq,MM,hag,hagj,↓cQ,hd]
   exact hgo
 ·have:k=t:=by omega
  subst this
  simp (disch:=first|omega|exact bd (by with_unfolding_all rfl)|fail) only[WA,m9,u5,Nat.reduceEqDiff,Nat.reduceLT,↓reduceIte,reduceCtorEq,MM]
  exact hgo
theorem aD3 (s:Nat) (L:List p7) (hL:L.length≤200) (hok:L.all E5=true):m7 (EN w (n+4)) 28 [.sl s L.length (u9 L)] (n4 (C0 L)) ⟨[],0,0⟩:=by
 have hil:=z6 L
 have hrl:=GW L
 have hP:∀ x ∈ L,H6 x:=fun x hx=>E9.1 (List.all_eq_true.1 hok x hx)
 unfold C0
 by_cases hn:L= []
 ·subst hn
  rw[if_pos rfl]
  refine d7 rfl rfl (fun _ _=>rfl) (Nat.le_of_ble_eq_true rfl) (j4 w) rfl fun C hC h0=>?_
  simp (disch:=first|omega|exact bd (by with_unfolding_all rfl)|fail) only[WA,Nat.reduceEqDiff,Nat.reduceLT,↓reduceIte,reduceCtorEq,c28]
  exact d6 rfl h0 rfl
 rw[if_neg hn]
 have hln:0<L.length:=List.length_pos_iff.2 hn
 refine d7 rfl rfl (fun _ _=>rfl) (Nat.le_of_ble_eq_true rfl) (j4 w) rfl fun C hC h0=>?_
 have hrn:C.E.rounds=G4:=by rw[hC,l8]
 simp (disch:=first|omega|exact bd (by with_unfolding_all rfl)|fail) only[WA,Nat.reduceEqDiff,Nat.reduceLT,↓reduceIte,reduceCtorEq,c28]
 all_goals try (exfalso;omega)
 refine B0 (fun m fr st=>∃ (j:Nat) (R:List (p7 × Nat)),m=L.length - j∧j≤L.length∧O3 L=R++O3 (L.drop j)∧fr= [(0,.sl s L.length (u9 L)),(3,.gr 2 0 R.length),(4,.sc (.int .i64 j))]∧st=⟨[(0,.gro 9 1 false ((R.map phr).map sD))],1,0⟩) L.length ?_ ⟨_,_,N8 3 9 1 rfl,0,[],by omega,Nat.zero_le _,rfl,rfl,rfl⟩ ?_
 ·rw[hrn];unfold G4;omega
 rintro m fr st ⟨j,R,rfl,hj,hR,rfl,rfl⟩
 have hRl:R.length≤200:=by
  have:=congrArg List.length hR
  rw[List.length_append] at this
  omega
 by_cases hlt:j<L.length
 ·obtain ⟨t,h1,h2,h3,h4⟩:=AT L[j]! (L.drop (j+1))
  rw[← xZ hlt] at h4
  have hdl:(L.drop (j+1)).length=L.length - (j+1):=List.length_drop
  rw[hdl] at h1
  have hXP:H6 L[j]! :=hP _ (by rw[getElem!_pos _ j hlt];exact List.getElem_mem hlt)
  have hph:=QF w n L[j]! hXP ((t+1:Nat):Int) (by omega) (by omega)
  have hag:=O5 L j hlt
  rw[List.drop_drop] at h4
  have hR2:O3 L=(R++ [(L[j]!,t+1)])++O3 (L.drop (j+1+t)):=by rw[hR,h4];simp
  simp (disch:=first|omega|exact bd (by with_unfolding_all rfl)|fail) only[WA,Nat.reduceEqDiff,Nat.reduceLT,↓reduceIte,reduceCtorEq,aN8]
  all_goals try (exfalso;omega)
  rw[show (j:Int)+1=((j+1:Nat):Int) from rfl]
  refine TT w n hC s L hL j t (by omega) h2 h3 _ _ ?_ rfl
  have hdiff:((j+1+t:Nat):Int) - j=((t+1:Nat):Int):=by omega
  generalize L[j]! =X at*
  obtain ⟨xk,xp,xa,xb⟩:=X
  simp (disch:=first|omega|exact bd (by with_unfolding_all rfl)|fail) only[WA,Nat.reduceEqDiff,Nat.reduceLT,↓reduceIte,reduceCtorEq,hag,hdiff]
  refine a6 (by rw[hC];exact hph.flat rfl rfl) ?_
  simp (disch:=first|omega|exact bd (by with_unfolding_all rfl)|(simp only[b9]<;>omega)) only[WA,Nat.reduceEqDiff,Nat.reduceLT,Nat.reduceAdd,↓reduceIte,reduceCtorEq,aI8]
  all_goals try (exfalso;omega)
  refine ⟨L.length - (j+1+t),_,_,by omega,v6 [(2,0)] 1 h0 rfl rfl rfl rfl,j+1+t,R++ [(⟨xk,xp,xa,xb⟩,t+1)],rfl,by omega,hR2,?_,?_⟩
  ·rw[List.length_append];rfl
  ·simp only[List.map_append];rfl
 ·have:j=L.length:=by omega
  subst this
  rw[List.drop_length,O3,List.append_nil] at hR
  have hlen:=YZ (R.map phr) 100 fun w hw=>by
   obtain ⟨r,hr,rfl⟩:=List.mem_map.1 hw
   have:=cV L r (by rw[hR];exact hr)
   exact QE (hP _ this.2.2) (by omega) (by omega)
  rw[List.length_map] at hlen
  have hj:=bU8 w (n+2) ⟨[],0,0⟩ 2 (by decide) (R.map phr) [44,32] (by rw[List.length_map];omega) (by rw[← VI];omega)
  rw[← VI] at hj
  rw[hR]
  have h1:∀ st:m8,d9 st.own 0=some (.gro 9 1 false ((R.map phr).map sD))→K7 st.own [.gr 2 0 R.length,.sc (.string ⟨#[44,32]⟩)]=some [.sl 2 (R.map phr).length ((R.map phr).map sD),.sc (.string ⟨#[44,32]⟩)]:=fun st h=>by
   have e:w6 st.own (.gr 2 0 R.length)=some (.sl 2 R.length ((R.map phr).map sD)):=by
    simp only[w6,eC,h,List.length_map,Nat.mul_one]
    rw[if_pos (by simp)]
    rfl
   rw[List.length_map]
   show (w6 st.own (.gr 2 0 R.length)).bind _=_
   rw[e]
   rfl
  simp (disch:=first|omega|exact bd (by with_unfolding_all rfl)|fail) only[WA,Nat.reduceEqDiff,Nat.reduceLT,↓reduceIte,reduceCtorEq,aN8]
  all_goals try (exfalso;omega)
  refine a6 (by rw[hC];exact (m7.ofO hj).flat rfl (h1 _ rfl)) ?_
  repeat' (first|(simp (disch:=fail) only[WA,m9,u5,Nat.reduceEqDiff,Nat.reduceLT,Nat.reduceAdd,Nat.reduceBEq,Int.reduceAdd,Int.reduceSub,Int.reduceLT,Int.reduceLE,Int.reduceEq,Int.reduceNeg,↓reduceIte,reduceCtorEq,List.replicate])|apply y8|((first|apply H9|apply B4|apply C8|apply J0|apply H8|apply C9)<;>intro _))
  exact d6 rfl h0 rfl
end
set_option maxHeartbeats 1000000
theorem cE5 (c:UInt8):∀ (m:Nat) (s:List UInt8),s.length≤m→(n7 c s).length=Lib.countB ⟨s.toArray⟩ ⟨[c].toArray⟩+1
 |m,s,hm=>by
  show (n7 c s).length=Lib.count s [c]+1
  rcases W1 c s with h1|⟨x,r,rfl,h1⟩
  ·rw[S1 h1,Lib.count_miss (tG s h1)];rfl
  ·cases m with
   |zero=>simp at hm
   |succ m=>
    have ih:=cE5 c m r (by simp at hm;omega)
    rw[H5 r h1,Lib.count_hit (by simp) (mD x r h1),List.length_cons,ih]
    have e:(x++c::r).drop (x.length+ [c].length)=r:=by
     rw[show x++c::r=(x++ [c])++r from by simp,List.drop_left' (by simp)]
    rw[e]
    show Lib.count r [c]+1+1=_
    omega
theorem dS {n:Nat} {l:List D}:cY [] (.sl 3 n l):=gB rfl
theorem uH {C:D7} {st:m8} {v:V} {s n:Nat} {l:List D} (hs:w6 st.own v=some (.sl s n l)) (hrow:D8 st.ro st.own (eB v)=true) (hk:s ≠ 1∨n ≠ 0) (h0:C.w0.nx=0) (hro:st.ro=0):N4 C [(0,v)] st [(0,.sl 3 n l)] ⟨[],0,0⟩:=
 (gT (t:=0) (v:=v) rfl hs hrow).trans ((P4 (t:=0) (v:= .sl s n l) (v':= .sl 3 n l) rfl (rP hk)).trans (v6 [] 0 h0 hro rfl rfl rfl))
theorem TD (e o k n c:Nat) (j:IntKind) (b:Int) (h0:0≤b) (h1:b≤c) (hc:c<1000000000000) (hc0:c ≠ 0):bT e none (some (.int j b)) none (.ref o k n c)=some (.ref o k b.toNat c):=by
 have h2:Nat.blt c x6=true:=by rw[Nat.blt_eq];unfold x6;omega
 have h3:Nat.beq c 0=false:=TY.2 hc0
 have h4:pA n c none (some (.int j b)) none=some (0,b.toNat,c,false):=by
  simp only[pA,z1,h2,if_true,u6]
  rw[if_pos ⟨h0,h1⟩]
  simp[h3,h2]
 simp only[bT,h4,Option.map_some]
 simp
def fF (dn:List (List UInt8)) (N:Nat):List D:=dn.map sD++List.replicate (N - dn.length) (sD [])
theorem ES (dn:List (List UInt8)) (N:Nat) (h:dn.length≤N):(fF dn N).length=N:=by simp[fF];omega
theorem mA (dn:List (List UInt8)) (x:List UInt8) (N:Nat) (h:dn.length<N):(fF dn N).set dn.length (sD x)=fF (dn++ [x]) N:=by
 unfold fF
 rw[List.set_append_right _ _ (by simp),List.length_map,Nat.sub_self,show N - dn.length=(N - (dn.length+1))+1 by omega,List.replicate_succ,List.length_append]
 simp
theorem ER (dn:List (List UInt8)) (N:Nat) (h:dn.length=N):fF dn N=dn.map sD:=by simp[fF,h]
section
variable (w:World) (n:Nat)
theorem aT1 (l:List UInt8) (c:UInt8) (hl:l.length≤1000000):m7 (EN w (n+5)) 56 [n4 l,n4 [c],.sc (.int .i64 0),.sc (.int .i64 (-1))] (.sl 3 (n7 c l).length ((n7 c l).map sD)) ⟨[],0,0⟩:=by
 refine z8 rfl rfl (fun _ _=>rfl) (Nat.le_of_ble_eq_true rfl) (j4 w) dS rfl fun C hC h0=>?_
 have h1:(ByteArray.mk [c].toArray).size=1:=rfl
 have hne:¬ (ByteArray.mk [c].toArray=ByteArray.mk #[]):=fun h=>by
  have:=congrArg (fun b:ByteArray=>b.data.toList) h
  simp at this
 have hsz:=p9 l
 have hcw:=cE5 c l.length l (Nat.le_refl _)
 have hwl:=(Go.Itp.words_len (c:=c) l.length (s:=l) (Nat.le_refl _)).1
 simp (disch:=first|exact bd (by with_unfolding_all rfl)|(simp only[b9]<;>omega)) only[WA,Nat.reduceEqDiff,Nat.reduceLT,Nat.reduceAdd,Int.reduceLT,Int.reduceNeg,↓reduceIte,reduceCtorEq,c56,hne]
 refine a6 (by rw[hC];exact XR w (n+3) _ l [c] (by omega) (Nat.le_refl 1)) ?_
 generalize hN:Lib.countB ⟨l.toArray⟩ ⟨[c].toArray⟩=N at*
 have hmin:min ((N:Int)+1) (((ByteArray.mk l.toArray).size:Int)+1)=((N+1:Nat):Int):=by rw[hsz];omega
 have hNs:((N+1:Nat):Int) - 1=(N:Int):=by omega
 have hN1:(((N+1:Nat):Int)).toNat=N+1:=by omega
 have hr0:D.sc (Value.string ⟨#[]⟩)::List.replicate N (D.sc (Value.string ⟨#[]⟩))=fF [] (N+1):=by simp[fF,sD,List.replicate_succ]
 simp (disch:=first|omega|exact bd (by with_unfolding_all rfl)|fail) only[WA,Nat.reduceEqDiff,Nat.reduceLT,Int.reduceNeg,↓reduceIte,reduceCtorEq,List.replicate,wE,hmin,hN1,hNs]
 rw[hr0]
 refine B0 (fun m fr st=>∃ (dn:List (List UInt8)) (r:List UInt8),m=r.length∧r.length≤1000000∧n7 c l=dn++n7 c r∧fr= [(0,n4 r),(1,n4 [c]),(2,.sc (.int .i64 0)),(3,.sc (.int .i64 N)),(9,.ref 0 0 (N+1) (N+1)),(10,.sc (.int .i64 dn.length))]∧st=⟨[(0,.row 9 1 false false (fF dn (N+1)))],1,0⟩) l.length ?_ ⟨_,_,.refl _ _,[],l,rfl,hl,rfl,?_,rfl⟩ ?_
 ·rw[hC,l8];unfold G4;omega
 ·simp
 rintro m fr st ⟨dn,r,rfl,hrl,hw,rfl,rfl⟩
 have hdl:dn.length+(n7 c r).length=N+1:=by rw[← hcw,hw,List.length_append]
 have hfl:=ES dn (N+1) (by omega)
 have hfs:=mA dn r (N+1) (by have:=List.length_pos_iff.2 (gU c r);omega)
 rcases W1 c r with hf|⟨x,r',rfl,hf⟩
 ·have hwr:=S1 hf
  rw[hwr] at hw hdl
  have hd:dn.length=N:=by simpa using hdl
  have hcw':(dn++ [r]).length=N+1:=by simp[hd]
  simp (disch:=first|omega|exact bd (by with_unfolding_all rfl)|(simp only[b9]<;>omega)) only[WA,Nat.reduceEqDiff,Nat.reduceLT,↓reduceIte,reduceCtorEq,MO]
  all_goals try (exfalso;omega)
  have hv:=TD 1 0 0 (N+1) (N+1) .i64 ((dn.length:Int)+1) (by omega) (by omega) (by omega) (by omega)
  have hvN:((dn.length:Int)+1).toNat=N+1:=by omega
  rw[hvN] at hv
  simp (disch:=first|exact bd (by with_unfolding_all rfl)|fail) only[WA,Nat.reduceEqDiff,Nat.reduceLT,↓reduceIte,hv]
  refine uH (s:=0) ?_ rfl (.inl (by decide)) h0 rfl
  rw[show D.sc (Value.string ⟨r.toArray⟩)=sD r from rfl,hfs,ER _ _ (by simp;omega),hw,hcw']
  exact HC rfl (by simp[hd])
 ·have hi:=mD x r' hf
  have hwr:=H5 r' hf
  have hlen:(x++c::r').length=x.length+r'.length+1:=by simp;omega
  have hwp:=List.length_pos_iff.2 (gU c r')
  have hdN:dn.length<N:=by rw[hwr] at hdl;simp at hdl;omega
  have e1:=rR (x++c::r') .i64 x.length (by omega) (by rw[hlen];omega)
  have e2:=cM (x++c::r') .i64 ((x.length:Int)+1) (by omega) (by rw[hlen];omega)
  rw[Int.toNat_natCast,List.take_left] at e1
  rw[show ((x.length:Int)+1).toNat=x.length+1 by omega,show (x++c::r').drop (x.length+1)=r' by rw[← List.drop_drop];simp] at e2
  have h1i:((1:Nat):Int)=1:=rfl
  have hfx:=mA dn x (N+1) (by omega)
  simp (disch:=first|omega|exact bd (by with_unfolding_all rfl)|fail) only[WA,Nat.reduceEqDiff,Nat.reduceLT,↓reduceIte,reduceCtorEq,MO]
  refine a6 (by rw[hC];exact YY w (n+3) _ _ [c] (by omega)) ?_
  rw[hi]
  simp (disch:=first|omega|exact bd (by with_unfolding_all rfl)|(simp only[b9]<;>omega)) only[WA,Nat.reduceEqDiff,Nat.reduceLT,↓reduceIte,reduceCtorEq,h1,h1i,e1,e2,Int.add_zero]
  all_goals try (exfalso;omega)
  refine ⟨_,_,_,?_,.refl _ _,dn++ [x],r',rfl,by omega,?_,?_,?_⟩
  ·rw[hlen];omega
  ·rw[hw,hwr];simp
  ·simp
  ·rw[← hfx];rfl
theorem aB4 (l:List UInt8) (c:UInt8) (hl:l.length≤1000000):m7 (EN w (n+6)) 31 [n4 l,n4 [c]] (.sl 3 (n7 c l).length ((n7 c l).map sD)) ⟨[],0,0⟩:=by
 refine z8 rfl rfl (fun _ _=>rfl) (Nat.le_of_ble_eq_true rfl) (j4 w) dS rfl fun C hC h0=>?_
 simp (disch:=first|exact bd (by with_unfolding_all rfl)|fail) only[WA,Nat.reduceEqDiff,Nat.reduceLT,Int.reduceNeg,↓reduceIte,reduceCtorEq,c31]
 refine k8 (by rw[hC];exact aT1 w n l c hl) rfl rfl (fun _=>rfl) ?_
 repeat' (first|(simp (disch:=fail) only[WA,m9,u5,Nat.reduceEqDiff,Nat.reduceLT,Nat.reduceAdd,Nat.reduceBEq,Int.reduceAdd,Int.reduceSub,Int.reduceLT,Int.reduceLE,Int.reduceEq,Int.reduceNeg,↓reduceIte,reduceCtorEq,List.replicate])|apply y8|((first|apply H9|apply B4|apply C8|apply J0|apply H8|apply C9)<;>intro _))
 exact v6 [] 0 h0 rfl rfl rfl rfl
theorem aF9 (l:List UInt8) (hl:l.length≤1000000):m7 (EN w (n+5)) 56 [n4 l,n4 [44,32],.sc (.int .i64 0),.sc (.int .i64 (-1))] (.sl 3 (v7 l).length ((v7 l).map sD)) ⟨[],0,0⟩:=by
 refine z8 rfl rfl (fun _ _=>rfl) (Nat.le_of_ble_eq_true rfl) (j4 w) dS rfl fun C hC h0=>?_
 have h1:(ByteArray.mk #[44,32]).size=2:=rfl
 have hne:¬ (ByteArray.mk #[44,32]=ByteArray.mk #[]):=fun h=>by
  have:=congrArg (fun b:ByteArray=>b.data.toList) h
  simp at this
 have hsz:=p9 l
 have hcw:=cE6 l.length l (Nat.le_refl _)
 have hwl:=iS l
 simp (disch:=first|exact bd (by with_unfolding_all rfl)|(simp only[b9]<;>omega)) only[WA,Nat.reduceEqDiff,Nat.reduceLT,Nat.reduceAdd,Int.reduceLT,Int.reduceNeg,↓reduceIte,reduceCtorEq,c56,hne]
 refine a6 (by rw[hC];exact XR w (n+3) _ l [44,32] (by omega) (by decide)) ?_
 generalize hN:Lib.countB ⟨l.toArray⟩ ⟨#[44,32]⟩=N at*
 have hmin:min ((N:Int)+1) (((ByteArray.mk l.toArray).size:Int)+1)=((N+1:Nat):Int):=by rw[hsz];omega
 have hNs:((N+1:Nat):Int) - 1=(N:Int):=by omega
 have hN1:(((N+1:Nat):Int)).toNat=N+1:=by omega
 have hr0:D.sc (Value.string ⟨#[]⟩)::List.replicate N (D.sc (Value.string ⟨#[]⟩))=fF [] (N+1):=by simp[fF,sD,List.replicate_succ]
 simp (disch:=first|omega|exact bd (by with_unfolding_all rfl)|fail) only[WA,Nat.reduceEqDiff,Nat.reduceLT,Int.reduceNeg,↓reduceIte,reduceCtorEq,List.replicate,wE,hmin,hN1,hNs]
 rw[hr0]
 refine B0 (fun m fr st=>∃ (dn:List (List UInt8)) (r:List UInt8),m=r.length∧r.length≤1000000∧v7 l=dn++v7 r∧fr= [(0,n4 r),(1,n4 [44,32]),(2,.sc (.int .i64 0)),(3,.sc (.int .i64 N)),(9,.ref 0 0 (N+1) (N+1)),(10,.sc (.int .i64 dn.length))]∧st=⟨[(0,.row 9 1 false false (fF dn (N+1)))],1,0⟩) l.length ?_ ⟨_,_,.refl _ _,[],l,rfl,hl,rfl,?_,rfl⟩ ?_
 ·rw[hC,l8];unfold G4;omega
 ·simp
 rintro m fr st ⟨dn,r,rfl,hrl,hw,rfl,rfl⟩
 have hdl:dn.length+(v7 r).length=N+1:=by rw[← hcw,hw,List.length_append]
 have hfl:=ES dn (N+1) (by omega)
 have hfs:=mA dn r (N+1) (by have:=List.length_pos_iff.2 (tZ r);omega)
 rcases oO r with ⟨hi0,hwr⟩|⟨x,r',rfl,hi,hwr⟩
 ·rw[hwr] at hw hdl
  have hd:dn.length=N:=by simpa using hdl
  have hcw':(dn++ [r]).length=N+1:=by simp[hd]
  simp (disch:=first|omega|exact bd (by with_unfolding_all rfl)|(simp only[b9]<;>omega)) only[WA,Nat.reduceEqDiff,Nat.reduceLT,↓reduceIte,reduceCtorEq,MO]
  all_goals try (exfalso;omega)
  have hv:=TD 1 0 0 (N+1) (N+1) .i64 ((dn.length:Int)+1) (by omega) (by omega) (by omega) (by omega)
  have hvN:((dn.length:Int)+1).toNat=N+1:=by omega
  rw[hvN] at hv
  simp (disch:=first|exact bd (by with_unfolding_all rfl)|fail) only[WA,Nat.reduceEqDiff,Nat.reduceLT,↓reduceIte,hv]
  refine uH (s:=0) ?_ rfl (.inl (by decide)) h0 rfl
  rw[show D.sc (Value.string ⟨r.toArray⟩)=sD r from rfl,hfs,ER _ _ (by simp;omega),hw,hcw']
  exact HC rfl (by simp[hd])
 ·have hlen:(x++44::32::r').length=x.length+r'.length+2:=by simp;omega
  have hwp:=List.length_pos_iff.2 (tZ r')
  have hdN:dn.length<N:=by rw[hwr] at hdl;simp at hdl;omega
  have e1:=rR (x++44::32::r') .i64 x.length (by omega) (by rw[hlen];omega)
  have e2:=cM (x++44::32::r') .i64 ((x.length:Int)+2) (by omega) (by rw[hlen];omega)
  rw[Int.toNat_natCast,List.take_left] at e1
  rw[show ((x.length:Int)+2).toNat=x.length+2 by omega,show (x++44::32::r').drop (x.length+2)=r' by rw[← List.drop_drop];simp] at e2
  have h1i:((2:Nat):Int)=2:=rfl
  have hfx:=mA dn x (N+1) (by omega)
  simp (disch:=first|omega|exact bd (by with_unfolding_all rfl)|fail) only[WA,Nat.reduceEqDiff,Nat.reduceLT,↓reduceIte,reduceCtorEq,MO]
  refine a6 (by rw[hC];exact YY w (n+3) _ _ [44,32] (by omega)) ?_
  rw[hi]
  simp (disch:=first|omega|exact bd (by with_unfolding_all rfl)|(simp only[b9]<;>omega)) only[WA,Nat.reduceEqDiff,Nat.reduceLT,↓reduceIte,reduceCtorEq,h1,h1i,e1,e2,Int.add_zero]
  all_goals try (exfalso;omega)
  refine ⟨_,_,_,?_,.refl _ _,dn++ [x],r',rfl,by omega,?_,?_,?_⟩
  ·rw[hlen];omega
  ·rw[hw,hwr];simp
  ·simp
  ·rw[← hfx];rfl
theorem bA4 (l:List UInt8) (hl:l.length≤1000000):m7 (EN w (n+6)) 31 [n4 l,n4 [44,32]] (.sl 3 (v7 l).length ((v7 l).map sD)) ⟨[],0,0⟩:=by
 refine z8 rfl rfl (fun _ _=>rfl) (Nat.le_of_ble_eq_true rfl) (j4 w) dS rfl fun C hC h0=>?_
 simp (disch:=first|exact bd (by with_unfolding_all rfl)|fail) only[WA,Nat.reduceEqDiff,Nat.reduceLT,Int.reduceNeg,↓reduceIte,reduceCtorEq,c31]
 refine k8 (by rw[hC];exact aF9 w n l hl) rfl rfl (fun _=>rfl) ?_
 repeat' (first|(simp (disch:=fail) only[WA,m9,u5,Nat.reduceEqDiff,Nat.reduceLT,Nat.reduceAdd,Nat.reduceBEq,Int.reduceAdd,Int.reduceSub,Int.reduceLT,Int.reduceLE,Int.reduceEq,Int.reduceNeg,↓reduceIte,reduceCtorEq,List.replicate])|apply y8|((first|apply H9|apply B4|apply C8|apply J0|apply H8|apply C9)<;>intro _))
 exact v6 [] 0 h0 rfl rfl rfl rfl
end
set_option maxHeartbeats 400000
section
variable (w:World) (n:Nat)
theorem OV (s p:List UInt8) (hs:s.length≤1000000):m7 (EN w (n+1)) 88 [n4 s,n4 p] (.sc (.bool (z7 p s).isSome)) ⟨[],0,0⟩:=by
 have h1:=p9 s
 have h2:=p9 p
 unfold z7
 by_cases hl:p.length≤s.length
 ·have e1:=rR s .i64 p.length (by omega) (by omega)
  rw[Int.toNat_natCast] at e1
  by_cases he:s.take p.length=p
  ·rw[if_pos ⟨hl,he⟩]
   rw[he] at e1
   refine d7 rfl rfl (fun _ _=>rfl) (Nat.le_of_ble_eq_true rfl) (j4 w) rfl fun C hC h0=>?_
   simp (disch:=first|omega|exact bd (by with_unfolding_all rfl)|(simp only[b9]<;>omega)) only[WA,Nat.reduceEqDiff,Nat.reduceLT,↓reduceIte,reduceCtorEq,c88,h1,h2,e1]
   all_goals try (exfalso;omega)
   exact d6 rfl h0 rfl
  ·rw[if_neg fun h=>he h.2]
   have he2:¬ ((⟨(s.take p.length).toArray⟩:ByteArray)=⟨p.toArray⟩):=by rw[bW];exact he
   generalize s.take p.length=T at*
   refine d7 rfl rfl (fun _ _=>rfl) (Nat.le_of_ble_eq_true rfl) (j4 w) rfl fun C hC h0=>?_
   simp (disch:=first|omega|exact bd (by with_unfolding_all rfl)|fail) only[WA,Nat.reduceEqDiff,Nat.reduceLT,↓reduceIte,reduceCtorEq,c88,h1,h2,e1,he2]
   all_goals try (exfalso;omega)
   exact d6 rfl h0 rfl
 ·rw[if_neg fun h=>hl h.1]
  refine d7 rfl rfl (fun _ _=>rfl) (Nat.le_of_ble_eq_true rfl) (j4 w) rfl fun C hC h0=>?_
  simp (disch:=first|omega|exact bd (by with_unfolding_all rfl)|fail) only[WA,Nat.reduceEqDiff,Nat.reduceLT,↓reduceIte,reduceCtorEq,c88,h1,h2]
  all_goals try (exfalso;omega)
  exact d6 rfl h0 rfl
theorem cP {p s t:List UInt8} (h:z7 p s=some t):p.length≤s.length∧t=s.drop p.length:=by
 unfold z7 at h
 split at h
 ·rename_i hc;cases h;exact ⟨hc.1,rfl⟩
 ·cases h
theorem sN {p s t:List UInt8} (h:M3 p s=some t):p.length≤s.length∧t=s.take (s.length - p.length):=by
 unfold M3 at h
 split at h
 ·rename_i hc;cases h;exact ⟨hc.1,rfl⟩
 ·cases h
theorem aE7 (s p:List UInt8) (hs:s.length≤1000000):m7 (EN w (n+2)) 66 [n4 s,n4 p] (.tup [n4 ((z7 p s).getD s),.sc (.bool (z7 p s).isSome)]) ⟨[],0,0⟩:=by
 have h1:=p9 s
 have h2:=p9 p
 have hh:=OV w n s p hs
 cases hc:z7 p s with
 |none=>
  rw[hc] at hh
  refine d7 rfl rfl (fun _ _=>rfl) (Nat.le_of_ble_eq_true rfl) (j4 w) rfl fun C hC h0=>?_
  simp (disch:=first|exact bd (by with_unfolding_all rfl)|fail) only[WA,Nat.reduceEqDiff,Nat.reduceLT,↓reduceIte,reduceCtorEq,c66]
  refine a6 (by rw[hC];exact hh.flat rfl rfl) ?_
  simp (disch:=first|exact bd (by with_unfolding_all rfl)|fail) only[WA,Nat.reduceEqDiff,Nat.reduceLT,↓reduceIte,reduceCtorEq,Option.isSome_none]
  exact d6 rfl h0 rfl
 |some t=>
  rw[hc] at hh
  obtain ⟨hl,ht⟩:=cP hc
  have e1:=cM s .i64 p.length (by omega) (by omega)
  rw[Int.toNat_natCast,← ht] at e1
  refine d7 rfl rfl (fun _ _=>rfl) (Nat.le_of_ble_eq_true rfl) (j4 w) rfl fun C hC h0=>?_
  simp (disch:=first|exact bd (by with_unfolding_all rfl)|fail) only[WA,Nat.reduceEqDiff,Nat.reduceLT,↓reduceIte,reduceCtorEq,c66]
  refine a6 (by rw[hC];exact hh.flat rfl rfl) ?_
  simp (disch:=first|exact bd (by with_unfolding_all rfl)|fail) only[WA,Nat.reduceEqDiff,Nat.reduceLT,↓reduceIte,reduceCtorEq,Option.isSome_some,h2,e1]
  exact d6 rfl h0 rfl
theorem xS (s p:List UInt8) (hs:s.length≤1000000):m7 (EN w (n+3)) 40 [n4 s,n4 p] (.tup [n4 ((z7 p s).getD s),.sc (.bool (z7 p s).isSome)]) ⟨[],0,0⟩:=by
 have hh:=aE7 w n s p hs
 generalize (z7 p s).getD s=T at*
 generalize (z7 p s).isSome=B at*
 refine d7 rfl rfl (fun _ _=>rfl) (Nat.le_of_ble_eq_true rfl) (j4 w) rfl fun C hC h0=>?_
 simp (disch:=first|exact bd (by with_unfolding_all rfl)|fail) only[WA,Nat.reduceEqDiff,Nat.reduceLT,↓reduceIte,reduceCtorEq,c40]
 refine a6 (by rw[hC];exact hh.flat rfl rfl) ?_
 simp (disch:=first|exact bd (by with_unfolding_all rfl)|fail) only[WA,Nat.reduceEqDiff,Nat.reduceLT,↓reduceIte,reduceCtorEq]
 exact d6 rfl h0 rfl
theorem WX (s p:List UInt8) (hs:s.length≤1000000):m7 (EN w (n+2)) 83 [n4 s,n4 p] (n4 ((z7 p s).getD s)) ⟨[],0,0⟩:=by
 have h1:=p9 s
 have h2:=p9 p
 have hh:=OV w n s p hs
 cases hc:z7 p s with
 |none=>
  rw[hc] at hh
  refine d7 rfl rfl (fun _ _=>rfl) (Nat.le_of_ble_eq_true rfl) (j4 w) rfl fun C hC h0=>?_
  simp (disch:=first|exact bd (by with_unfolding_all rfl)|fail) only[WA,Nat.reduceEqDiff,Nat.reduceLT,↓reduceIte,reduceCtorEq,c83]
  refine a6 (by rw[hC];exact hh.flat rfl rfl) ?_
  simp (disch:=first|exact bd (by with_unfolding_all rfl)|fail) only[WA,Nat.reduceEqDiff,Nat.reduceLT,↓reduceIte,reduceCtorEq,Option.isSome_none]
  exact d6 rfl h0 rfl
 |some t=>
  rw[hc] at hh
  obtain ⟨hl,ht⟩:=cP hc
  have e1:=cM s .i64 p.length (by omega) (by omega)
  rw[Int.toNat_natCast,← ht] at e1
  refine d7 rfl rfl (fun _ _=>rfl) (Nat.le_of_ble_eq_true rfl) (j4 w) rfl fun C hC h0=>?_
  simp (disch:=first|exact bd (by with_unfolding_all rfl)|fail) only[WA,Nat.reduceEqDiff,Nat.reduceLT,↓reduceIte,reduceCtorEq,c83]
  refine a6 (by rw[hC];exact hh.flat rfl rfl) ?_
  simp (disch:=first|exact bd (by with_unfolding_all rfl)|fail) only[WA,Nat.reduceEqDiff,Nat.reduceLT,↓reduceIte,reduceCtorEq,Option.isSome_some,h2,e1]
  exact d6 rfl h0 rfl
theorem aK5 (s p:List UInt8) (hs:s.length≤1000000):m7 (EN w (n+3)) 59 [n4 s,n4 p] (n4 ((z7 p s).getD s)) ⟨[],0,0⟩:=by
 have hh:=WX w n s p hs
 generalize (z7 p s).getD s=T at*
 refine d7 rfl rfl (fun _ _=>rfl) (Nat.le_of_ble_eq_true rfl) (j4 w) rfl fun C hC h0=>?_
 simp (disch:=first|exact bd (by with_unfolding_all rfl)|fail) only[WA,Nat.reduceEqDiff,Nat.reduceLT,↓reduceIte,reduceCtorEq,c59]
 refine a6 (by rw[hC];exact hh.flat rfl rfl) ?_
 repeat' (first|(simp (disch:=fail) only[WA,m9,u5,Nat.reduceEqDiff,Nat.reduceLT,Nat.reduceAdd,Nat.reduceBEq,Int.reduceAdd,Int.reduceSub,Int.reduceLT,Int.reduceLE,Int.reduceEq,Int.reduceNeg,↓reduceIte,reduceCtorEq,List.replicate])|apply y8|((first|apply H9|apply B4|apply C8|apply J0|apply H8|apply C9)<;>intro _))
 exact d6 rfl h0 rfl
theorem aT2 (s p:List UInt8) (hs:s.length≤1000000):m7 (EN w (n+1)) 87 [n4 s,n4 p] (.sc (.bool (M3 p s).isSome)) ⟨[],0,0⟩:=by
 have h1:=p9 s
 have h2:=p9 p
 unfold M3
 by_cases hl:p.length≤s.length
 ·have e1:=cM s .i64 ((s.length:Int) - p.length) (by omega) (by omega)
  rw[show ((s.length:Int) - p.length).toNat=s.length - p.length from by omega] at e1
  by_cases he:s.drop (s.length - p.length)=p
  ·rw[if_pos ⟨hl,he⟩]
   rw[he] at e1
   refine d7 rfl rfl (fun _ _=>rfl) (Nat.le_of_ble_eq_true rfl) (j4 w) rfl fun C hC h0=>?_
   simp (disch:=first|omega|exact bd (by with_unfolding_all rfl)|(simp only[b9]<;>omega)) only[WA,Nat.reduceEqDiff,Nat.reduceLT,↓reduceIte,reduceCtorEq,c87,h1,h2,e1]
   all_goals try (exfalso;omega)
   exact d6 rfl h0 rfl
  ·rw[if_neg fun h=>he h.2]
   have he2:¬ ((⟨(s.drop (s.length - p.length)).toArray⟩:ByteArray)=⟨p.toArray⟩):=by rw[bW];exact he
   generalize s.drop (s.length - p.length)=T at*
   refine d7 rfl rfl (fun _ _=>rfl) (Nat.le_of_ble_eq_true rfl) (j4 w) rfl fun C hC h0=>?_
   simp (disch:=first|omega|exact bd (by with_unfolding_all rfl)|fail) only[WA,Nat.reduceEqDiff,Nat.reduceLT,↓reduceIte,reduceCtorEq,c87,h1,h2,e1,he2]
   all_goals try (exfalso;omega)
   exact d6 rfl h0 rfl
 ·rw[if_neg fun h=>hl h.1]
  refine d7 rfl rfl (fun _ _=>rfl) (Nat.le_of_ble_eq_true rfl) (j4 w) rfl fun C hC h0=>?_
  simp (disch:=first|omega|exact bd (by with_unfolding_all rfl)|fail) only[WA,Nat.reduceEqDiff,Nat.reduceLT,↓reduceIte,reduceCtorEq,c87,h1,h2]
  all_goals try (exfalso;omega)
  exact d6 rfl h0 rfl
theorem aE8 (s p:List UInt8) (hs:s.length≤1000000):m7 (EN w (n+2)) 65 [n4 s,n4 p] (.tup [n4 ((M3 p s).getD s),.sc (.bool (M3 p s).isSome)]) ⟨[],0,0⟩:=by
 have h1:=p9 s
 have h2:=p9 p
 have hh:=aT2 w n s p hs
 cases hc:M3 p s with
 |none=>
  rw[hc] at hh
  refine d7 rfl rfl (fun _ _=>rfl) (Nat.le_of_ble_eq_true rfl) (j4 w) rfl fun C hC h0=>?_
  simp (disch:=first|exact bd (by with_unfolding_all rfl)|fail) only[WA,Nat.reduceEqDiff,Nat.reduceLT,↓reduceIte,reduceCtorEq,c65]
  refine a6 (by rw[hC];exact hh.flat rfl rfl) ?_
  simp (disch:=first|exact bd (by with_unfolding_all rfl)|fail) only[WA,Nat.reduceEqDiff,Nat.reduceLT,↓reduceIte,reduceCtorEq,Option.isSome_none]
  exact d6 rfl h0 rfl
 |some t=>
  rw[hc] at hh
  obtain ⟨hl,ht⟩:=sN hc
  have e1:=rR s .i64 ((s.length:Int) - p.length) (by omega) (by omega)
  rw[show ((s.length:Int) - p.length).toNat=s.length - p.length from by omega,← ht] at e1
  refine d7 rfl rfl (fun _ _=>rfl) (Nat.le_of_ble_eq_true rfl) (j4 w) rfl fun C hC h0=>?_
  simp (disch:=first|exact bd (by with_unfolding_all rfl)|fail) only[WA,Nat.reduceEqDiff,Nat.reduceLT,↓reduceIte,reduceCtorEq,c65]
  refine a6 (by rw[hC];exact hh.flat rfl rfl) ?_
  simp (disch:=first|omega|exact bd (by with_unfolding_all rfl)|fail) only[WA,Nat.reduceEqDiff,Nat.reduceLT,↓reduceIte,reduceCtorEq,Option.isSome_some,h1,h2,e1]
  exact d6 rfl h0 rfl
theorem xU (s p:List UInt8) (hs:s.length≤1000000):m7 (EN w (n+3)) 39 [n4 s,n4 p] (.tup [n4 ((M3 p s).getD s),.sc (.bool (M3 p s).isSome)]) ⟨[],0,0⟩:=by
 have hh:=aE8 w n s p hs
 generalize (M3 p s).getD s=T at*
 generalize (M3 p s).isSome=B at*
 refine d7 rfl rfl (fun _ _=>rfl) (Nat.le_of_ble_eq_true rfl) (j4 w) rfl fun C hC h0=>?_
 simp (disch:=first|exact bd (by with_unfolding_all rfl)|fail) only[WA,Nat.reduceEqDiff,Nat.reduceLT,↓reduceIte,reduceCtorEq,c39]
 refine a6 (by rw[hC];exact hh.flat rfl rfl) ?_
 simp (disch:=first|exact bd (by with_unfolding_all rfl)|fail) only[WA,Nat.reduceEqDiff,Nat.reduceLT,↓reduceIte,reduceCtorEq]
 exact d6 rfl h0 rfl
theorem NJ (s:List UInt8):(L3 s).length≤4∧(L3 s).length≤s.length∧L3 s=s.take (L3 s).length∧(∀ i,i<(L3 s).length→C5 s[i]! =true)∧((L3 s).length<4→(L3 s).length<s.length→C5 s[(L3 s).length]! =false):=by
 have aux:∀ (m:Nat) (l:List UInt8),((l.take m).takeWhile C5).length≤m∧((l.take m).takeWhile C5).length≤l.length∧(l.take m).takeWhile C5=l.take ((l.take m).takeWhile C5).length∧(∀ i,i<((l.take m).takeWhile C5).length→C5 l[i]! =true)∧(((l.take m).takeWhile C5).length<m→((l.take m).takeWhile C5).length<l.length→C5 l[((l.take m).takeWhile C5).length]! =false):=by
  intro m
  induction m with
  |zero=>intro l;simp
  |succ m ih=>
   intro l
   cases l with
   |nil=>simp
   |cons c l=>
    obtain ⟨h1,h2,h3,h4,h5⟩:=ih l
    rw[List.take_succ_cons,List.takeWhile_cons]
    cases hc:C5 c with
    |false=>simp[hc]
    |true=>
     simp only[if_true,List.length_cons,List.take_succ_cons]
     refine ⟨by omega,by omega,by rw[← h3],fun i hi=>?_,fun a b=>?_⟩
     ·cases i with
      |zero=>simpa using hc
      |succ i=>simpa using h4 i (by omega)
     ·have:=h5 (by omega) (by omega)
      simpa using this
 exact aux 4 s
theorem aK6 {s:List UInt8} {k:Nat} (hk:k<s.length):bQ (s.take (k+1))=10*bQ (s.take k)+((s[k]!.toNat:Int) - 48):=by
 rw[List.take_succ_eq_append_getElem hk,uC,getElem!_pos s k hk]
theorem WZ:∀ (n:Nat) (l:List UInt8),l.length=n→(∀ c ∈ l,C5 c=true)→0≤bQ l∧bQ l<10 ^ l.length:=by
 intro n
 induction n with
 |zero=>
  intro l hl _
  have:=List.eq_nil_of_length_eq_zero hl
  subst this
  simp[bQ]
 |succ n ih=>
  intro l hl h
  rcases List.eq_nil_or_concat l with rfl|⟨q,d,rfl⟩
  ·simp at hl
  ·have h1:=ih q (by simpa using hl) fun c hc=>h c (by simp[hc])
   have h2:=h d (by simp)
   simp only[C5,Bool.and_eq_true,decide_eq_true_eq] at h2
   rw[List.concat_eq_append,uC,List.length_append,List.length_singleton,Int.pow_succ]
   omega
theorem cH8 {s:List UInt8} {k:Nat} (hk:k≤(L3 s).length):0≤bQ (s.take k)∧bQ (s.take k)<10000:=by
 obtain ⟨h1,h2,h3,h4,h5⟩:=NJ s
 have hb:=WZ _ (s.take k) rfl fun c hc=>by
  obtain ⟨i,hi,rfl⟩:=List.mem_iff_getElem.1 hc
  rw[List.length_take] at hi
  have:=h4 i (by omega)
  rw[getElem!_pos s i (by omega)] at this
  rw[List.getElem_take];exact this
 refine ⟨hb.1,Int.lt_of_lt_of_le hb.2 ?_⟩
 have hl:(s.take k).length≤4:=by rw[List.length_take];omega
 rcases (by omega:(s.take k).length=0∨(s.take k).length=1∨(s.take k).length=2∨(s.take k).length=3∨(s.take k).length=4) with h|h|h|h|h<;>rw[h]<;>decide
theorem PT (s:List UInt8) (hs:s.length≤1000000):m7 (EN w (n+1)) 58 [n4 s] (.tup [.sc (.int .i64 (bQ (L3 s))),n4 (gA s),.sc (.bool (decide (L3 s ≠ [])))]) ⟨[],0,0⟩:=by
 refine d7 rfl rfl (fun _ _=>rfl) (Nat.le_of_ble_eq_true rfl) (j4 w) rfl fun C hC h0=>?_
 have hrn:C.E.rounds=G4:=by rw[hC,l8]
 have hsz:=p9 s
 obtain ⟨h1,h2,h3,h4,h5⟩:=NJ s
 have hv:=fun k (hk:k≤(L3 s).length)=>cH8 hk
 have hne:decide (L3 s ≠ [])=decide (0<(L3 s).length):=by
  rw[Bool.eq_iff_iff,decide_eq_true_iff,decide_eq_true_iff,List.length_pos_iff]
 rw[hne]
 unfold gA
 have hval:bQ (L3 s)=bQ (s.take (L3 s).length):=congrArg bQ h3
 rw[hval]
 generalize (L3 s).length=d at*
 simp (disch:=first|exact bd (by with_unfolding_all rfl)|fail) only[WA,Nat.reduceEqDiff,Nat.reduceLT,↓reduceIte,reduceCtorEq,c58]
 refine B0 (fun m fr st=>∃ k:Nat,m=d - k∧k≤d∧fr= [(0,n4 s),(2,.sc (.int .i64 (bQ (s.take k)))),(5,.sc (.int .i64 k))]∧st=⟨[],0,0⟩) d ?_ ⟨_,_,.refl _ _,0,by omega,Nat.zero_le _,rfl,rfl⟩ ?_
 ·rw[hrn];unfold G4;omega
 rintro m fr st ⟨k,rfl,hk,rfl,rfl⟩
 have hvk:=hv k hk
 by_cases hlt:k<d
 ·have hdg:=h4 k hlt
  have hb:=Y1 s .i64 k (by omega) (by omega)
  rw[Int.toNat_natCast] at hb
  have hst:=aK6 (s:=s) (k:=k) (by omega)
  have hvk1:=hv (k+1) hlt
  simp only[C5,Bool.and_eq_true,decide_eq_true_eq] at hdg
  generalize s[k]!.toNat=b at*
  generalize bQ (s.take k)=v at*
  have e1:IntKind.u8.wrap ((b:Int) - 48)=((b - 48:Nat):Int):=by rw[wM _ (by omega) (by omega)];omega
  simp (disch:=first|omega|exact bd (by with_unfolding_all rfl)|fail) only[WA,Nat.reduceEqDiff,Nat.reduceLT,↓reduceIte,reduceCtorEq,MP,hsz,hb,e1]
  all_goals try (exfalso;omega)
  refine ⟨_,_,_,by omega,.refl _ _,k+1,rfl,hlt,?_,rfl⟩
  rw[hst,show (b:Int) - 48=((b - 48:Nat):Int) from by omega]
  rfl
 ·have:k=d:=by omega
  subst this
  have e1:=cM s .i64 k (by omega) (by omega)
  rw[Int.toNat_natCast] at e1
  by_cases hb4:k<4∧k<s.length
  ·have hdg:=h5 hb4.1 hb4.2
   have hb:=Y1 s .i64 k (by omega) (by omega)
   rw[Int.toNat_natCast] at hb
   have hdg2:¬ (48≤s[k]!.toNat∧s[k]!.toNat≤57):=fun h=>by
    have:C5 s[k]! =true:=by simp only[C5,Bool.and_eq_true,decide_eq_true_eq];exact h
    rw[hdg] at this;cases this
   generalize s[k]!.toNat=b at*
   generalize bQ (s.take k)=v at*
   rcases (by omega:b<48∨57<b) with h|h
   all_goals
    repeat' (first|(simp (disch:=first|omega|exact bd (by with_unfolding_all rfl)|fail) only[WA,m9,u5,Nat.reduceEqDiff,Nat.reduceLT,↓reduceIte,reduceCtorEq,MP,hsz,hb,e1])|apply y8|((first|apply H9|apply B4|apply C8|apply J0|apply H8|apply C9)<;>intro _))
    all_goals try (exfalso;omega)
    rw[show decide ((0:Int)<k)=decide (0<k) from decide_eq_decide.2 (by omega)]
    exact d6 rfl h0 rfl
  ·generalize bQ (s.take k)=v at*
   rcases (by omega:¬ k<s.length∨(k<s.length∧¬ k<4)) with h|h
   ·simp (disch:=first|omega|exact bd (by with_unfolding_all rfl)|fail) only[WA,m9,u5,Nat.reduceEqDiff,Nat.reduceLT,↓reduceIte,reduceCtorEq,MP,hsz,e1]
    all_goals try (exfalso;omega)
    rw[show decide ((0:Int)<k)=decide (0<k) from decide_eq_decide.2 (by omega)]
    exact d6 rfl h0 rfl
   ·simp (disch:=first|omega|exact bd (by with_unfolding_all rfl)|fail) only[WA,m9,u5,Nat.reduceEqDiff,Nat.reduceLT,↓reduceIte,reduceCtorEq,MP,hsz,e1]
    all_goals try (exfalso;omega)
    exact d6 rfl h0 rfl
end
def kP:Option (List Int × List UInt8)→V
 |none=> .tup [.sl 3 0 [],n4 [],.sc (.bool false)]
 |some (m,r)=> .tup [.sl 3 m.length (m.map iD),n4 r,.sc (.bool true)]
theorem GQ (nx t:Nat) (z:Int):M7 nx t 1 1 [.int .i64 0] [(0,1,.sc (.int .i64 z))]=some (.ref nx 0 1 1,some (.row t 1 false false [.sc (.int .i64 z)]),[]):=(rfl)
theorem bA2 {H:F3} {o t n:Nat} {z:Bool} {l:List D} (h:d9 H o=some (.gro t 1 z l)) (hl:l.length=n):w6 H (.gr 2 o n)=some (.sl 2 n l):=by
 simp only[w6,eC,h,Nat.mul_one]
 rw[if_pos ⟨hl,by decide,by decide,by decide⟩]
 rfl
theorem GK (s:List UInt8):(gA s).length≤s.length:=by unfold gA;rw[List.length_drop];omega
section
variable (w:World) (n:Nat)
theorem KE (s form:List UInt8) (hs:s.length≤100000) (hf:form.length≤1000):m7 (EN w (n+7)) 38 [n4 s,n4 form] (kP (C6 (n7 35 form) s)) ⟨[],0,0⟩:=by
 have hsp:=aB4 w n form 35 (by omega)
 have hwl:=(Go.Itp.words_len (c:=35) form.length (s:=form) (Nat.le_refl _))
 have hwn:=gU 35 form
 generalize n7 35 form=f at*
 refine z8 rfl rfl (fun _ _=>rfl) (Nat.le_of_ble_eq_true rfl) (j4 w) (by cases C6 f s<;>exact WP) rfl fun C hC h0=>?_
 have hrn:C.E.rounds=G4:=by rw[hC,l8]
 simp (disch:=first|exact bd (by with_unfolding_all rfl)|fail) only[WA,Nat.reduceEqDiff,Nat.reduceLT,↓reduceIte,reduceCtorEq,c38]
 refine k8 (by rw[hC];exact hsp) rfl rfl (fun _=>rfl) ?_
 simp (disch:=first|exact bd (by with_unfolding_all rfl)|fail) only[WA,Nat.reduceEqDiff,Nat.reduceLT,↓reduceIte,reduceCtorEq]
 refine B0 (fun m fr st=>∃ (k:Nat) (t:List UInt8) (l:List Int),m=f.length - k∧k≤f.length∧t.length≤s.length∧l.length≤k∧(if k=0 then t=s∧l= [] else C6 f s=W4 (f.drop k) t l)∧fr= [(0,n4 t),(4,.gr 2 0 l.length),(17,.sl 3 f.length (f.map sD)),(18,.sc (.int .i64 f.length)),(19,.sc (.int .i64 k))]∧st=⟨[(0,.gro 3 1 false (l.map iD))],1,0⟩) f.length ?_ ⟨_,_,N8 4 3 1 rfl,0,s,[],by omega,Nat.zero_le _,Nat.le_refl _,Nat.le_refl _,by rw[if_pos rfl];exact ⟨rfl,rfl⟩,rfl,rfl⟩ ?_
 ·rw[hrn];unfold G4;omega
 rintro m fr st ⟨k,t,l,rfl,hk,htl,hll,hinv,rfl,rfl⟩
 by_cases hlt:k<f.length
 ·have hfk:f.drop k=f[k]! ::f.drop (k+1):=by rw[List.drop_eq_getElem_cons hlt,getElem!_pos f k hlt]
  have hpl:f[k]!.length≤1000:=by
   have:=hwl.2 f[k]! (by rw[getElem!_pos f k hlt];exact List.getElem_mem hlt)
   omega
  generalize hp:f[k]! =p at*
  by_cases hk0:k=0
  ·subst hk0
   rw[if_pos rfl] at hinv
   obtain ⟨rfl,rfl⟩:=hinv
   have hcp:=xS w (n+3) t p (by omega)
   rw[List.drop_zero] at hfk
   have hm:C6 f t=match z7 p t with
     |none=>none
     |some t'=>W4 (f.drop 1) t' []:=by rw[hfk];rfl
   cases hc:z7 p t with
   |none=>
    rw[hc] at hcp hm
    rw[hm]
    simp (disch:=first|omega|exact bd (by with_unfolding_all rfl)|fail) only[WA,Nat.reduceEqDiff,Nat.reduceLT,↓reduceIte,reduceCtorEq,xJ,hp]
    all_goals try (exfalso;omega)
    refine a6 (by rw[hC];exact hcp.flat rfl rfl) ?_
    simp (disch:=first|exact bd (by with_unfolding_all rfl)|fail) only[WA,Nat.reduceEqDiff,Nat.reduceLT,↓reduceIte,reduceCtorEq,Option.isSome_none]
    exact iY h0 rfl
   |some t'=>
    rw[hc] at hcp hm
    have hle:=cP hc
    have htl':t'.length≤t.length:=by rw[hle.2,List.length_drop];omega
    simp (disch:=first|omega|exact bd (by with_unfolding_all rfl)|fail) only[WA,Nat.reduceEqDiff,Nat.reduceLT,↓reduceIte,reduceCtorEq,xJ,hp]
    all_goals try (exfalso;omega)
    refine a6 (by rw[hC];exact hcp.flat rfl rfl) ?_
    simp (disch:=first|omega|exact bd (by with_unfolding_all rfl)|fail) only[WA,Nat.reduceEqDiff,Nat.reduceLT,↓reduceIte,reduceCtorEq,Option.isSome_some,Option.getD_some]
    exact ⟨f.length - 1,_,_,by omega,.refl _ _,1,t',[],rfl,by omega,htl',Nat.zero_le _,by rw[if_neg (by decide)];exact hm,rfl,rfl⟩
  ·rw[if_neg hk0] at hinv
   rw[hfk,W4] at hinv
   have hnum:=PT w (n+5) t (by omega)
   by_cases hd:L3 t= []
   ·rw[if_pos hd] at hinv
    rw[hinv]
    rw[hd,show decide (([]:List UInt8) ≠ [])=false from rfl] at hnum
    simp (disch:=first|omega|exact bd (by with_unfolding_all rfl)|fail) only[WA,Nat.reduceEqDiff,Nat.reduceLT,↓reduceIte,reduceCtorEq,xJ,hp]
    all_goals try (exfalso;omega)
    refine a6 (by rw[hC];exact hnum.flat rfl rfl) ?_
    simp (disch:=first|exact bd (by with_unfolding_all rfl)|fail) only[WA,Nat.reduceEqDiff,Nat.reduceLT,↓reduceIte,reduceCtorEq]
    exact iY h0 rfl
   ·rw[if_neg hd] at hinv
    rw[decide_eq_true hd] at hnum
    have hrl:=GK t
    generalize bQ (L3 t)=v at*
    generalize gA t=r at*
    have hcp:=xS w (n+3) r p (by omega)
    cases hc:z7 p r with
    |none=>
     rw[hc] at hcp hinv
     rw[hinv]
     simp (disch:=first|omega|exact bd (by with_unfolding_all rfl)|fail) only[WA,Nat.reduceEqDiff,Nat.reduceLT,↓reduceIte,reduceCtorEq,xJ,hp]
     all_goals try (exfalso;omega)
     refine a6 (by rw[hC];exact hnum.flat rfl rfl) ?_
     simp (disch:=first|omega|exact bd (by with_unfolding_all rfl)|(simp only[b9]<;>omega)) only[WA,Nat.reduceEqDiff,Nat.reduceLT,Nat.reduceAdd,↓reduceIte,reduceCtorEq,GQ]
     all_goals try (exfalso;omega)
     refine a6 (by rw[hC];exact hcp.flat rfl rfl) ?_
     simp (disch:=first|exact bd (by with_unfolding_all rfl)|fail) only[WA,Nat.reduceEqDiff,Nat.reduceLT,↓reduceIte,reduceCtorEq,Option.isSome_none]
     exact iY h0 rfl
    |some t'=>
     rw[hc] at hcp hinv
     have hle:=cP hc
     have htl':t'.length≤r.length:=by rw[hle.2,List.length_drop];omega
     simp (disch:=first|omega|exact bd (by with_unfolding_all rfl)|fail) only[WA,Nat.reduceEqDiff,Nat.reduceLT,↓reduceIte,reduceCtorEq,xJ,hp]
     all_goals try (exfalso;omega)
     refine a6 (by rw[hC];exact hnum.flat rfl rfl) ?_
     simp (disch:=first|omega|exact bd (by with_unfolding_all rfl)|(simp only[b9]<;>omega)) only[WA,Nat.reduceEqDiff,Nat.reduceLT,Nat.reduceAdd,↓reduceIte,reduceCtorEq,GQ]
     all_goals try (exfalso;omega)
     refine a6 (by rw[hC];exact hcp.flat rfl rfl) ?_
     simp (disch:=first|omega|exact bd (by with_unfolding_all rfl)|fail) only[WA,Nat.reduceEqDiff,Nat.reduceLT,↓reduceIte,reduceCtorEq,Option.isSome_some,Option.getD_some]
     refine ⟨f.length - (k+1),_,_,by omega,v6 [(2,0)] 1 h0 rfl rfl rfl rfl,k+1,t',l++ [v],rfl,by omega,by omega,by rw[List.length_append];simp;omega,by rw[if_neg (by omega)];exact hinv,by rw[List.length_append];rfl,by rw[List.map_append];rfl⟩
 ·have:k=f.length:=by omega
  subst this
  have hpos:=List.length_pos_iff.2 hwn
  rw[if_neg (by omega),List.drop_length,W4] at hinv
  rw[hinv]
  unfold kP
  simp (disch:=first|omega|exact bd (by with_unfolding_all rfl)|fail) only[WA,Nat.reduceEqDiff,Nat.reduceLT,↓reduceIte,reduceCtorEq,xJ]
  all_goals try (exfalso;omega)
  refine aM0 (s:=2) (n:=l.length) (l:=l.map iD) ?_ rfl (.inl (by omega)) h0 rfl
  exact bA2 rfl (by simp)
end
end Go.Proofs.YtimmmnanllcfoaaDoor
namespace Go.Itp
def AC.l:AC→AC
 | .seq a _=>a
 |x=>x
def AC.r:AC→AC
 | .seq _ b=>b
 |x=>x
def AC.b:AC→AC
 | .block _ b=>b
 |x=>x
end Go.Itp
namespace Go.Proofs.YtimmmnanllcfoaaDoor
open Go Go.Itp
set_option maxRecDepth 100000
set_option maxHeartbeats 400000
set_option linter.unusedSimpArgs false
set_option linter.unusedVariables false
abbrev eD (x:p7):Go.Itp.Obj:= .box 48 1 [.sc (.int .u8 x.kind),.sc (.bool x.purl),.sc (.int .i64 x.a),.sc (.int .i64 x.b)]
def CQ:AC:=AC.b (AC.l (AC.r (AC.r Q4)))
def mY:AC:=AC.r (AC.r (AC.r (AC.r (AC.r (AC.r CQ)))))
def DC:AC:=AC.r mY
theorem WC {x:p7} {m:Int} {s:List UInt8}:(¬ (⟨(D2 x m).toArray⟩:ByteArray)=⟨s.toArray⟩)↔D2 x m ≠ s:=by rw[bW]
section
variable (w:World) (n:Nat)
theorem QV (G:V) {fr:List (Nat × V)} {C:D7} (hC:C.E=EN w (n+7)) (s:List UInt8) (hs:s.length≤100000) (x:p7) (hx:x.kind<256) (j k:Int) (m:Int) (r:List UInt8) (hr:r.length≤100000) {T S:AC} (hT:T=DC) {P:D3}
  (hgo:dA x (m,r) s=none→gK C [KF.seq S] .normal [(0,n4 s),(2,.ptr 0 0),(5,.sc (.int .u8 k)),(7,.ptr 1 0),(8,.sc (.int .i64 m)),(20,.sc (.int .i64 j)),(106,.sc (.bool false))] ⟨[(1,eD x),(0,eD eW)],2,0⟩ P)
  (hret:∀ fr st,dA x (m,r) s=some (x,m)→d9 fr 2=some (.ptr 0 0)→d9 fr 3=some (.sc (.int .i64 m))→d9 fr 4=some (.sc (.bool true))→d9 st.own 0=some (eD x)→st.ro=0→P .ret fr st)
  (hfr:fr= [(0,n4 s),(2,.ptr 0 0),(5,.sc (.int .u8 k)),(7,.ptr 1 0),(8,.sc (.int .i64 m)),(12,n4 r),(20,.sc (.int .i64 j))]∨fr= [(0,n4 s),(2,.ptr 0 0),(5,.sc (.int .u8 k)),(7,.ptr 1 0),(8,.sc (.int .i64 m)),(12,n4 r),(14,G),(20,.sc (.int .i64 j)),(77,.sc (.bool false))]):
  gK C [KF.seq T,KF.block 3,KF.seq S] .normal fr ⟨[(1,eD x),(0,eD eW)],2,0⟩ P:=by
 rcases hfr with hfr|hfr<;>subst hfr
 all_goals
  have hck:=RL w (n+5) x hx
  have hph:=fun h1 h2 h3=>QF w (n+4) x h1 m h2 h3
  have hn:¬ (r= []∧(1≤m∧m≤200)∧H6 x∧D2 x m=s)→dA x (m,r) s=none:=fun h=>by unfold dA;rw[if_neg h]
  have hy:(r= []∧(1≤m∧m≤200)∧H6 x∧D2 x m=s)→dA x (m,r) s=some (x,m):=fun h=>by unfold dA;rw[if_pos h]
  have hemp:((⟨r.toArray⟩:ByteArray)=⟨#[]⟩)=(r= []):=bW r []
  generalize dA x (m,r) s=cc at*
  subst hT
  by_cases h1:r= []
  case neg=>
   have hgo:=hgo (hn fun h=>h1 h.1)
   obtain ⟨xk,xp,xa,xb⟩:=x
   simp (disch:=first|exact bd (by with_unfolding_all rfl)|fail) only[WA,Nat.reduceEqDiff,Nat.reduceLT,↓reduceIte,reduceCtorEq,DC,mY,CQ,AC.r,AC.l,AC.b,Q4,hemp,h1]
   exact hgo
  by_cases h2:1≤m
  case neg=>
   have hgo:=hgo (hn fun h=>h2 h.2.1.1)
   obtain ⟨xk,xp,xa,xb⟩:=x
   simp (disch:=first|omega|exact bd (by with_unfolding_all rfl)|(simp only[b9]<;>omega)) only[WA,Nat.reduceEqDiff,Nat.reduceLT,↓reduceIte,reduceCtorEq,DC,mY,CQ,AC.r,AC.l,AC.b,Q4,hemp,h1]
   all_goals try (exfalso;omega)
   exact hgo
  by_cases h3:m≤200
  case neg=>
   have hgo:=hgo (hn fun h=>h3 h.2.1.2)
   obtain ⟨xk,xp,xa,xb⟩:=x
   simp (disch:=first|omega|exact bd (by with_unfolding_all rfl)|(simp only[b9]<;>omega)) only[WA,Nat.reduceEqDiff,Nat.reduceLT,↓reduceIte,reduceCtorEq,DC,mY,CQ,AC.r,AC.l,AC.b,Q4,hemp,h1]
   all_goals try (exfalso;omega)
   exact hgo
  cases h4:E5 x with
  |false=>
   have hgo:=hgo (hn fun h=>by rw[E9.2 h.2.2.1] at h4;cases h4)
   rw[h4,if_neg (by decide)] at hck
   obtain ⟨xk,xp,xa,xb⟩:=x
   simp (disch:=first|omega|exact bd (by with_unfolding_all rfl)|(simp only[b9]<;>omega)) only[WA,Nat.reduceEqDiff,Nat.reduceLT,↓reduceIte,reduceCtorEq,DC,mY,CQ,AC.r,AC.l,AC.b,Q4,hemp,h1]
   all_goals try (exfalso;omega)
   refine a6 (by rw[hC];exact hck.flat rfl rfl) ?_
   simp (disch:=first|exact bd (by with_unfolding_all rfl)|fail) only[WA,Nat.reduceEqDiff,Nat.reduceLT,Int.reduceEq,↓reduceIte,reduceCtorEq]
   exact hgo
  |true=>
   have hP:=E9.1 h4
   rw[h4,if_pos rfl] at hck
   have hph:=hph hP h2 (by omega)
   by_cases h5:D2 x m=s
   ·have hret:=fun fr st=>hret fr st (hy ⟨h1,⟨h2,h3⟩,hP,h5⟩)
    rw[h5] at hph
    clear hgo hn hy
    obtain ⟨xk,xp,xa,xb⟩:=x
    simp (disch:=first|omega|exact bd (by with_unfolding_all rfl)|(simp only[b9]<;>omega)) only[WA,Nat.reduceEqDiff,Nat.reduceLT,↓reduceIte,reduceCtorEq,DC,mY,CQ,AC.r,AC.l,AC.b,Q4,hemp,h1]
    all_goals try (exfalso;omega)
    refine a6 (by rw[hC];exact hck.flat rfl rfl) ?_
    simp (disch:=first|exact bd (by with_unfolding_all rfl)|(simp only[b9]<;>omega)) only[WA,Nat.reduceEqDiff,Nat.reduceLT,↓reduceIte,reduceCtorEq]
    refine a6 (by rw[hC];exact hph.flat rfl rfl) ?_
    simp (disch:=first|exact bd (by with_unfolding_all rfl)|(simp only[b9]<;>omega)) only[WA,Nat.reduceEqDiff,Nat.reduceLT,↓reduceIte,reduceCtorEq]
    exact hret _ _ rfl rfl rfl rfl rfl
   ·have hgo:=hgo (hn fun h=>h5 h.2.2.2)
    have h5':=WC.2 h5
    generalize D2 x m=ph at*
    obtain ⟨xk,xp,xa,xb⟩:=x
    simp (disch:=first|omega|exact bd (by with_unfolding_all rfl)|(simp only[b9]<;>omega)) only[WA,Nat.reduceEqDiff,Nat.reduceLT,↓reduceIte,reduceCtorEq,DC,mY,CQ,AC.r,AC.l,AC.b,Q4,hemp,h1]
    all_goals try (exfalso;omega)
    refine a6 (by rw[hC];exact hck.flat rfl rfl) ?_
    simp (disch:=first|exact bd (by with_unfolding_all rfl)|(simp only[b9]<;>omega)) only[WA,Nat.reduceEqDiff,Nat.reduceLT,↓reduceIte,reduceCtorEq]
    refine a6 (by rw[hC];exact hph.flat rfl rfl) ?_
    simp (disch:=first|exact bd (by with_unfolding_all rfl)|fail) only[WA,Nat.reduceEqDiff,Nat.reduceLT,↓reduceIte,reduceCtorEq,h5']
    exact hgo
theorem mM (G11:V) {fr:List (Nat × V)} {C:D7} (hC:C.E=EN w (n+7)) (s:List UInt8) (hs:s.length≤100000) (x:p7) (hx:x.kind<256) (j k:Int) (m:List Int) (m0:Int) (r:List UInt8) (hr:r.length≤100000) (hm0:m0=if countB x.kind=true then m.headD 0 else 1) {T S:AC} (hT:T=mY) {P:D3}
  (hgo:dA x (bF x.kind m r) s=none→∀ m',gK C [KF.seq S] .normal [(0,n4 s),(2,.ptr 0 0),(5,.sc (.int .u8 k)),(7,.ptr 1 0),(8,.sc (.int .i64 m')),(20,.sc (.int .i64 j)),(106,.sc (.bool false))] ⟨[(1,eD x),(0,eD eW)],2,0⟩ P)
  (hret:∀ fr st m',dA x (bF x.kind m r) s=some (x,m')→d9 fr 2=some (.ptr 0 0)→d9 fr 3=some (.sc (.int .i64 m'))→d9 fr 4=some (.sc (.bool true))→d9 st.own 0=some (eD x)→st.ro=0→P .ret fr st)
  (hfr:fr= [(0,n4 s),(2,.ptr 0 0),(5,.sc (.int .u8 k)),(7,.ptr 1 0),(8,.sc (.int .i64 m0)),(10,.sc (.bool (countB x.kind))),(12,n4 r),(20,.sc (.int .i64 j))]∨fr= [(0,n4 s),(2,.ptr 0 0),(5,.sc (.int .u8 k)),(7,.ptr 1 0),(8,.sc (.int .i64 m0)),(10,.sc (.bool (countB x.kind))),(11,G11),(12,n4 r),(20,.sc (.int .i64 j)),(60,.sc (.bool false))]):
  gK C [KF.seq T,KF.block 3,KF.seq S] .normal fr ⟨[(1,eD x),(0,eD eW)],2,0⟩ P:=by
 rcases hfr with hfr|hfr<;>subst hfr
 all_goals
  have hcs:=xU w (n+4) r lF (by omega)
  have hchk:=fun (m':Int) (r':List UInt8) (hr':r'.length≤100000) (e:bF x.kind m r=(m',r'))=>QV w n .dead hC s hs x hx j k m' r' hr' (T:=DC) (S:=S) rfl (P:=P) (fun h=>hgo (by rw[e];exact h) m') (fun fr st h=>hret fr st m' (by rw[e];exact h)) (Or.inl rfl)
  have hchkG:=fun (G:V) (m':Int) (r':List UInt8) (hr':r'.length≤100000) (e:bF x.kind m r=(m',r'))=>QV w n G hC s hs x hx j k m' r' hr' (T:=DC) (S:=S) rfl (P:=P) (fun h=>hgo (by rw[e];exact h) m') (fun fr st h=>hret fr st m' (by rw[e];exact h)) (Or.inr rfl)
  clear hgo hret
  subst hT
  obtain ⟨T2,hT2⟩:∃ T2,T2=DC:=⟨_,rfl⟩
  rw[← hT2] at hchk hchkG
  have hc:mY= .seq (AC.l mY) T2:=by rw[hT2];rfl
  rw[hc]
  cases hcn:countB x.kind with
  |true=>
   rw[hcn,if_pos rfl] at hm0
   have e:bF x.kind m r=(m0,r):=by unfold bF;rw[if_pos hcn,hm0]
   generalize (M3 lF r).getD r=G at*
   have hchk:=hchkG (n4 G) m0 r hr e
   cases hB:(M3 lF r).isSome with
   |true=>
    rw[hB] at hcs
    simp (disch:=first|exact bd (by with_unfolding_all rfl)|fail) only[WA,Nat.reduceEqDiff,Nat.reduceLT,↓reduceIte,reduceCtorEq,mY,CQ,AC.r,AC.l,AC.b,Q4]
    refine a6 (by rw[hC];exact hcs.flat rfl rfl) ?_
    simp (disch:=first|exact bd (by with_unfolding_all rfl)|fail) only[WA,Nat.reduceEqDiff,Nat.reduceLT,↓reduceIte,reduceCtorEq]
    exact hchk
   |false=>
    rw[hB] at hcs
    simp (disch:=first|exact bd (by with_unfolding_all rfl)|fail) only[WA,Nat.reduceEqDiff,Nat.reduceLT,↓reduceIte,reduceCtorEq,mY,CQ,AC.r,AC.l,AC.b,Q4]
    refine a6 (by rw[hC];exact hcs.flat rfl rfl) ?_
    simp (disch:=first|exact bd (by with_unfolding_all rfl)|fail) only[WA,Nat.reduceEqDiff,Nat.reduceLT,↓reduceIte,reduceCtorEq]
    exact hchk
  |false=>
   rw[hcn,if_neg (by decide)] at hm0
   cases hcu:M3 lF r with
   |none=>
    have e:bF x.kind m r=(m0,r):=by unfold bF;rw[if_neg (by rw[hcn];decide),hcu,hm0]
    have hchk:=hchkG (n4 r) m0 r hr e
    rw[hcu] at hcs
    simp (disch:=first|exact bd (by with_unfolding_all rfl)|fail) only[WA,Nat.reduceEqDiff,Nat.reduceLT,↓reduceIte,reduceCtorEq,mY,CQ,AC.r,AC.l,AC.b,Q4]
    refine a6 (by rw[hC];exact hcs.flat rfl rfl) ?_
    simp (disch:=first|exact bd (by with_unfolding_all rfl)|fail) only[WA,Nat.reduceEqDiff,Nat.reduceLT,↓reduceIte,reduceCtorEq,Option.isSome_none,Option.getD_none]
    exact hchk
   |some t=>
    have hle:=sN hcu
    have htl:t.length≤r.length:=by rw[hle.2,List.length_take];omega
    have htr:=aK5 w (n+4) t [32] (by omega)
    have hul:((z7 [32] t).getD t).length≤t.length:=by
     cases hp:z7 [32] t with
     |none=>exact Nat.le_refl _
     |some u=>have:=cP hp;simp only[Option.getD_some];rw[this.2,List.length_drop];omega
    have e:bF x.kind m r=(bQ (L3 ((z7 [32] t).getD t)),gA ((z7 [32] t).getD t)):=by unfold bF;rw[if_neg (by rw[hcn];decide),hcu]
    generalize (z7 [32] t).getD t=u at*
    have hnm:=PT w (n+6) u (by omega)
    have hrl:=GK u
    have hchk:=hchk _ _ (by omega) e
    generalize bQ (L3 u)=nv at*
    generalize gA u=rv at*
    generalize decide (L3 u ≠ [])=bv at*
    rw[hcu] at hcs
    simp (disch:=first|exact bd (by with_unfolding_all rfl)|fail) only[WA,Nat.reduceEqDiff,Nat.reduceLT,↓reduceIte,reduceCtorEq,mY,CQ,AC.r,AC.l,AC.b,Q4]
    refine a6 (by rw[hC];exact hcs.flat rfl rfl) ?_
    simp (disch:=first|exact bd (by with_unfolding_all rfl)|fail) only[WA,Nat.reduceEqDiff,Nat.reduceLT,↓reduceIte,reduceCtorEq,Option.isSome_some,Option.getD_some]
    refine a6 (by rw[hC];exact htr.flat rfl rfl) ?_
    repeat' (first|(simp (disch:=fail) only[WA,m9,u5,Nat.reduceEqDiff,Nat.reduceLT,Nat.reduceAdd,Nat.reduceBEq,Int.reduceAdd,Int.reduceSub,Int.reduceLT,Int.reduceLE,Int.reduceEq,Int.reduceNeg,↓reduceIte,reduceCtorEq,List.replicate])|apply y8|((first|apply H9|apply B4|apply C8|apply J0|apply H8|apply C9)<;>intro _))
    refine a6 (by rw[hC];exact hnm.flat rfl rfl) ?_
    simp (disch:=first|exact bd (by with_unfolding_all rfl)|fail) only[WA,Nat.reduceEqDiff,Nat.reduceLT,↓reduceIte,reduceCtorEq]
    exact hchk
end
end Go.Proofs.YtimmmnanllcfoaaDoor
