/- Part of the proof of Rows.PegNamesCardSaid: the law returns true, with no condition.
   Texts: C18VA, R18V, S18D, H18V, VT, VT2, VT3, VT4, VT5, VT6, W18p, W18a, W18b, W18c, W18d, W18e, W18f, W18g, W18i, W18j, W18k, W18l, W18m, W18n, W18o, W18q.
-/
import Derived.Test.YtepdkmdcainddaaDoorPart4
import Derived.Test.YtepdkmdcainddaaDoorProg
import Derived.KernelRfl
import Derived.Shelf.Strings.Builder1
import Derived.Shelf.Strings.Builder2
import Derived.Shelf.Strings.OnBuilder
import Derived.Shelf.Strconv.Atoi
import Derived.Shelf.Strconv.Itoa0
import Derived.Shelf.Strconv.Itoa1
import Derived.Shelf.LaysM
import Derived.Shelf.Strconv.Itoa2
import Derived.Shelf.Strconv.Itoa3
import Derived.Shelf.Strconv.AtoiErrFast
import Derived.Shelf.Strconv.ParseIntEmpty
import Derived.Shelf.Strconv.AtoiFail
import Derived.Shelf.Strconv.Clone
import Derived.Shelf.Strconv.SyntaxError
import Derived.Shelf.LaysC
import Derived.Shelf.Strconv.ToError
import Derived.Shelf.Strconv.Lower
import Derived.Shelf.Strconv.ParseUint10
import Derived.Shelf.Strconv.ParseUint10Empty
import Derived.Shelf.Strconv.ParseUint10Any
import Derived.Shelf.Strconv.ParseInt10
import Derived.Shelf.Strconv.AtoiLong
import Derived.Shelf.Strconv.AtoiInnerAll
import Derived.Shelf.Strconv.RangeError
import Derived.Shelf.Strconv.ToErrorRange
import Derived.Shelf.Strconv.AtoiAll
import Derived.Shelf.Strconv.ErrVarAll
import Derived.Shelf.Strings.Search1
import Derived.Shelf.Strings.Search2
import Derived.Shelf.Strings.Search3
import Derived.Shelf.Strings.Count
import Derived.Shelf.Strings.Shaped
import Derived.Shelf.Unicode.DecodeSlow
import Derived.Lib.ItoaLen
import Derived.Lib.Join
import Derived.Lib.AtoiAllCases
import Derived.Lib.Bytealg
namespace Go.Proofs.YtepdkmdcainddaaDoor
open Go Go.Itp
set_option maxRecDepth 100000
@[reducible] def O1 (d:Nat) (p:AOp):AOper:=⟨some d,none,p⟩
/- raddle/raddlelaw18.PegNames -/
def c8l0:AC:=
 .seq (.seq (.ops [O1 82 (.mov (.tmp 13)),
     O1 83 (.mov (.tmp 12)),
     O1 84 (.len false (.tmp 83)),
     O1 85 (.bin .lss (.tmp 82) (.tmp 84))] [1,3,5,10,11,12,13,85])
   (.cond (.tmp 85)
    (.skip)
    (.exit 2)))
   (.seq (.block 3
    (.seq (.ops [O1 89 (.mov (.tmp 12)),
      O1 90 (.mov (.tmp 13)),
      O1 91 (.idxS 1 (.tmp 89) (.tmp 90)),
      O1 92 (.load none (.tmp 91)),
      O1 93 (.callF 27 [(.tmp 92)]),
      O1 88 (.mov (.tmp 93)),
      O1 94 (.ext (.tmp 88) 0),
      O1 95 (.ext (.tmp 88) 1),
      O1 14 (.alloc 34 [(1,(.int .i64 0)),(1,(.slice none 0 0))]),
      ⟨none,none,.store 2 (.tmp 14) (.tmp 94)⟩,
      O1 15 (.mov (.tmp 95))] [1,3,5,10,11,12,13,15])
    (.seq (.ops [O1 96 (.mov (.tmp 15)),
      O1 97 (.bin .neq (.tmp 96) (.const (.int .i64 12)))] [1,3,5,10,11,12,13,97])
    (.cond (.tmp 97)
     (.seq (.ops [O1 0 (.mov (.const (.bool false)))] [0])
     (.ret))
     (.skip)))))
   (.ops [O1 86 (.mov (.tmp 13)),
     O1 87 (.bin .add (.tmp 86) (.const (.int .i64 1))),
     O1 13 (.mov (.tmp 87))] [1,3,5,10,11,12,13]))
def c8l1:AC:=
 .seq (.seq (.ops [O1 61 (.mov (.tmp 7)),
     O1 62 (.mov (.tmp 6)),
     O1 63 (.len false (.tmp 62)),
     O1 64 (.bin .lss (.tmp 61) (.tmp 63))] [1,3,5,6,7,64])
   (.cond (.tmp 64)
    (.skip)
    (.exit 0)))
   (.seq (.block 1
    (.seq (.ops [O1 68 (.mov (.tmp 6)),
      O1 69 (.mov (.tmp 7)),
      O1 70 (.idxS 1 (.tmp 68) (.tmp 69)),
      O1 71 (.load none (.tmp 70)),
      O1 72 (.callF 25 [(.tmp 71),(.const (.int .i64 2))]),
      O1 67 (.mov (.tmp 72)),
      O1 73 (.ext (.tmp 67) 0),
      O1 74 (.ext (.tmp 67) 1),
      O1 8 (.alloc 24 [(2,(.int .i64 0)),(1,(.slice none 0 0))]),
      ⟨none,none,.store 3 (.tmp 8) (.tmp 73)⟩,
      O1 9 (.mov (.tmp 74))] [1,3,5,6,7,9])
    (.seq (.ops [O1 75 (.mov (.tmp 9)),
      O1 76 (.bin .neq (.tmp 75) (.const (.int .i64 12)))] [1,3,5,6,7,76])
    (.cond (.tmp 76)
     (.seq (.ops [O1 0 (.mov (.const (.bool false)))] [0])
     (.ret))
     (.skip)))))
   (.ops [O1 65 (.mov (.tmp 7)),
     O1 66 (.bin .add (.tmp 65) (.const (.int .i64 1))),
     O1 7 (.mov (.tmp 66))] [1,3,5,6,7]))
def c8:AFun:=⟨
 .seq (.ops [O1 0 (.mov (.const (.bool false)))] [])
 (.seq (.ops [O1 39 (.callF 31 [(.const (.int .i64 41)),(.const (.int .i64 1))]),
   O1 40 (.callF 15 [(.tmp 39)]),
   O1 41 (.bin .eql (.tmp 40) (.const (.int .i64 8))),
   O1 42 (.mov (.tmp 41)),
   ⟨(some 43),(some (42,true)),.callF 31 [(.const (.int .i64 40)),(.const (.int .i64 64))]⟩,
   ⟨(some 44),(some (42,true)),.callF 15 [(.tmp 43)]⟩,
   ⟨(some 45),(some (42,true)),.bin .eql (.tmp 44) (.const (.int .i64 0))⟩,
   O1 46 (.pick (.tmp 42) (.tmp 45) (.const (.bool false))),
   O1 47 (.mov (.tmp 46)),
   ⟨(some 48),(some (47,true)),.build [(.int .i64 0),(.int .i64 0),(.slice none 0 0)] []⟩,
   ⟨(some 49),(some (47,true)),.callF 15 [(.tmp 48)]⟩,
   ⟨(some 50),(some (47,true)),.bin .eql (.tmp 49) (.const (.int .i64 8))⟩,
   O1 51 (.pick (.tmp 47) (.tmp 50) (.const (.bool false))),
   O1 1 (.mov (.tmp 51))] [1])
 (.seq (.ops [O1 53 (.callF 25 [(.const (.string ⟨#[49,10]⟩)),(.const (.int .i64 0))]),
   O1 52 (.mov (.tmp 53)),
   O1 54 (.ext (.tmp 52) 0),
   O1 55 (.ext (.tmp 52) 1),
   O1 2 (.alloc 24 [(2,(.int .i64 0)),(1,(.slice none 0 0))]),
   ⟨none,none,.store 3 (.tmp 2) (.tmp 54)⟩,
   O1 3 (.mov (.tmp 55))] [1,3])
 (.seq (.ops [O1 57 (.callF 25 [(.const (.string ⟨#[49,10]⟩)),(.const (.int .i64 41))]),
   O1 56 (.mov (.tmp 57)),
   O1 58 (.ext (.tmp 56) 0),
   O1 59 (.ext (.tmp 56) 1),
   O1 4 (.alloc 24 [(2,(.int .i64 0)),(1,(.slice none 0 0))]),
   ⟨none,none,.store 3 (.tmp 4) (.tmp 58)⟩,
   O1 5 (.mov (.tmp 59))] [1,3,5])
 (.seq (.ops [O1 60 (.mkRow 9 1 16 [(.string ⟨#[]⟩)] [(0,1,(.const (.string ⟨#[]⟩))),(1,1,(.const (.string ⟨#[49]⟩))),(2,1,(.const (.string ⟨#[10]⟩))),(3,1,(.const (.string ⟨#[48,10]⟩))),(4,1,(.const (.string ⟨#[51,10]⟩))),(5,1,(.const (.string ⟨#[49,32,49,10]⟩))),(6,1,(.const (.string ⟨#[50,32,49,10]⟩))),(7,1,(.const (.string ⟨#[48,49,10]⟩))),(8,1,(.const (.string ⟨#[49,32,10]⟩))),(9,1,(.const (.string ⟨#[32,49,10]⟩))),(10,1,(.const (.string ⟨#[49,32,32,50,10]⟩))),(11,1,(.const (.string ⟨#[45,10,49]⟩))),(12,1,(.const (.string ⟨#[45,45,10]⟩))),(13,1,(.const (.string ⟨#[45,32,49,10]⟩))),(14,1,(.const (.string ⟨#[120,10]⟩))),(15,1,(.const (.string ⟨#[43,49,10]⟩)))]),
   O1 6 (.mov (.tmp 60))] [1,3,5,6])
 (.seq (.seq (.ops [O1 7 (.mov (.const (.int .i64 0)))] [1,3,5,6,7])
 (.block 0
  (.loop [1,3,5,6,7]
   c8l1)))
 (.seq (.ops [O1 78 (.callF 25 [(.const (.string ⟨#[45,10,50,10]⟩)),(.const (.int .i64 2))]),
   O1 77 (.mov (.tmp 78)),
   O1 79 (.ext (.tmp 77) 0),
   O1 80 (.ext (.tmp 77) 1),
   O1 10 (.alloc 24 [(2,(.int .i64 0)),(1,(.slice none 0 0))]),
   ⟨none,none,.store 3 (.tmp 10) (.tmp 79)⟩,
   O1 11 (.mov (.tmp 80))] [1,3,5,10,11])
 (.seq (.ops [O1 81 (.mkRow 9 1 8 [(.string ⟨#[]⟩)] [(0,1,(.const (.string ⟨#[]⟩))),(1,1,(.const (.string ⟨#[111,46,10]⟩))),(2,1,(.const (.string ⟨#[111,10,111,10]⟩))),(3,1,(.const (.string ⟨#[111,46,10,111]⟩))),(4,1,(.const (.string ⟨#[111,46,10,10]⟩))),(5,1,(.const (.string ⟨#[111,46,10,111,46,46,10]⟩))),(6,1,(.const (.string ⟨#[111,46,10,120,46,10]⟩))),(7,1,(.const (.string ⟨#[10,10]⟩)))]),
   O1 12 (.mov (.tmp 81))] [1,3,5,10,11,12])
 (.seq (.seq (.ops [O1 13 (.mov (.const (.int .i64 0)))] [1,3,5,10,11,12,13])
 (.block 2
  (.loop [1,3,5,10,11,12,13]
   c8l0)))
 (.seq (.ops [O1 99 (.callF 27 [(.const (.string ⟨#[111,46,10,111,46,10]⟩))]),
   O1 98 (.mov (.tmp 99)),
   O1 100 (.ext (.tmp 98) 0),
   O1 101 (.ext (.tmp 98) 1),
   O1 16 (.alloc 34 [(1,(.int .i64 0)),(1,(.slice none 0 0))]),
   ⟨none,none,.store 2 (.tmp 16) (.tmp 100)⟩,
   O1 17 (.mov (.tmp 101))] [1,3,5,10,11,16,17])
 (.seq (.ops [O1 103 (.mkRow 4 1 2 [(.bool false)] [(0,1,(.const (.bool true))),(1,1,(.const (.bool true)))]),
   O1 104 (.mkRow 4 1 2 [(.bool false)] [(0,1,(.const (.bool true))),(1,1,(.const (.bool true)))]),
   O1 105 (.mkRow 22 1 2 [(.slice none 0 0)] [(0,1,(.tmp 103)),(1,1,(.tmp 104))]),
   O1 106 (.build [(.int .i64 0),(.slice none 0 0)] [(0,1,(.const (.int .i64 1))),(1,1,(.tmp 105))]),
   O1 107 (.callF 24 [(.tmp 106)]),
   O1 102 (.mov (.tmp 107)),
   O1 108 (.ext (.tmp 102) 0),
   O1 109 (.ext (.tmp 102) 1),
   O1 18 (.alloc 24 [(2,(.int .i64 0)),(1,(.slice none 0 0))]),
   ⟨none,none,.store 3 (.tmp 18) (.tmp 108)⟩,
   O1 19 (.mov (.tmp 109))] [1,3,5,10,11,16,17,18,19])
 (.seq (.ops [O1 111 (.mkRow 4 1 2 [(.bool false)] [(0,1,(.const (.bool true))),(1,1,(.const (.bool false)))]),
   O1 112 (.mkRow 4 1 2 [(.bool false)] [(0,1,(.const (.bool true))),(1,1,(.const (.bool true)))]),
   O1 113 (.mkRow 22 1 2 [(.slice none 0 0)] [(0,1,(.tmp 111)),(1,1,(.tmp 112))]),
   O1 114 (.build [(.int .i64 0),(.slice none 0 0)] [(0,1,(.const (.int .i64 1))),(1,1,(.tmp 113))]),
   O1 115 (.callF 24 [(.tmp 114)]),
   O1 110 (.mov (.tmp 115)),
   O1 116 (.ext (.tmp 110) 0),
   O1 117 (.ext (.tmp 110) 1),
   O1 20 (.alloc 24 [(2,(.int .i64 0)),(1,(.slice none 0 0))]),
   ⟨none,none,.store 3 (.tmp 20) (.tmp 116)⟩,
   O1 21 (.mov (.tmp 117))] [1,3,5,10,11,16,17,18,19,21])
 (.seq (.ops [O1 119 (.mkRow 4 1 2 [(.bool false)] [(0,1,(.const (.bool true))),(1,1,(.const (.bool true)))]),
   O1 120 (.mkRow 22 1 1 [(.slice none 0 0)] [(0,1,(.tmp 119))]),
   O1 121 (.build [(.int .i64 0),(.slice none 0 0)] [(0,1,(.const (.int .i64 1))),(1,1,(.tmp 120))]),
   O1 122 (.callF 24 [(.tmp 121)]),
   O1 118 (.mov (.tmp 122)),
   O1 123 (.ext (.tmp 118) 0),
   O1 124 (.ext (.tmp 118) 1),
   O1 22 (.alloc 24 [(2,(.int .i64 0)),(1,(.slice none 0 0))]),
   ⟨none,none,.store 3 (.tmp 22) (.tmp 123)⟩,
   O1 23 (.mov (.tmp 124))] [1,3,5,10,11,16,17,18,19,21,23])
 (.seq (.ops [O1 126 (.mkRow 4 1 2 [(.bool false)] [(0,1,(.const (.bool true))),(1,1,(.const (.bool true)))]),
   O1 127 (.mkRow 4 1 2 [(.bool false)] [(0,1,(.const (.bool true))),(1,1,(.const (.bool true)))]),
   O1 128 (.mkRow 22 1 2 [(.slice none 0 0)] [(0,1,(.tmp 126)),(1,1,(.tmp 127))]),
   O1 129 (.build [(.int .i64 0),(.slice none 0 0)] [(0,1,(.const (.int .i64 2))),(1,1,(.tmp 128))]),
   O1 130 (.callF 24 [(.tmp 129)]),
   O1 125 (.mov (.tmp 130)),
   O1 131 (.ext (.tmp 125) 0),
   O1 132 (.ext (.tmp 125) 1),
   O1 24 (.alloc 24 [(2,(.int .i64 0)),(1,(.slice none 0 0))]),
   ⟨none,none,.store 3 (.tmp 24) (.tmp 131)⟩,
   O1 25 (.mov (.tmp 132))] [1,3,5,10,11,16,17,18,19,21,23,25])
 (.seq (.ops [O1 134 (.mkRow 4 1 2 [(.bool false)] [(0,1,(.const (.bool true))),(1,1,(.const (.bool false)))]),
   O1 135 (.mkRow 4 1 2 [(.bool false)] [(0,1,(.const (.bool true))),(1,1,(.const (.bool false)))]),
   O1 136 (.mkRow 22 1 2 [(.slice none 0 0)] [(0,1,(.tmp 134)),(1,1,(.tmp 135))]),
   O1 137 (.build [(.int .i64 0),(.slice none 0 0)] [(0,1,(.const (.int .i64 1))),(1,1,(.tmp 136))]),
   O1 138 (.callF 23 [(.tmp 137)]),
   O1 133 (.mov (.tmp 138)),
   O1 139 (.ext (.tmp 133) 0),
   O1 140 (.ext (.tmp 133) 1),
   O1 141 (.ext (.tmp 133) 2),
   O1 142 (.ext (.tmp 133) 3),
   O1 26 (.alloc 34 [(1,(.int .i64 0)),(1,(.slice none 0 0))]),
   O1 27 (.alloc 47 [(2,(.int .i64 0))]),
   ⟨none,none,.store 2 (.tmp 26) (.tmp 139)⟩,
   ⟨none,none,.store 2 (.tmp 27) (.tmp 140)⟩,
   O1 28 (.mov (.tmp 141)),
   O1 29 (.mov (.tmp 142))] [1,3,5,10,11,16,17,18,19,21,23,25,29])
 (.seq (.ops [O1 144 (.build [(.int .i64 0),(.slice none 0 0)] []),
   O1 145 (.callF 23 [(.tmp 144)]),
   O1 143 (.mov (.tmp 145)),
   O1 146 (.ext (.tmp 143) 0),
   O1 147 (.ext (.tmp 143) 1),
   O1 148 (.ext (.tmp 143) 2),
   O1 149 (.ext (.tmp 143) 3),
   O1 30 (.alloc 34 [(1,(.int .i64 0)),(1,(.slice none 0 0))]),
   O1 31 (.alloc 47 [(2,(.int .i64 0))]),
   ⟨none,none,.store 2 (.tmp 30) (.tmp 146)⟩,
   ⟨none,none,.store 2 (.tmp 31) (.tmp 147)⟩,
   O1 32 (.mov (.tmp 148)),
   O1 33 (.mov (.tmp 149))] [1,3,5,10,11,16,17,18,19,21,23,25,29,33])
 (.seq (.ops [O1 151 (.build [(.int .i64 0),(.slice none 0 0)] [(0,1,(.const (.int .i64 41)))]),
   O1 152 (.callF 30 [(.tmp 151)]),
   O1 150 (.mov (.tmp 152)),
   O1 153 (.ext (.tmp 150) 0),
   O1 154 (.ext (.tmp 150) 1),
   O1 155 (.ext (.tmp 150) 2),
   O1 34 (.mov (.tmp 153)),
   O1 35 (.mov (.tmp 154)),
   O1 36 (.mov (.tmp 155))] [1,3,5,10,11,16,17,18,19,21,23,25,29,33,36])
 (.seq (.ops [O1 157 (.build [(.int .i64 0),(.slice none 0 0)] [(0,1,(.const (.int .i64 1)))]),
   O1 158 (.callF 29 [(.tmp 157)]),
   O1 156 (.mov (.tmp 158)),
   O1 159 (.ext (.tmp 156) 0),
   O1 160 (.ext (.tmp 156) 1),
   O1 37 (.mov (.tmp 159)),
   O1 38 (.mov (.tmp 160))] [1,3,5,10,11,16,17,18,19,21,23,25,29,33,36,38])
 (.seq (.ops [O1 161 (.mov (.const (.bool true))),
   ⟨(some 162),(some (161,true)),.callF 19 []⟩,
   O1 163 (.pick (.tmp 161) (.tmp 162) (.const (.bool false))),
   O1 164 (.mov (.tmp 163)),
   ⟨(some 165),(some (164,true)),.mov (.tmp 1)⟩,
   O1 166 (.pick (.tmp 164) (.tmp 165) (.const (.bool false))),
   O1 167 (.mov (.tmp 166)),
   ⟨(some 168),(some (167,true)),.mov (.tmp 3)⟩,
   ⟨(some 169),(some (167,true)),.bin .eql (.tmp 168) (.const (.int .i64 2))⟩,
   O1 170 (.pick (.tmp 167) (.tmp 169) (.const (.bool false))),
   O1 171 (.mov (.tmp 170)),
   ⟨(some 172),(some (171,true)),.mov (.tmp 5)⟩,
   ⟨(some 173),(some (171,true)),.bin .eql (.tmp 172) (.const (.int .i64 2))⟩,
   O1 174 (.pick (.tmp 171) (.tmp 173) (.const (.bool false))),
   O1 175 (.mov (.tmp 174)),
   ⟨(some 176),(some (175,true)),.mov (.tmp 11)⟩,
   ⟨(some 177),(some (175,true)),.bin .eql (.tmp 176) (.const (.int .i64 0))⟩,
   O1 178 (.pick (.tmp 175) (.tmp 177) (.const (.bool false))),
   O1 179 (.mov (.tmp 178)),
   ⟨(some 180),(some (179,true)),.load (some 3) (.tmp 10)⟩,
   ⟨(some 181),(some (179,true)),.mkRow 4 1 4 [(.bool false)] [(0,1,(.const (.bool false))),(1,1,(.const (.bool false))),(2,1,(.const (.bool false))),(3,1,(.const (.bool true)))]⟩,
   ⟨(some 182),(some (179,true)),.build [(.int .i64 0),(.int .i64 0),(.slice none 0 0)] [(0,1,(.const (.int .i64 2))),(1,1,(.const (.int .i64 2))),(2,1,(.tmp 181))]⟩,
   ⟨(some 183),(some (179,true)),.callF 18 [(.tmp 180),(.tmp 182)]⟩,
   O1 184 (.pick (.tmp 179) (.tmp 183) (.const (.bool false))),
   O1 185 (.mov (.tmp 184)),
   ⟨(some 186),(some (185,true)),.mov (.tmp 17)⟩,
   ⟨(some 187),(some (185,true)),.bin .eql (.tmp 186) (.const (.int .i64 0))⟩,
   O1 188 (.pick (.tmp 185) (.tmp 187) (.const (.bool false))),
   O1 189 (.mov (.tmp 188)),
   ⟨(some 190),(some (189,true)),.fldA 0 (.tmp 16)⟩,
   ⟨(some 191),(some (189,true)),.load none (.tmp 190)⟩,
   ⟨(some 192),(some (189,true)),.bin .eql (.tmp 191) (.const (.int .i64 1))⟩,
   O1 193 (.pick (.tmp 189) (.tmp 192) (.const (.bool false))),
   O1 194 (.mov (.tmp 193)),
   ⟨(some 195),(some (194,true)),.mov (.tmp 19)⟩,
   ⟨(some 196),(some (194,true)),.bin .eql (.tmp 195) (.const (.int .i64 0))⟩,
   O1 197 (.pick (.tmp 194) (.tmp 196) (.const (.bool false))),
   O1 198 (.mov (.tmp 197)),
   ⟨(some 199),(some (198,true)),.load (some 3) (.tmp 18)⟩,
   ⟨(some 200),(some (198,true)),.mkRow 4 1 1 [(.bool false)] [(0,1,(.const (.bool true)))]⟩,
   ⟨(some 201),(some (198,true)),.build [(.int .i64 0),(.int .i64 0),(.slice none 0 0)] [(0,1,(.const (.int .i64 1))),(1,1,(.const (.int .i64 1))),(2,1,(.tmp 200))]⟩,
   ⟨(some 202),(some (198,true)),.callF 18 [(.tmp 199),(.tmp 201)]⟩,
   O1 203 (.pick (.tmp 198) (.tmp 202) (.const (.bool false))),
   O1 204 (.mov (.tmp 203)),
   ⟨(some 205),(some (204,true)),.mov (.tmp 21)⟩,
   ⟨(some 206),(some (204,true)),.bin .eql (.tmp 205) (.const (.int .i64 30))⟩,
   O1 207 (.pick (.tmp 204) (.tmp 206) (.const (.bool false))),
   O1 208 (.mov (.tmp 207)),
   ⟨(some 209),(some (208,true)),.mov (.tmp 23)⟩,
   ⟨(some 210),(some (208,true)),.bin .eql (.tmp 209) (.const (.int .i64 8))⟩,
   O1 211 (.pick (.tmp 208) (.tmp 210) (.const (.bool false))),
   O1 212 (.mov (.tmp 211)),
   ⟨(some 213),(some (212,true)),.mov (.tmp 25)⟩,
   ⟨(some 214),(some (212,true)),.bin .eql (.tmp 213) (.const (.int .i64 8))⟩,
   O1 215 (.pick (.tmp 212) (.tmp 214) (.const (.bool false))),
   O1 216 (.mov (.tmp 215)),
   ⟨(some 217),(some (216,true)),.mov (.tmp 29)⟩,
   ⟨(some 218),(some (216,true)),.bin .eql (.tmp 217) (.const (.int .i64 30))⟩,
   O1 219 (.pick (.tmp 216) (.tmp 218) (.const (.bool false))),
   O1 220 (.mov (.tmp 219)),
   ⟨(some 221),(some (220,true)),.mov (.tmp 33)⟩,
   ⟨(some 222),(some (220,true)),.bin .eql (.tmp 221) (.const (.int .i64 8))⟩,
   O1 223 (.pick (.tmp 220) (.tmp 222) (.const (.bool false))),
   O1 224 (.mov (.tmp 223)),
   ⟨(some 225),(some (224,true)),.mov (.tmp 36)⟩,
   ⟨(some 226),(some (224,true)),.bin .eql (.tmp 225) (.const (.int .i64 8))⟩,
   O1 227 (.pick (.tmp 224) (.tmp 226) (.const (.bool false))),
   O1 228 (.mov (.tmp 227)),
   ⟨(some 229),(some (228,true)),.mov (.tmp 38)⟩,
   ⟨(some 230),(some (228,true)),.bin .eql (.tmp 229) (.const (.int .i64 8))⟩,
   O1 231 (.pick (.tmp 228) (.tmp 230) (.const (.bool false))),
   O1 0 (.mov (.tmp 231))] [0])
 (.ret))))))))))))))))))),
 232,[(0,none)],true⟩
theorem ok8:FunOK Tryd.prog 8 c8:= .code ⟨Tryd.f8,_,c8.code,Tryd.func8,rfl,by kernel_rfl,rfl,by kernel_rfl,by kernel_rfl⟩
/- raddle/peg.Plan -/
def c11l0:AC:=
 .seq (.ops [O1 34 (.bin .lss (.tmp 33) (.tmp 32))] [1,5,7,16,17,31,32,33,34])
      (.seq (.cond (.tmp 34)
       (.skip)
       (.exit 2))
      (.seq (.block 3
       (.seq (.ops [O1 35 (.mov (.tmp 33)),
         O1 36 (.idxS 1 (.tmp 31) (.tmp 33)),
         O1 37 (.load none (.tmp 36)),
         O1 8 (.mov (.tmp 35)),
         O1 9 (.mov (.tmp 37))] [1,5,7,8,9,16,17,31,32,33])
       (.seq (.ops [O1 38 (.mov (.tmp 9))] [1,5,7,8,16,17,31,32,33,38])
       (.cond (.tmp 38)
        (.ops [O1 39 (.mov (.tmp 7)),
          O1 40 (.mov (.tmp 8)),
          O1 41 (.bin .add (.tmp 40) (.const (.int .i64 1))),
          O1 42 (.callF 32 [(.tmp 41)]),
          O1 43 (.mkRow 9 1 1 [(.string ⟨#[]⟩)] [(0,1,(.tmp 42))]),
          O1 44 (.app 9 1 16 (.tmp 39) (.tmp 43)),
          O1 7 (.mov (.tmp 44))] [1,5,7,16,17,31,32,33])
        (.skip)))))
      (.ops [O1 45 (.bin .add (.tmp 33) (.const (.int .i64 1))),
        O1 33 (.mov (.tmp 45))] [1,5,7,16,17,31,32,33])))
def c11l1:AC:=
 .seq (.ops [O1 18 (.bin .lss (.tmp 17) (.tmp 16))] [1,5,16,17,18])
   (.seq (.cond (.tmp 18)
    (.skip)
    (.exit 0))
   (.seq (.block 1
    (.seq (.ops [O1 19 (.mov (.tmp 17)),
      O1 6 (.mov (.tmp 19))] [1,5,6,16,17])
    (.seq (.ops [O1 7 (.mov (.const (.slice none 0 0)))] [1,5,6,7,16,17])
    (.seq (.seq (.ops [O1 20 (.fldA 2 (.tmp 1)),
      O1 21 (.load none (.tmp 20)),
      O1 22 (.mov (.tmp 6)),
      O1 23 (.fldA 0 (.tmp 1)),
      O1 24 (.load none (.tmp 23)),
      O1 25 (.bin .mul (.tmp 22) (.tmp 24)),
      O1 26 (.mov (.tmp 6)),
      O1 27 (.bin .add (.tmp 26) (.const (.int .i64 1))),
      O1 28 (.fldA 0 (.tmp 1)),
      O1 29 (.load none (.tmp 28)),
      O1 30 (.bin .mul (.tmp 27) (.tmp 29)),
      O1 31 (.slc 1 (.tmp 21) (some (.tmp 25)) (some (.tmp 30)) none),
      O1 32 (.len false (.tmp 31)),
      O1 33 (.mov (.const (.int .i64 0)))] [1,5,7,16,17,31,32,33])
    (.block 2
     (.loop [1,5,7,16,17,31,32,33]
      c11l0)))
    (.seq (.seq (.ops [O1 46 (.mov (.tmp 7)),
      O1 47 (.eqNil 1 false (.tmp 46) (.const (.slice none 0 0)))] [1,5,7,16,17,47])
    (.cond (.tmp 47)
     (.ops [O1 48 (.mkRow 9 1 1 [(.string ⟨#[]⟩)] [(0,1,(.const (.string ⟨#[45]⟩)))]),
       O1 7 (.mov (.tmp 48))] [1,5,7,16,17])
     (.skip)))
    (.ops [O1 49 (.mov (.tmp 7)),
      O1 50 (.callF 34 [(.tmp 49),(.const (.string ⟨#[32]⟩))]),
      O1 51 (.bin .add (.tmp 50) (.const (.string ⟨#[10]⟩))),
      O1 52 (.callF 33 [(.tmp 5),(.tmp 51)])] [1,5,16,17]))))))
   (.ops [O1 53 (.bin .add (.tmp 17) (.const (.int .i64 1))),
     O1 17 (.mov (.tmp 53))] [1,5,16,17])))
def c11:AFun:=⟨
 .seq (.ops [O1 1 (.box 24 (.tmp 0)),
   O1 2 (.mov (.const (.string ⟨#[]⟩))),
   O1 3 (.mov (.const (.int .i64 0)))] [1])
 (.seq (.seq (.ops [O1 10 (.load (some 3) (.tmp 1)),
   O1 11 (.callF 15 [(.tmp 10)]),
   O1 4 (.mov (.tmp 11))] [1,4])
 (.seq (.ops [O1 12 (.mov (.tmp 4)),
   O1 13 (.bin .neq (.tmp 12) (.const (.int .i64 0)))] [1,4,13])
 (.cond (.tmp 13)
  (.seq (.ops [O1 14 (.mov (.tmp 4)),
    O1 2 (.mov (.const (.string ⟨#[]⟩))),
    O1 3 (.mov (.tmp 14))] [2,3])
  (.ret))
  (.skip))))
 (.seq (.ops [O1 5 (.alloc 69 [(1,(.pointer none)),(1,(.slice none 0 0))])] [1,5])
 (.seq (.seq (.ops [O1 15 (.fldA 1 (.tmp 1)),
   O1 16 (.load none (.tmp 15)),
   O1 17 (.mov (.const (.int .i64 0)))] [1,5,16,17])
 (.block 0
  (.loop [1,5,16,17]
   c11l1)))
 (.seq (.ops [O1 54 (.callF 35 [(.tmp 5)]),
   O1 2 (.mov (.tmp 54)),
   O1 3 (.mov (.const (.int .i64 0)))] [2,3])
 (.ret))))),
 55,[(2,none),(3,none)],true⟩
theorem ok11:FunOK Tryd.prog 11 c11:= .code ⟨Tryd.f11,_,c11.code,Tryd.func11,rfl,by kernel_rfl,rfl,by kernel_rfl,by kernel_rfl⟩
/- raddle/peg.Encode -/
def c13l0:AC:=
 .seq (.ops [O1 64 (.bin .lss (.tmp 63) (.tmp 62))] [1,2,5,8,62,63,64])
   (.seq (.cond (.tmp 64)
    (.skip)
    (.exit 2))
   (.seq (.block 3
    (.seq (.ops [O1 65 (.mov (.tmp 63)),
      O1 9 (.alloc 3 [(1,(.int .i64 0))]),
      ⟨none,none,.store 1 (.tmp 9) (.tmp 65)⟩] [1,2,5,8,9,62,63])
    (.draw [O1 66 (.mov (.tmp 8)),
      O1 67 (.load none (.tmp 9)),
      O1 68 (.fldA 1 (.tmp 1)),
      O1 69 (.load none (.tmp 68)),
      O1 70 (.mkFn 40 [] [(.tmp 5),(.tmp 9)]),
      O1 71 (.callF 38 [(.tmp 69),(.tmp 70)])] [O1 72 (.idxS 1 (.tmp 66) (.tmp 67)),
      ⟨none,none,.store 1 (.tmp 72) (.tmp 71)⟩] [[],[],[],[],[],[]] [1,2,5,8,62,63])))
   (.ops [O1 73 (.bin .add (.tmp 63) (.const (.int .i64 1))),
     O1 63 (.mov (.tmp 73))] [1,2,5,8,62,63])))
def c13l1:AC:=
 .seq (.ops [O1 22 (.bin .lss (.tmp 21) (.tmp 20))] [1,2,5,20,21,22])
   (.seq (.cond (.tmp 22)
    (.skip)
    (.exit 0))
   (.seq (.block 1
    (.seq (.ops [O1 23 (.mov (.tmp 21)),
      O1 6 (.mov (.tmp 23))] [1,2,5,6,20,21])
    (.seq (.ops [O1 24 (.fldA 0 (.tmp 1)),
      O1 25 (.load none (.tmp 24)),
      O1 26 (.bin .add (.tmp 25) (.const (.int .i64 1))),
      O1 27 (.mkSlice 4 1 1 [(.bool false)] (.tmp 26) (.tmp 26)),
      O1 7 (.alloc 22 [(1,(.slice none 0 0))]),
      ⟨none,none,.store 1 (.tmp 7) (.tmp 27)⟩] [1,2,5,6,7,20,21])
    (.seq (.draw [O1 28 (.load none (.tmp 7)),
      O1 29 (.fldA 2 (.tmp 1)),
      O1 30 (.load none (.tmp 29)),
      O1 31 (.mov (.tmp 6)),
      O1 32 (.fldA 0 (.tmp 1)),
      O1 33 (.load none (.tmp 32)),
      O1 34 (.bin .mul (.tmp 31) (.tmp 33)),
      O1 35 (.mov (.tmp 6)),
      O1 36 (.bin .add (.tmp 35) (.const (.int .i64 1))),
      O1 37 (.fldA 0 (.tmp 1)),
      O1 38 (.load none (.tmp 37)),
      O1 39 (.bin .mul (.tmp 36) (.tmp 38)),
      O1 40 (.slc 1 (.tmp 30) (some (.tmp 34)) (some (.tmp 39)) none)] [O1 41 (.copy 1 (.tmp 28) (.tmp 40))] [[],[],[],[],[],[],[],[],[],[],[],[],[]] [1,2,5,7,20,21])
    (.seq (.draw [O1 42 (.load none (.tmp 7)),
      O1 43 (.fldA 0 (.tmp 1)),
      O1 44 (.load none (.tmp 43)),
      O1 45 (.fldA 0 (.tmp 1)),
      O1 46 (.load none (.tmp 45)),
      O1 47 (.mkFn 39 [] [(.tmp 7)]),
      O1 48 (.callF 38 [(.tmp 46),(.tmp 47)])] [O1 49 (.idxS 1 (.tmp 42) (.tmp 44)),
      ⟨none,none,.store 1 (.tmp 49) (.tmp 48)⟩] [[],[],[],[],[],[],[]] [1,2,5,7,20,21])
    (.ops [O1 50 (.fldA 1 (.tmp 5)),
      O1 51 (.load none (.tmp 50)),
      O1 52 (.load none (.tmp 7)),
      O1 53 (.mkRow 22 1 1 [(.slice none 0 0)] [(0,1,(.tmp 52))]),
      O1 54 (.app 22 1 24 (.tmp 51) (.tmp 53)),
      O1 55 (.fldA 1 (.tmp 5)),
      ⟨none,none,.store 1 (.tmp 55) (.tmp 54)⟩] [1,2,5,20,21]))))))
   (.ops [O1 56 (.bin .add (.tmp 21) (.const (.int .i64 1))),
     O1 21 (.mov (.tmp 56))] [1,2,5,20,21])))
def c13:AFun:=⟨
 .seq (.ops [O1 1 (.box 24 (.tmp 0)),
   O1 2 (.alloc 34 [(1,(.int .i64 0)),(1,(.slice none 0 0))]),
   O1 3 (.mov (.const (.int .i64 0)))] [1,2])
 (.seq (.seq (.ops [O1 10 (.load (some 3) (.tmp 1)),
   O1 11 (.callF 15 [(.tmp 10)]),
   O1 4 (.mov (.tmp 11))] [1,2,4])
 (.seq (.ops [O1 12 (.mov (.tmp 4)),
   O1 13 (.bin .neq (.tmp 12) (.const (.int .i64 0)))] [1,2,4,13])
 (.cond (.tmp 13)
  (.seq (.ops [O1 14 (.build [(.int .i64 0),(.slice none 0 0)] []),
    O1 15 (.mov (.tmp 4)),
    ⟨none,none,.store 2 (.tmp 2) (.tmp 14)⟩,
    O1 3 (.mov (.tmp 15))] [2,3])
  (.ret))
  (.skip))))
 (.seq (.ops [O1 16 (.fldA 0 (.tmp 1)),
   O1 17 (.load none (.tmp 16)),
   O1 18 (.build [(.int .i64 0),(.slice none 0 0)] [(0,1,(.tmp 17))]),
   O1 5 (.alloc 34 [(1,(.int .i64 0)),(1,(.slice none 0 0))]),
   ⟨none,none,.store 2 (.tmp 5) (.tmp 18)⟩] [1,2,5])
 (.seq (.seq (.ops [O1 19 (.fldA 1 (.tmp 1)),
   O1 20 (.load none (.tmp 19)),
   O1 21 (.mov (.const (.int .i64 0)))] [1,2,5,20,21])
 (.block 0
  (.loop [1,2,5,20,21]
   c13l1)))
 (.seq (.ops [O1 57 (.fldA 0 (.tmp 1)),
   O1 58 (.load none (.tmp 57)),
   O1 59 (.bin .add (.tmp 58) (.const (.int .i64 1))),
   O1 60 (.mkSlice 4 1 1 [(.bool false)] (.tmp 59) (.tmp 59)),
   O1 8 (.mov (.tmp 60))] [1,2,5,8])
 (.seq (.seq (.ops [O1 61 (.mov (.tmp 8)),
   O1 62 (.len false (.tmp 61)),
   O1 63 (.mov (.const (.int .i64 0)))] [1,2,5,8,62,63])
 (.block 2
  (.loop [1,2,5,8,62,63]
   c13l0)))
 (.seq (.ops [O1 74 (.fldA 1 (.tmp 5)),
   O1 75 (.load none (.tmp 74)),
   O1 76 (.mov (.tmp 8)),
   O1 77 (.mkRow 22 1 1 [(.slice none 0 0)] [(0,1,(.tmp 76))]),
   O1 78 (.app 22 1 24 (.tmp 75) (.tmp 77)),
   O1 79 (.fldA 1 (.tmp 5)),
   ⟨none,none,.store 1 (.tmp 79) (.tmp 78)⟩] [2,5])
 (.seq (.ops [O1 80 (.load (some 2) (.tmp 5)),
   ⟨none,none,.store 2 (.tmp 2) (.tmp 80)⟩,
   O1 3 (.mov (.const (.int .i64 0)))] [2,3])
 (.ret)))))))),
 81,[(2,(some (some 2))),(3,none)],true⟩
theorem ok13:FunOK Tryd.prog 13 c13:= .code ⟨Tryd.f13,_,c13.code,Tryd.func13,rfl,by kernel_rfl,rfl,by kernel_rfl,by kernel_rfl⟩
/- raddle/peg.Check -/
def c15:AFun:=⟨
 .seq (.ops [O1 1 (.box 24 (.tmp 0)),
   O1 2 (.mov (.const (.int .i64 0)))] [1])
 (.seq (.seq (.ops [O1 4 (.load (some 3) (.tmp 1)),
   O1 5 (.callF 43 [(.tmp 4)]),
   O1 3 (.mov (.tmp 5))] [1,3])
 (.seq (.ops [O1 6 (.mov (.tmp 3)),
   O1 7 (.bin .neq (.tmp 6) (.const (.int .i64 0)))] [1,3,7])
 (.cond (.tmp 7)
  (.seq (.ops [O1 8 (.mov (.tmp 3)),
    O1 2 (.mov (.tmp 8))] [2])
  (.ret))
  (.skip))))
 (.seq (.seq (.ops [O1 9 (.fldA 0 (.tmp 1)),
   O1 10 (.load none (.tmp 9)),
   O1 11 (.bin .gtr (.tmp 10) (.const (.int .i64 40)))] [11])
 (.cond (.tmp 11)
  (.seq (.ops [O1 2 (.mov (.const (.int .i64 8)))] [2])
  (.ret))
  (.skip)))
 (.seq (.ops [O1 2 (.mov (.const (.int .i64 0)))] [2])
 (.ret)))),
 12,[(2,none)],true⟩
theorem ok15:FunOK Tryd.prog 15 c15:= .code ⟨Tryd.f15,_,c15.code,Tryd.func15,rfl,by kernel_rfl,rfl,by kernel_rfl,by kernel_rfl⟩
/- raddle/raddleref01.Same -/
def c18l0:AC:=
 .seq (.seq (.ops [O1 27 (.mov (.tmp 5)),
     O1 28 (.fldA 2 (.tmp 2)),
     O1 29 (.load none (.tmp 28)),
     O1 30 (.len false (.tmp 29)),
     O1 31 (.bin .lss (.tmp 27) (.tmp 30))] [2,3,5,31])
   (.cond (.tmp 31)
    (.skip)
    (.exit 0)))
   (.seq (.block 1
    (.seq (.draw [O1 34 (.fldA 2 (.tmp 2)),
      O1 35 (.load none (.tmp 34)),
      O1 36 (.mov (.tmp 5)),
      O1 37 (.idxS 1 (.tmp 35) (.tmp 36)),
      O1 38 (.load none (.tmp 37)),
      O1 39 (.fldA 2 (.tmp 3)),
      O1 40 (.load none (.tmp 39)),
      O1 41 (.mov (.tmp 5)),
      O1 42 (.idxS 1 (.tmp 40) (.tmp 41)),
      O1 43 (.load none (.tmp 42))] [O1 44 (.eqB true (.tmp 38) (.tmp 43))] [[],[],[],[],[],[],[],[],[],[]] [2,3,5,44])
    (.cond (.tmp 44)
     (.seq (.ops [O1 4 (.mov (.const (.bool false)))] [4])
     (.ret))
     (.skip))))
   (.ops [O1 32 (.mov (.tmp 5)),
     O1 33 (.bin .add (.tmp 32) (.const (.int .i64 1))),
     O1 5 (.mov (.tmp 33))] [2,3,5]))
def c18:AFun:=⟨
 .seq (.ops [O1 2 (.box 24 (.tmp 0)),
   O1 3 (.box 24 (.tmp 1)),
   O1 4 (.mov (.const (.bool false)))] [2,3])
 (.seq (.seq (.ops [O1 6 (.fldA 0 (.tmp 2)),
   O1 7 (.load none (.tmp 6)),
   O1 8 (.fldA 0 (.tmp 3)),
   O1 9 (.load none (.tmp 8)),
   O1 10 (.bin .neq (.tmp 7) (.tmp 9)),
   O1 11 (.mov (.tmp 10)),
   ⟨(some 12),(some (11,false)),.fldA 1 (.tmp 2)⟩,
   ⟨(some 13),(some (11,false)),.load none (.tmp 12)⟩,
   ⟨(some 14),(some (11,false)),.fldA 1 (.tmp 3)⟩,
   ⟨(some 15),(some (11,false)),.load none (.tmp 14)⟩,
   ⟨(some 16),(some (11,false)),.bin .neq (.tmp 13) (.tmp 15)⟩,
   O1 17 (.pick (.tmp 11) (.const (.bool true)) (.tmp 16)),
   O1 18 (.mov (.tmp 17)),
   ⟨(some 19),(some (18,false)),.fldA 2 (.tmp 2)⟩,
   ⟨(some 20),(some (18,false)),.load none (.tmp 19)⟩,
   ⟨(some 21),(some (18,false)),.len false (.tmp 20)⟩,
   ⟨(some 22),(some (18,false)),.fldA 2 (.tmp 3)⟩,
   ⟨(some 23),(some (18,false)),.load none (.tmp 22)⟩,
   ⟨(some 24),(some (18,false)),.len false (.tmp 23)⟩,
   ⟨(some 25),(some (18,false)),.bin .neq (.tmp 21) (.tmp 24)⟩,
   O1 26 (.pick (.tmp 18) (.const (.bool true)) (.tmp 25))] [2,3,26])
 (.cond (.tmp 26)
  (.seq (.ops [O1 4 (.mov (.const (.bool false)))] [4])
  (.ret))
  (.skip)))
 (.seq (.seq (.ops [O1 5 (.mov (.const (.int .i64 0)))] [2,3,5])
 (.block 0
  (.loop [2,3,5]
   c18l0)))
 (.seq (.ops [O1 4 (.mov (.const (.bool true)))] [4])
 (.ret)))),
 45,[(4,none)],true⟩
theorem ok18:FunOK Tryd.prog 18 c18:= .code ⟨Tryd.f18,_,c18.code,Tryd.func18,rfl,by kernel_rfl,rfl,by kernel_rfl,by kernel_rfl⟩
/- raddle/raddlelaw18.alive -/
def c19:AFun:=⟨
 .seq (.ops [O1 0 (.mov (.const (.bool false)))] [])
 (.seq (.ops [O1 11 (.callF 45 []),
   O1 12 (.callF 11 [(.tmp 11)]),
   O1 10 (.mov (.tmp 12)),
   O1 13 (.ext (.tmp 10) 0),
   O1 14 (.ext (.tmp 10) 1),
   O1 1 (.mov (.tmp 13)),
   O1 2 (.mov (.tmp 14))] [1,2])
 (.seq (.ops [O1 16 (.callF 45 []),
   O1 17 (.callF 13 [(.tmp 16)]),
   O1 15 (.mov (.tmp 17)),
   O1 18 (.ext (.tmp 15) 0),
   O1 19 (.ext (.tmp 15) 1),
   O1 3 (.alloc 34 [(1,(.int .i64 0)),(1,(.slice none 0 0))]),
   ⟨none,none,.store 2 (.tmp 3) (.tmp 18)⟩,
   O1 4 (.mov (.tmp 19))] [1,2,3,4])
 (.seq (.ops [O1 21 (.load (some 2) (.tmp 3)),
   O1 22 (.callF 29 [(.tmp 21)]),
   O1 20 (.mov (.tmp 22)),
   O1 23 (.ext (.tmp 20) 0),
   O1 24 (.ext (.tmp 20) 1),
   O1 5 (.mov (.tmp 23)),
   O1 6 (.mov (.tmp 24))] [1,2,3,4,5,6])
 (.seq (.seq (.ops [O1 25 (.mov (.tmp 2)),
   O1 26 (.bin .neq (.tmp 25) (.const (.int .i64 0))),
   O1 27 (.mov (.tmp 26)),
   ⟨(some 28),(some (27,false)),.mov (.tmp 4)⟩,
   ⟨(some 29),(some (27,false)),.bin .neq (.tmp 28) (.const (.int .i64 0))⟩,
   O1 30 (.pick (.tmp 27) (.const (.bool true)) (.tmp 29)),
   O1 31 (.mov (.tmp 30)),
   ⟨(some 32),(some (31,false)),.mov (.tmp 6)⟩,
   ⟨(some 33),(some (31,false)),.bin .neq (.tmp 32) (.const (.int .i64 0))⟩,
   O1 34 (.pick (.tmp 31) (.const (.bool true)) (.tmp 33)),
   O1 35 (.mov (.tmp 34)),
   ⟨(some 36),(some (35,false)),.mov (.tmp 1)⟩,
   ⟨(some 37),(some (35,false)),.bin .neq (.tmp 36) (.const (.string ⟨#[49,10,49,32,50,10]⟩))⟩,
   O1 38 (.pick (.tmp 35) (.const (.bool true)) (.tmp 37)),
   O1 39 (.mov (.tmp 38)),
   ⟨(some 40),(some (39,false)),.mov (.tmp 5)⟩,
   ⟨(some 41),(some (39,false)),.bin .neq (.tmp 40) (.const (.string ⟨#[111,46,111,10,111,111,46,10,46,111,111,10]⟩))⟩,
   O1 42 (.pick (.tmp 39) (.const (.bool true)) (.tmp 41)),
   O1 43 (.mov (.tmp 42)),
   ⟨(some 44),(some (43,false)),.load (some 2) (.tmp 3)⟩,
   ⟨(some 45),(some (43,false)),.callF 21 [(.tmp 44)]⟩,
   ⟨(some 46),(some (43,false)),.bin .neq (.tmp 45) (.const (.int .i64 0))⟩,
   O1 47 (.pick (.tmp 43) (.const (.bool true)) (.tmp 46))] [3,47])
 (.cond (.tmp 47)
  (.seq (.ops [O1 0 (.mov (.const (.bool false)))] [0])
  (.ret))
  (.skip)))
 (.seq (.draw [O1 48 (.fldA 1 (.tmp 3)),
   O1 49 (.load none (.tmp 48)),
   O1 50 (.idxS 1 (.tmp 49) (.const (.int .i64 0))),
   O1 51 (.load none (.tmp 50)),
   O1 52 (.fldA 1 (.tmp 3)),
   O1 53 (.load none (.tmp 52)),
   O1 54 (.idxS 1 (.tmp 53) (.const (.int .i64 0))),
   O1 55 (.load none (.tmp 54)),
   O1 56 (.idxS 1 (.tmp 55) (.const (.int .i64 1))),
   O1 57 (.load none (.tmp 56)),
   O1 58 (.un .not (.tmp 57))] [O1 59 (.idxS 1 (.tmp 51) (.const (.int .i64 1))),
   ⟨none,none,.store 1 (.tmp 59) (.tmp 58)⟩] [[],[],[],[],[],[],[],[],[],[],[]] [3])
 (.seq (.ops [O1 61 (.load (some 2) (.tmp 3)),
   O1 62 (.callF 30 [(.tmp 61)]),
   O1 60 (.mov (.tmp 62)),
   O1 63 (.ext (.tmp 60) 0),
   O1 64 (.ext (.tmp 60) 1),
   O1 65 (.ext (.tmp 60) 2),
   O1 7 (.mov (.tmp 63)),
   O1 8 (.mov (.tmp 64)),
   O1 9 (.mov (.tmp 65))] [7,8,9])
 (.seq (.ops [O1 66 (.mov (.tmp 9)),
   O1 67 (.bin .eql (.tmp 66) (.const (.int .i64 0))),
   O1 68 (.mov (.tmp 67)),
   ⟨(some 69),(some (68,true)),.mov (.tmp 7)⟩,
   ⟨(some 70),(some (68,true)),.mkRow 3 1 1 [(.int .i64 0)] [(0,1,(.const (.int .i64 0)))]⟩,
   ⟨(some 71),(some (68,true)),.callF 46 [(.tmp 69),(.tmp 70)]⟩,
   O1 72 (.pick (.tmp 68) (.tmp 71) (.const (.bool false))),
   O1 73 (.mov (.tmp 72)),
   ⟨(some 74),(some (73,true)),.mov (.tmp 8)⟩,
   ⟨(some 75),(some (73,true)),.mkRow 3 1 1 [(.int .i64 0)] [(0,1,(.const (.int .i64 1)))]⟩,
   ⟨(some 76),(some (73,true)),.callF 46 [(.tmp 74),(.tmp 75)]⟩,
   O1 77 (.pick (.tmp 73) (.tmp 76) (.const (.bool false))),
   O1 0 (.mov (.tmp 77))] [0])
 (.ret)))))))),
 78,[(0,none)],true⟩
theorem ok19:FunOK Tryd.prog 19 c19:= .code ⟨Tryd.f19,_,c19.code,Tryd.func19,rfl,by kernel_rfl,rfl,by kernel_rfl,by kernel_rfl⟩
/- raddle/raddleref18.Chain -/
def c21l0:AC:=
 .seq (.seq (.ops [O1 24 (.mov (.tmp 3)),
     O1 25 (.fldA 1 (.tmp 1)),
     O1 26 (.load none (.tmp 25)),
     O1 27 (.len false (.tmp 26)),
     O1 28 (.bin .lss (.tmp 24) (.tmp 27))] [1,3,28])
   (.cond (.tmp 28)
    (.skip)
    (.exit 0)))
   (.seq (.block 1
    (.seq (.draw [O1 31 (.fldA 1 (.tmp 1)),
      O1 32 (.load none (.tmp 31)),
      O1 33 (.mov (.tmp 3)),
      O1 34 (.idxS 1 (.tmp 32) (.tmp 33)),
      O1 35 (.load none (.tmp 34)),
      O1 36 (.len false (.tmp 35)),
      O1 37 (.fldA 0 (.tmp 1)),
      O1 38 (.load none (.tmp 37)),
      O1 39 (.bin .add (.tmp 38) (.const (.int .i64 1)))] [O1 40 (.bin .neq (.tmp 36) (.tmp 39))] [[],[],[],[],[],[],[],[],[]] [1,3,40])
    (.cond (.tmp 40)
     (.seq (.ops [O1 2 (.mov (.const (.int .i64 8)))] [2])
     (.ret))
     (.skip))))
   (.ops [O1 29 (.mov (.tmp 3)),
     O1 30 (.bin .add (.tmp 29) (.const (.int .i64 1))),
     O1 3 (.mov (.tmp 30))] [1,3]))
def c21:AFun:=⟨
 .seq (.ops [O1 1 (.box 34 (.tmp 0)),
   O1 2 (.mov (.const (.int .i64 0)))] [1])
 (.seq (.seq (.ops [O1 4 (.fldA 0 (.tmp 1)),
   O1 5 (.load none (.tmp 4)),
   O1 6 (.bin .lss (.tmp 5) (.const (.int .i64 1))),
   O1 7 (.mov (.tmp 6)),
   ⟨(some 8),(some (7,false)),.fldA 0 (.tmp 1)⟩,
   ⟨(some 9),(some (7,false)),.load none (.tmp 8)⟩,
   ⟨(some 10),(some (7,false)),.bin .gtr (.tmp 9) (.const (.int .i64 40))⟩,
   O1 11 (.pick (.tmp 7) (.const (.bool true)) (.tmp 10)),
   O1 12 (.mov (.tmp 11)),
   ⟨(some 13),(some (12,false)),.fldA 1 (.tmp 1)⟩,
   ⟨(some 14),(some (12,false)),.load none (.tmp 13)⟩,
   ⟨(some 15),(some (12,false)),.len false (.tmp 14)⟩,
   ⟨(some 16),(some (12,false)),.bin .lss (.tmp 15) (.const (.int .i64 2))⟩,
   O1 17 (.pick (.tmp 12) (.const (.bool true)) (.tmp 16)),
   O1 18 (.mov (.tmp 17)),
   ⟨(some 19),(some (18,false)),.fldA 1 (.tmp 1)⟩,
   ⟨(some 20),(some (18,false)),.load none (.tmp 19)⟩,
   ⟨(some 21),(some (18,false)),.len false (.tmp 20)⟩,
   ⟨(some 22),(some (18,false)),.bin .gtr (.tmp 21) (.const (.int .i64 65))⟩,
   O1 23 (.pick (.tmp 18) (.const (.bool true)) (.tmp 22))] [1,23])
 (.cond (.tmp 23)
  (.seq (.ops [O1 2 (.mov (.const (.int .i64 8)))] [2])
  (.ret))
  (.skip)))
 (.seq (.seq (.ops [O1 3 (.mov (.const (.int .i64 0)))] [1,3])
 (.block 0
  (.loop [1,3]
   c21l0)))
 (.seq (.ops [O1 2 (.mov (.const (.int .i64 0)))] [2])
 (.ret)))),
 41,[(2,none)],true⟩
theorem ok21:FunOK Tryd.prog 21 c21:= .code ⟨Tryd.f21,_,c21.code,Tryd.func21,rfl,by kernel_rfl,rfl,by kernel_rfl,by kernel_rfl⟩
/- raddle/peg.Mend -/
def c23l0:AC:=
 .seq (.ops [O1 30 (.bin .lss (.tmp 29) (.tmp 28))] [2,3,6,7,8,27,28,29,30])
   (.seq (.cond (.tmp 30)
    (.skip)
    (.exit 0))
   (.seq (.block 1
    (.seq (.ops [O1 31 (.idxS 1 (.tmp 27) (.tmp 29)),
      O1 32 (.load none (.tmp 31)),
      O1 10 (.mov (.tmp 32))] [2,3,6,7,8,10,27,28,29])
    (.seq (.ops [O1 33 (.mov (.tmp 10)),
      O1 34 (.len false (.tmp 33)),
      O1 35 (.mkSlice 4 1 1 [(.bool false)] (.tmp 34) (.tmp 34)),
      O1 11 (.mov (.tmp 35))] [2,3,6,7,8,10,11,27,28,29])
    (.seq (.ops [O1 36 (.mov (.tmp 11)),
      O1 37 (.mov (.tmp 10)),
      O1 38 (.copy 1 (.tmp 36) (.tmp 37))] [2,3,6,7,8,11,27,28,29])
    (.ops [O1 39 (.fldA 1 (.tmp 8)),
      O1 40 (.load none (.tmp 39)),
      O1 41 (.mov (.tmp 11)),
      O1 42 (.mkRow 22 1 1 [(.slice none 0 0)] [(0,1,(.tmp 41))]),
      O1 43 (.app 22 1 24 (.tmp 40) (.tmp 42)),
      O1 44 (.fldA 1 (.tmp 8)),
      ⟨none,none,.store 1 (.tmp 44) (.tmp 43)⟩] [2,3,6,7,8,27,28,29])))))
   (.ops [O1 45 (.bin .add (.tmp 29) (.const (.int .i64 1))),
     O1 29 (.mov (.tmp 45))] [2,3,6,7,8,27,28,29])))
def c23:AFun:=⟨
 .seq (.ops [O1 1 (.box 34 (.tmp 0)),
   O1 2 (.alloc 34 [(1,(.int .i64 0)),(1,(.slice none 0 0))]),
   O1 3 (.alloc 47 [(2,(.int .i64 0))]),
   O1 4 (.mov (.const (.bool false))),
   O1 5 (.mov (.const (.int .i64 0)))] [1,2,3])
 (.seq (.ops [O1 13 (.load (some 2) (.tmp 1)),
   O1 14 (.callF 30 [(.tmp 13)]),
   O1 12 (.mov (.tmp 14)),
   O1 15 (.ext (.tmp 12) 0),
   O1 16 (.ext (.tmp 12) 1),
   O1 17 (.ext (.tmp 12) 2),
   O1 6 (.mov (.tmp 15)),
   O1 7 (.mov (.tmp 16)),
   O1 5 (.mov (.tmp 17))] [1,2,3,5,6,7])
 (.seq (.seq (.ops [O1 18 (.mov (.tmp 5)),
   O1 19 (.bin .neq (.tmp 18) (.const (.int .i64 0)))] [1,2,3,5,6,7,19])
 (.cond (.tmp 19)
  (.seq (.ops [O1 20 (.build [(.int .i64 0),(.slice none 0 0)] []),
    O1 21 (.build [(.int .i64 0),(.int .i64 0)] []),
    O1 22 (.mov (.tmp 5)),
    ⟨none,none,.store 2 (.tmp 2) (.tmp 20)⟩,
    ⟨none,none,.store 2 (.tmp 3) (.tmp 21)⟩,
    O1 4 (.mov (.const (.bool false))),
    O1 5 (.mov (.tmp 22))] [2,3,4,5])
  (.ret))
  (.skip)))
 (.seq (.ops [O1 23 (.fldA 0 (.tmp 1)),
   O1 24 (.load none (.tmp 23)),
   O1 25 (.build [(.int .i64 0),(.slice none 0 0)] [(0,1,(.tmp 24))]),
   O1 8 (.alloc 34 [(1,(.int .i64 0)),(1,(.slice none 0 0))]),
   ⟨none,none,.store 2 (.tmp 8) (.tmp 25)⟩] [1,2,3,6,7,8])
 (.seq (.seq (.ops [O1 26 (.fldA 1 (.tmp 1)),
   O1 27 (.load none (.tmp 26)),
   O1 28 (.len false (.tmp 27)),
   O1 29 (.mov (.const (.int .i64 0)))] [2,3,6,7,8,27,28,29])
 (.block 0
  (.loop [2,3,6,7,8,27,28,29]
   c23l0)))
 (.seq (.seq (.ops [O1 46 (.mov (.tmp 6)),
   O1 47 (.len false (.tmp 46)),
   O1 48 (.bin .eql (.tmp 47) (.const (.int .i64 0))),
   O1 49 (.mov (.tmp 48)),
   ⟨(some 50),(some (49,true)),.mov (.tmp 7)⟩,
   ⟨(some 51),(some (49,true)),.len false (.tmp 50)⟩,
   ⟨(some 52),(some (49,true)),.bin .eql (.tmp 51) (.const (.int .i64 0))⟩,
   O1 53 (.pick (.tmp 49) (.tmp 52) (.const (.bool false)))] [2,3,6,7,8,53])
 (.cond (.tmp 53)
  (.seq (.ops [O1 54 (.load (some 2) (.tmp 8)),
    O1 55 (.build [(.int .i64 0),(.int .i64 0)] []),
    ⟨none,none,.store 2 (.tmp 2) (.tmp 54)⟩,
    ⟨none,none,.store 2 (.tmp 3) (.tmp 55)⟩,
    O1 4 (.mov (.const (.bool false))),
    O1 5 (.mov (.const (.int .i64 0)))] [2,3,4,5])
  (.ret))
  (.skip)))
 (.seq (.seq (.ops [O1 56 (.mov (.tmp 6)),
   O1 57 (.len false (.tmp 56)),
   O1 58 (.bin .neq (.tmp 57) (.const (.int .i64 1))),
   O1 59 (.mov (.tmp 58)),
   ⟨(some 60),(some (59,false)),.mov (.tmp 7)⟩,
   ⟨(some 61),(some (59,false)),.len false (.tmp 60)⟩,
   ⟨(some 62),(some (59,false)),.bin .neq (.tmp 61) (.const (.int .i64 1))⟩,
   O1 63 (.pick (.tmp 59) (.const (.bool true)) (.tmp 62))] [2,3,6,7,8,63])
 (.cond (.tmp 63)
  (.seq (.ops [O1 64 (.build [(.int .i64 0),(.slice none 0 0)] []),
    O1 65 (.build [(.int .i64 0),(.int .i64 0)] []),
    ⟨none,none,.store 2 (.tmp 2) (.tmp 64)⟩,
    ⟨none,none,.store 2 (.tmp 3) (.tmp 65)⟩,
    O1 4 (.mov (.const (.bool false))),
    O1 5 (.mov (.const (.int .i64 30)))] [2,3,4,5])
  (.ret))
  (.skip)))
 (.seq (.draw [O1 66 (.mov (.tmp 7)),
   O1 67 (.idxS 1 (.tmp 66) (.const (.int .i64 0))),
   O1 68 (.load none (.tmp 67)),
   O1 69 (.mov (.tmp 6)),
   O1 70 (.idxS 1 (.tmp 69) (.const (.int .i64 0))),
   O1 71 (.load none (.tmp 70))] [O1 72 (.build [(.int .i64 0),(.int .i64 0)] [(0,1,(.tmp 68)),(1,1,(.tmp 71))]),
   ⟨none,none,.store 2 (.tmp 3) (.tmp 72)⟩] [[],[],[],[],[],[]] [2,3,8])
 (.seq (.draw [O1 73 (.fldA 1 (.tmp 8)),
   O1 74 (.load none (.tmp 73)),
   O1 75 (.fldA 1 (.tmp 3)),
   O1 76 (.load none (.tmp 75)),
   O1 77 (.idxS 1 (.tmp 74) (.tmp 76)),
   O1 78 (.load none (.tmp 77)),
   O1 79 (.fldA 0 (.tmp 3)),
   O1 80 (.load none (.tmp 79)),
   O1 81 (.fldA 1 (.tmp 8)),
   O1 82 (.load none (.tmp 81)),
   O1 83 (.fldA 1 (.tmp 3)),
   O1 84 (.load none (.tmp 83)),
   O1 85 (.idxS 1 (.tmp 82) (.tmp 84)),
   O1 86 (.load none (.tmp 85)),
   O1 87 (.fldA 0 (.tmp 3)),
   O1 88 (.load none (.tmp 87)),
   O1 89 (.idxS 1 (.tmp 86) (.tmp 88)),
   O1 90 (.load none (.tmp 89)),
   O1 91 (.un .not (.tmp 90))] [O1 92 (.idxS 1 (.tmp 78) (.tmp 80)),
   ⟨none,none,.store 1 (.tmp 92) (.tmp 91)⟩] [[],[],[],[],[],[],[],[],[],[],[],[],[],[],[],[],[],[],[]] [2,3,8])
 (.seq (.drawW [⟨O1 93 (.load (some 2) (.tmp 8)),[],none⟩,
   ⟨O1 94 (.load (some 2) (.tmp 3)),[0],none⟩,
   ⟨⟨none,none,.store 2 (.tmp 2) (.tmp 93)⟩,[1],none⟩] [⟨none,none,.store 2 (.tmp 3) (.tmp 94)⟩,
   O1 4 (.mov (.const (.bool true))),
   O1 5 (.mov (.const (.int .i64 0)))] [2,3,4,5])
 (.ret)))))))))),
 95,[(2,(some (some 2))),(3,(some (some 2))),(4,none),(5,none)],true⟩
theorem ok23:FunOK Tryd.prog 23 c23:= .code ⟨Tryd.f23,_,c23.code,Tryd.func23,rfl,by kernel_rfl,rfl,by kernel_rfl,by kernel_rfl⟩
/- raddle/peg.Decode -/
def c24l0:AC:=
 .seq (.ops [O1 41 (.bin .lss (.tmp 40) (.tmp 39))] [2,7,38,39,40,41])
   (.seq (.cond (.tmp 41)
    (.skip)
    (.exit 0))
   (.seq (.block 1
    (.seq (.ops [O1 42 (.idxS 1 (.tmp 38) (.tmp 40)),
      O1 43 (.load none (.tmp 42)),
      O1 9 (.mov (.tmp 43))] [2,7,9,38,39,40])
    (.draw [O1 44 (.fldA 2 (.tmp 7)),
      O1 45 (.load none (.tmp 44)),
      O1 46 (.mov (.tmp 9)),
      O1 47 (.fldA 0 (.tmp 7)),
      O1 48 (.load none (.tmp 47)),
      O1 49 (.slc 1 (.tmp 46) none (some (.tmp 48)) none)] [O1 50 (.app 4 1 1 (.tmp 45) (.tmp 49)),
      O1 51 (.fldA 2 (.tmp 7)),
      ⟨none,none,.store 1 (.tmp 51) (.tmp 50)⟩] [[],[],[],[],[],[]] [2,7,38,39,40])))
   (.ops [O1 52 (.bin .add (.tmp 40) (.const (.int .i64 1))),
     O1 40 (.mov (.tmp 52))] [2,7,38,39,40])))
def c24:AFun:=⟨
 .seq (.ops [O1 1 (.box 34 (.tmp 0)),
   O1 2 (.alloc 24 [(2,(.int .i64 0)),(1,(.slice none 0 0))]),
   O1 3 (.mov (.const (.int .i64 0)))] [1,2])
 (.seq (.ops [O1 11 (.load (some 2) (.tmp 1)),
   O1 12 (.callF 30 [(.tmp 11)]),
   O1 10 (.mov (.tmp 12)),
   O1 13 (.ext (.tmp 10) 0),
   O1 14 (.ext (.tmp 10) 1),
   O1 15 (.ext (.tmp 10) 2),
   O1 4 (.mov (.tmp 13)),
   O1 5 (.mov (.tmp 14)),
   O1 6 (.mov (.tmp 15))] [1,2,4,5,6])
 (.seq (.seq (.ops [O1 16 (.mov (.tmp 6)),
   O1 17 (.bin .neq (.tmp 16) (.const (.int .i64 0)))] [1,2,4,5,6,17])
 (.cond (.tmp 17)
  (.seq (.ops [O1 18 (.build [(.int .i64 0),(.int .i64 0),(.slice none 0 0)] []),
    O1 19 (.mov (.tmp 6)),
    ⟨none,none,.store 3 (.tmp 2) (.tmp 18)⟩,
    O1 3 (.mov (.tmp 19))] [2,3])
  (.ret))
  (.skip)))
 (.seq (.seq (.ops [O1 20 (.mov (.tmp 4)),
   O1 21 (.len false (.tmp 20)),
   O1 22 (.mov (.tmp 5)),
   O1 23 (.len false (.tmp 22)),
   O1 24 (.bin .add (.tmp 21) (.tmp 23)),
   O1 25 (.bin .gtr (.tmp 24) (.const (.int .i64 0)))] [1,2,25])
 (.cond (.tmp 25)
  (.seq (.ops [O1 26 (.build [(.int .i64 0),(.int .i64 0),(.slice none 0 0)] []),
    ⟨none,none,.store 3 (.tmp 2) (.tmp 26)⟩,
    O1 3 (.mov (.const (.int .i64 30)))] [2,3])
  (.ret))
  (.skip)))
 (.seq (.ops [O1 27 (.fldA 0 (.tmp 1)),
   O1 28 (.load none (.tmp 27)),
   O1 29 (.fldA 1 (.tmp 1)),
   O1 30 (.load none (.tmp 29)),
   O1 31 (.len false (.tmp 30)),
   O1 32 (.bin .sub (.tmp 31) (.const (.int .i64 1))),
   O1 33 (.build [(.int .i64 0),(.int .i64 0),(.slice none 0 0)] [(0,1,(.tmp 28)),(1,1,(.tmp 32))]),
   O1 7 (.alloc 24 [(2,(.int .i64 0)),(1,(.slice none 0 0))]),
   ⟨none,none,.store 3 (.tmp 7) (.tmp 33)⟩] [1,2,7])
 (.seq (.seq (.ops [O1 34 (.fldA 1 (.tmp 1)),
   O1 35 (.load none (.tmp 34)),
   O1 36 (.fldA 1 (.tmp 7)),
   O1 37 (.load none (.tmp 36)),
   O1 38 (.slc 1 (.tmp 35) none (some (.tmp 37)) none),
   O1 39 (.len false (.tmp 38)),
   O1 40 (.mov (.const (.int .i64 0)))] [2,7,38,39,40])
 (.block 0
  (.loop [2,7,38,39,40]
   c24l0)))
 (.seq (.ops [O1 53 (.load (some 3) (.tmp 7)),
   ⟨none,none,.store 3 (.tmp 2) (.tmp 53)⟩,
   O1 3 (.mov (.const (.int .i64 0)))] [2,3])
 (.ret))))))),
 54,[(2,(some (some 3))),(3,none)],true⟩
theorem ok24:FunOK Tryd.prog 24 c24:= .code ⟨Tryd.f24,_,c24.code,Tryd.func24,rfl,by kernel_rfl,rfl,by kernel_rfl,by kernel_rfl⟩
/- raddle/peg.Read -/
def c25a0:AC:=
 (.ops [O1 13 (.mov (.tmp 52))] [3,12,13])
def c25b0:AC:=
 (.block 3
       (.seq (.ops [O1 54 (.mov (.tmp 13)),
         O1 55 (.callF 50 [(.tmp 54)]),
         O1 53 (.mov (.tmp 55)),
         O1 56 (.ext (.tmp 53) 0),
         O1 57 (.ext (.tmp 53) 1),
         O1 14 (.mov (.tmp 56)),
         O1 15 (.mov (.tmp 57))] [3,12,14,15])
       (.seq (.ops [O1 58 (.mov (.tmp 15)),
         O1 59 (.eqIf false true [2,3,5,6,12,21,27,111,119,129,137,159,160,162,163] (.tmp 58) (.const .nilIface)),
         O1 60 (.mov (.tmp 59)),
         ⟨(some 61),(some (60,true)),.mov (.tmp 14)⟩,
         ⟨(some 62),(some (60,true)),.bin .geq (.tmp 61) (.const (.int .i64 1))⟩,
         O1 63 (.pick (.tmp 60) (.tmp 62) (.const (.bool false))),
         O1 64 (.mov (.tmp 63)),
         ⟨(some 65),(some (64,true)),.mov (.tmp 14)⟩,
         ⟨(some 66),(some (64,true)),.load none (.tmp 3)⟩,
         ⟨(some 67),(some (64,true)),.bin .leq (.tmp 65) (.tmp 66)⟩,
         O1 68 (.pick (.tmp 64) (.tmp 67) (.const (.bool false)))] [12,14,68])
       (.cond (.tmp 68)
        (.ops [O1 69 (.load none (.tmp 12)),
          O1 70 (.mov (.tmp 14)),
          O1 71 (.bin .sub (.tmp 70) (.const (.int .i64 1))),
          O1 72 (.idxS 1 (.tmp 69) (.tmp 71)),
          ⟨none,none,.store 1 (.tmp 72) (.const (.bool true))⟩] [])
        (.skip)))))
def c25l0:AC:=
 .seq (.ops [O1 45 (.bin .lss (.tmp 44) (.tmp 43))] [0,3,4,5,6,42,43,44,45])
   (.seq (.cond (.tmp 45)
    (.skip)
    (.exit 0))
   (.seq (.block 1
    (.seq (.ops [O1 46 (.idxS 1 (.tmp 42) (.tmp 44)),
      O1 47 (.load none (.tmp 46)),
      O1 11 (.mov (.tmp 47))] [0,3,4,5,6,11,42,43,44])
    (.seq (.ops [O1 48 (.load none (.tmp 3)),
      O1 49 (.mkSlice 4 1 1 [(.bool false)] (.tmp 48) (.tmp 48)),
      O1 12 (.alloc 22 [(1,(.slice none 0 0))]),
      ⟨none,none,.store 1 (.tmp 12) (.tmp 49)⟩] [0,3,4,5,6,11,12,42,43,44])
    (.seq (.seq (.ops [O1 50 (.mov (.tmp 11)),
      O1 51 (.callF 49 [(.tmp 50),(.const (.string ⟨#[32]⟩))])] [0,3,4,5,6,12,42,43,44,51])
    (.block 2
     (.rangeF (.tmp 51) [52] [0,3,4,5,6,12,42,43,44]
      c25a0 c25b0)))
    (.seq (.ops [O1 73 (.fldA 2 (.tmp 6)),
      O1 74 (.load none (.tmp 73)),
      O1 75 (.load none (.tmp 12)),
      O1 76 (.app 4 1 1 (.tmp 74) (.tmp 75)),
      O1 77 (.fldA 2 (.tmp 6)),
      ⟨none,none,.store 1 (.tmp 77) (.tmp 76)⟩] [0,3,4,5,6,42,43,44])
    (.ops [O1 78 (.fldA 1 (.tmp 6)),
      O1 79 (.load none (.tmp 78)),
      O1 80 (.bin .add (.tmp 79) (.const (.int .i64 1))),
      O1 81 (.fldA 1 (.tmp 6)),
      ⟨none,none,.store 1 (.tmp 81) (.tmp 80)⟩] [0,3,4,5,6,42,43,44]))))))
   (.ops [O1 82 (.bin .add (.tmp 44) (.const (.int .i64 1))),
     O1 44 (.mov (.tmp 82))] [0,3,4,5,6,42,43,44])))
def c25:AFun:=⟨
 .seq (.ops [O1 3 (.box 3 (.tmp 1)),
   O1 4 (.alloc 24 [(2,(.int .i64 0)),(1,(.slice none 0 0))]),
   O1 5 (.mov (.const (.int .i64 0)))] [0,3,4,5])
 (.seq (.seq (.ops [O1 18 (.load none (.tmp 3)),
   O1 19 (.bin .lss (.tmp 18) (.const (.int .i64 1))),
   O1 20 (.mov (.tmp 19)),
   ⟨(some 21),(some (20,false)),.load none (.tmp 3)⟩,
   ⟨(some 22),(some (20,false)),.bin .gtr (.tmp 21) (.const (.int .i64 40))⟩,
   O1 23 (.pick (.tmp 20) (.const (.bool true)) (.tmp 22))] [0,3,4,5,23])
 (.cond (.tmp 23)
  (.seq (.ops [O1 24 (.build [(.int .i64 0),(.int .i64 0),(.slice none 0 0)] []),
    ⟨none,none,.store 3 (.tmp 4) (.tmp 24)⟩,
    O1 5 (.mov (.const (.int .i64 2)))] [4,5])
  (.ret))
  (.skip)))
 (.seq (.ops [O1 25 (.load none (.tmp 3)),
   O1 26 (.build [(.int .i64 0),(.int .i64 0),(.slice none 0 0)] [(0,1,(.tmp 25))]),
   O1 6 (.alloc 24 [(2,(.int .i64 0)),(1,(.slice none 0 0))]),
   ⟨none,none,.store 3 (.tmp 6) (.tmp 26)⟩] [0,3,4,5,6])
 (.seq (.ops [O1 28 (.mov (.tmp 0)),
   O1 29 (.callF 47 [(.tmp 28),(.const (.string ⟨#[10]⟩))]),
   O1 27 (.mov (.tmp 29)),
   O1 30 (.ext (.tmp 27) 0),
   O1 31 (.ext (.tmp 27) 1),
   O1 7 (.mov (.tmp 30)),
   O1 8 (.mov (.tmp 31))] [0,3,4,5,6,7,8])
 (.seq (.ops [O1 32 (.mov (.tmp 7)),
   O1 33 (.callF 48 [(.tmp 32),(.const (.string ⟨#[10]⟩))]),
   O1 9 (.mov (.tmp 33))] [0,3,4,5,6,8,9])
 (.seq (.seq (.ops [O1 34 (.mov (.tmp 8)),
   O1 35 (.un .not (.tmp 34)),
   O1 36 (.mov (.tmp 35)),
   ⟨(some 37),(some (36,false)),.mov (.tmp 9)⟩,
   ⟨(some 38),(some (36,false)),.len false (.tmp 37)⟩,
   ⟨(some 39),(some (36,false)),.bin .gtr (.tmp 38) (.const (.int .i64 64))⟩,
   O1 40 (.pick (.tmp 36) (.const (.bool true)) (.tmp 39))] [0,3,4,5,6,9,40])
 (.cond (.tmp 40)
  (.seq (.ops [O1 41 (.build [(.int .i64 0),(.int .i64 0),(.slice none 0 0)] []),
    ⟨none,none,.store 3 (.tmp 4) (.tmp 41)⟩,
    O1 5 (.mov (.const (.int .i64 12)))] [4,5])
  (.ret))
  (.skip)))
 (.seq (.seq (.ops [O1 42 (.mov (.tmp 9)),
   O1 43 (.len false (.tmp 42)),
   O1 44 (.mov (.const (.int .i64 0)))] [0,3,4,5,6,42,43,44])
 (.block 0
  (.loop [0,3,4,5,6,42,43,44]
   c25l0)))
 (.seq (.seq (.ops [O1 84 (.load (some 3) (.tmp 6)),
   O1 85 (.callF 11 [(.tmp 84)]),
   O1 83 (.mov (.tmp 85)),
   O1 86 (.ext (.tmp 83) 0),
   O1 87 (.ext (.tmp 83) 1),
   O1 16 (.mov (.tmp 86)),
   O1 17 (.mov (.tmp 87))] [0,4,6,16,17])
 (.seq (.ops [O1 88 (.mov (.tmp 17)),
   O1 89 (.bin .neq (.tmp 88) (.const (.int .i64 0))),
   O1 90 (.mov (.tmp 89)),
   ⟨(some 91),(some (90,false)),.mov (.tmp 16)⟩,
   ⟨(some 92),(some (90,false)),.mov (.tmp 0)⟩,
   ⟨(some 93),(some (90,false)),.bin .neq (.tmp 91) (.tmp 92)⟩,
   O1 94 (.pick (.tmp 90) (.const (.bool true)) (.tmp 93))] [4,6,94])
 (.cond (.tmp 94)
  (.seq (.ops [O1 95 (.build [(.int .i64 0),(.int .i64 0),(.slice none 0 0)] []),
    ⟨none,none,.store 3 (.tmp 4) (.tmp 95)⟩,
    O1 5 (.mov (.const (.int .i64 12)))] [4,5])
  (.ret))
  (.skip))))
 (.seq (.ops [O1 96 (.load (some 3) (.tmp 6)),
   ⟨none,none,.store 3 (.tmp 4) (.tmp 96)⟩,
   O1 5 (.mov (.const (.int .i64 0)))] [4,5])
 (.ret))))))))),
 97,[(4,(some (some 3))),(5,none)],true⟩
theorem ok25:FunOK Tryd.prog 25 c25:= .code ⟨Tryd.f25,_,c25.code,Tryd.func25,rfl,by kernel_rfl,rfl,by kernel_rfl,by kernel_rfl⟩
/- raddle/peg.Parse -/
def c27l0:AC:=
 .seq (.ops [O1 10 (.nextS (.tmp 9)),
     O1 11 (.ext (.tmp 10) 0)] [2,4,5,9,10,11])
   (.seq (.cond (.tmp 11)
    (.skip)
    (.exit 0))
   (.block 1
    (.seq (.ops [O1 12 (.ext (.tmp 10) 2),
      O1 7 (.mov (.tmp 12))] [2,4,5,7,9])
    (.seq (.ops [O1 13 (.mov (.tmp 7))] [2,4,5,7,9,13])
    (.block 2
     (.seq (.seq (.ops [O1 16 (.bin .eql (.tmp 13) (.const (.int .i32 111))),
       O1 15 (.mov (.tmp 16))] [2,4,5,7,9,13,15])
     (.cond (.tmp 15)
      (.skip)
      (.ops [O1 17 (.bin .eql (.tmp 13) (.const (.int .i32 46))),
        O1 15 (.mov (.tmp 17))] [2,4,5,7,9,13,15])))
     (.cond (.tmp 15)
      (.ops [O1 18 (.mov (.tmp 5)),
        O1 19 (.mov (.tmp 7)),
        O1 20 (.bin .eql (.tmp 19) (.const (.int .i32 111))),
        O1 21 (.mkRow 4 1 1 [(.bool false)] [(0,1,(.tmp 20))]),
        O1 22 (.app 4 1 1 (.tmp 18) (.tmp 21)),
        O1 5 (.mov (.tmp 22))] [2,4,5,9])
      (.seq (.ops [O1 24 (.bin .eql (.tmp 13) (.const (.int .i32 10))),
        O1 23 (.mov (.tmp 24))] [2,4,5,9,23])
      (.cond (.tmp 23)
       (.seq (.ops [O1 25 (.fldA 1 (.tmp 4)),
         O1 26 (.load none (.tmp 25)),
         O1 27 (.mov (.tmp 5)),
         O1 28 (.mkRow 22 1 1 [(.slice none 0 0)] [(0,1,(.tmp 27))]),
         O1 29 (.app 22 1 24 (.tmp 26) (.tmp 28)),
         O1 30 (.fldA 1 (.tmp 4)),
         ⟨none,none,.store 1 (.tmp 30) (.tmp 29)⟩] [2,4,9])
       (.ops [O1 5 (.mov (.const (.slice none 0 0)))] [2,4,5,9]))
       (.seq (.ops [O1 14 (.build [(.int .i64 0),(.slice none 0 0)] []),
         ⟨none,none,.store 2 (.tmp 2) (.tmp 14)⟩,
         O1 3 (.mov (.const (.int .i64 12)))] [2,3])
       (.ret)))))))))))
def c27:AFun:=⟨
 .seq (.ops [O1 2 (.alloc 34 [(1,(.int .i64 0)),(1,(.slice none 0 0))]),
   O1 3 (.mov (.const (.int .i64 0)))] [0,2])
 (.seq (.ops [O1 4 (.alloc 34 [(1,(.int .i64 0)),(1,(.slice none 0 0))])] [0,2,4])
 (.seq (.ops [O1 5 (.mov (.const (.slice none 0 0)))] [0,2,4,5])
 (.seq (.seq (.ops [O1 8 (.mov (.tmp 0)),
   O1 9 (.rangeS (.tmp 8))] [2,4,5,9])
 (.block 0
  (.loop [2,4,5,9]
   c27l0)))
 (.seq (.seq (.ops [O1 31 (.mov (.tmp 5)),
   O1 32 (.eqNil 1 true (.tmp 31) (.const (.slice none 0 0))),
   O1 33 (.mov (.tmp 32)),
   ⟨(some 34),(some (33,false)),.fldA 1 (.tmp 4)⟩,
   ⟨(some 35),(some (33,false)),.load none (.tmp 34)⟩,
   ⟨(some 36),(some (33,false)),.len false (.tmp 35)⟩,
   ⟨(some 37),(some (33,false)),.bin .eql (.tmp 36) (.const (.int .i64 0))⟩,
   O1 38 (.pick (.tmp 33) (.const (.bool true)) (.tmp 37))] [2,4,38])
 (.cond (.tmp 38)
  (.seq (.ops [O1 39 (.build [(.int .i64 0),(.slice none 0 0)] []),
    ⟨none,none,.store 2 (.tmp 2) (.tmp 39)⟩,
    O1 3 (.mov (.const (.int .i64 12)))] [2,3])
  (.ret))
  (.skip)))
 (.seq (.ops [O1 40 (.fldA 1 (.tmp 4)),
   O1 41 (.load none (.tmp 40)),
   O1 42 (.idxS 1 (.tmp 41) (.const (.int .i64 0))),
   O1 43 (.load none (.tmp 42)),
   O1 44 (.len false (.tmp 43)),
   O1 45 (.bin .sub (.tmp 44) (.const (.int .i64 1))),
   O1 46 (.fldA 0 (.tmp 4)),
   ⟨none,none,.store 1 (.tmp 46) (.tmp 45)⟩] [2,4])
 (.seq (.seq (.ops [O1 47 (.load (some 2) (.tmp 4)),
   O1 48 (.callF 52 [(.tmp 47)]),
   O1 49 (.un .not (.tmp 48))] [2,4,49])
 (.cond (.tmp 49)
  (.seq (.ops [O1 50 (.build [(.int .i64 0),(.slice none 0 0)] []),
    ⟨none,none,.store 2 (.tmp 2) (.tmp 50)⟩,
    O1 3 (.mov (.const (.int .i64 12)))] [2,3])
  (.ret))
  (.skip)))
 (.seq (.ops [O1 51 (.load (some 2) (.tmp 4)),
   ⟨none,none,.store 2 (.tmp 2) (.tmp 51)⟩,
   O1 3 (.mov (.const (.int .i64 0)))] [2,3])
 (.ret)))))))),
 52,[(2,(some (some 2))),(3,none)],true⟩
theorem ok27:FunOK Tryd.prog 27 c27:= .code ⟨Tryd.f27,_,c27.code,Tryd.func27,rfl,by kernel_rfl,rfl,by kernel_rfl,by kernel_rfl⟩
/- raddle/peg.Text -/
def c29l0:AC:=
 .seq (.ops [O1 22 (.bin .lss (.tmp 21) (.tmp 20))] [4,13,14,15,19,20,21,22])
      (.seq (.cond (.tmp 22)
       (.skip)
       (.exit 2))
      (.seq (.block 3
       (.seq (.ops [O1 23 (.idxS 1 (.tmp 19) (.tmp 21)),
         O1 24 (.load none (.tmp 23)),
         O1 8 (.mov (.tmp 24))] [4,8,13,14,15,19,20,21])
       (.seq (.ops [O1 25 (.mov (.tmp 8))] [4,13,14,15,19,20,21,25])
       (.cond (.tmp 25)
        (.ops [O1 26 (.callF 53 [(.tmp 4),(.const (.int .u8 111))])] [4,13,14,15,19,20,21])
        (.ops [O1 27 (.callF 53 [(.tmp 4),(.const (.int .u8 46))])] [4,13,14,15,19,20,21])))))
      (.ops [O1 28 (.bin .add (.tmp 21) (.const (.int .i64 1))),
        O1 21 (.mov (.tmp 28))] [4,13,14,15,19,20,21])))
def c29l1:AC:=
 .seq (.ops [O1 16 (.bin .lss (.tmp 15) (.tmp 14))] [4,13,14,15,16])
   (.seq (.cond (.tmp 16)
    (.skip)
    (.exit 0))
   (.seq (.block 1
    (.seq (.ops [O1 17 (.idxS 1 (.tmp 13) (.tmp 15)),
      O1 18 (.load none (.tmp 17)),
      O1 6 (.mov (.tmp 18))] [4,6,13,14,15])
    (.seq (.seq (.ops [O1 19 (.mov (.tmp 6)),
      O1 20 (.len false (.tmp 19)),
      O1 21 (.mov (.const (.int .i64 0)))] [4,13,14,15,19,20,21])
    (.block 2
     (.loop [4,13,14,15,19,20,21]
      c29l0)))
    (.ops [O1 29 (.callF 53 [(.tmp 4),(.const (.int .u8 10))])] [4,13,14,15]))))
   (.ops [O1 30 (.bin .add (.tmp 15) (.const (.int .i64 1))),
     O1 15 (.mov (.tmp 30))] [4,13,14,15])))
def c29:AFun:=⟨
 .seq (.ops [O1 1 (.box 34 (.tmp 0)),
   O1 2 (.mov (.const (.string ⟨#[]⟩))),
   O1 3 (.mov (.const (.int .i64 0)))] [1])
 (.seq (.seq (.ops [O1 9 (.load (some 2) (.tmp 1)),
   O1 10 (.callF 52 [(.tmp 9)]),
   O1 11 (.un .not (.tmp 10))] [1,11])
 (.cond (.tmp 11)
  (.seq (.ops [O1 2 (.mov (.const (.string ⟨#[]⟩))),
    O1 3 (.mov (.const (.int .i64 8)))] [2,3])
  (.ret))
  (.skip)))
 (.seq (.ops [O1 4 (.alloc 69 [(1,(.pointer none)),(1,(.slice none 0 0))])] [1,4])
 (.seq (.seq (.ops [O1 12 (.fldA 1 (.tmp 1)),
   O1 13 (.load none (.tmp 12)),
   O1 14 (.len false (.tmp 13)),
   O1 15 (.mov (.const (.int .i64 0)))] [4,13,14,15])
 (.block 0
  (.loop [4,13,14,15]
   c29l1)))
 (.seq (.ops [O1 31 (.callF 35 [(.tmp 4)]),
   O1 2 (.mov (.tmp 31)),
   O1 3 (.mov (.const (.int .i64 0)))] [2,3])
 (.ret))))),
 32,[(2,none),(3,none)],true⟩
theorem ok29:FunOK Tryd.prog 29 c29:= .code ⟨Tryd.f29,_,c29.code,Tryd.func29,rfl,by kernel_rfl,rfl,by kernel_rfl,by kernel_rfl⟩
/- raddle/peg.Wrong -/
def c30l0:AC:=
 .seq (.ops [O1 32 (.bin .lss (.tmp 31) (.tmp 30))] [1,2,3,30,31,32])
   (.seq (.cond (.tmp 32)
    (.skip)
    (.exit 2))
   (.seq (.block 3
    (.seq (.ops [O1 33 (.mov (.tmp 31)),
      O1 7 (.alloc 3 [(1,(.int .i64 0))]),
      ⟨none,none,.store 1 (.tmp 7) (.tmp 33)⟩] [1,2,3,7,30,31])
    (.seq (.ops [O1 34 (.fldA 1 (.tmp 1)),
      O1 35 (.load none (.tmp 34)),
      O1 36 (.len false (.tmp 35)),
      O1 37 (.mkFn 55 [] [(.tmp 1),(.tmp 7)]),
      O1 38 (.callF 38 [(.tmp 36),(.tmp 37)])] [1,2,3,7,30,31,38])
    (.cond (.tmp 38)
     (.ops [O1 39 (.mov (.tmp 3)),
       O1 40 (.load none (.tmp 7)),
       O1 41 (.mkRow 3 1 1 [(.int .i64 0)] [(0,1,(.tmp 40))]),
       O1 42 (.app 3 1 8 (.tmp 39) (.tmp 41)),
       O1 3 (.mov (.tmp 42))] [1,2,3,30,31])
     (.skip)))))
   (.ops [O1 43 (.bin .add (.tmp 31) (.const (.int .i64 1))),
     O1 31 (.mov (.tmp 43))] [1,2,3,30,31])))
def c30l1:AC:=
 .seq (.ops [O1 15 (.bin .lss (.tmp 14) (.tmp 13))] [1,2,3,12,13,14,15])
   (.seq (.cond (.tmp 15)
    (.skip)
    (.exit 0))
   (.seq (.block 1
    (.seq (.ops [O1 16 (.mov (.tmp 14)),
      O1 17 (.idxS 1 (.tmp 12) (.tmp 14)),
      O1 18 (.load none (.tmp 17)),
      O1 6 (.alloc 22 [(1,(.slice none 0 0))]),
      O1 5 (.mov (.tmp 16)),
      ⟨none,none,.store 1 (.tmp 6) (.tmp 18)⟩] [1,2,3,5,6,12,13,14])
    (.seq (.ops [O1 19 (.load none (.tmp 6)),
      O1 20 (.len false (.tmp 19)),
      O1 21 (.mkFn 54 [] [(.tmp 6)]),
      O1 22 (.callF 38 [(.tmp 20),(.tmp 21)])] [1,2,3,5,12,13,14,22])
    (.cond (.tmp 22)
     (.ops [O1 23 (.mov (.tmp 2)),
       O1 24 (.mov (.tmp 5)),
       O1 25 (.mkRow 3 1 1 [(.int .i64 0)] [(0,1,(.tmp 24))]),
       O1 26 (.app 3 1 8 (.tmp 23) (.tmp 25)),
       O1 2 (.mov (.tmp 26))] [1,2,3,12,13,14])
     (.skip)))))
   (.ops [O1 27 (.bin .add (.tmp 14) (.const (.int .i64 1))),
     O1 14 (.mov (.tmp 27))] [1,2,3,12,13,14])))
def c30:AFun:=⟨
 .seq (.ops [O1 1 (.box 34 (.tmp 0)),
   O1 2 (.mov (.const (.slice none 0 0))),
   O1 3 (.mov (.const (.slice none 0 0))),
   O1 4 (.mov (.const (.int .i64 0)))] [1,2,3])
 (.seq (.seq (.ops [O1 8 (.load (some 2) (.tmp 1)),
   O1 9 (.callF 52 [(.tmp 8)]),
   O1 10 (.un .not (.tmp 9))] [1,2,3,10])
 (.cond (.tmp 10)
  (.seq (.ops [O1 2 (.mov (.const (.slice none 0 0))),
    O1 3 (.mov (.const (.slice none 0 0))),
    O1 4 (.mov (.const (.int .i64 8)))] [2,3,4])
  (.ret))
  (.skip)))
 (.seq (.seq (.ops [O1 11 (.fldA 1 (.tmp 1)),
   O1 12 (.load none (.tmp 11)),
   O1 13 (.len false (.tmp 12)),
   O1 14 (.mov (.const (.int .i64 0)))] [1,2,3,12,13,14])
 (.block 0
  (.loop [1,2,3,12,13,14]
   c30l1)))
 (.seq (.seq (.ops [O1 28 (.fldA 0 (.tmp 1)),
   O1 29 (.load none (.tmp 28)),
   O1 30 (.bin .add (.tmp 29) (.const (.int .i64 1))),
   O1 31 (.mov (.const (.int .i64 0)))] [1,2,3,30,31])
 (.block 2
  (.loop [1,2,3,30,31]
   c30l0)))
 (.seq (.ops [O1 44 (.mov (.tmp 2)),
   O1 45 (.mov (.tmp 3)),
   O1 2 (.mov (.tmp 44)),
   O1 3 (.mov (.tmp 45)),
   O1 4 (.mov (.const (.int .i64 0)))] [2,3,4])
 (.ret))))),
 46,[(2,none),(3,none),(4,none)],true⟩
theorem ok30:FunOK Tryd.prog 30 c30:= .code ⟨Tryd.f30,_,c30.code,Tryd.func30,rfl,by kernel_rfl,rfl,by kernel_rfl,by kernel_rfl⟩
/- raddle/raddleref01.Zero -/
def c31:AFun:=⟨
 .seq (.ops [O1 4 (.alloc 24 [(2,(.int .i64 0)),(1,(.slice none 0 0))])] [0,1,4])
 (.seq (.ops [O1 5 (.mov (.tmp 0)),
   O1 6 (.mov (.tmp 1)),
   O1 7 (.mov (.tmp 0)),
   O1 8 (.mov (.tmp 1)),
   O1 9 (.bin .mul (.tmp 7) (.tmp 8)),
   O1 10 (.mkSlice 4 1 1 [(.bool false)] (.tmp 9) (.tmp 9)),
   O1 11 (.build [(.int .i64 0),(.int .i64 0),(.slice none 0 0)] [(0,1,(.tmp 5)),(1,1,(.tmp 6)),(2,1,(.tmp 10))]),
   ⟨none,none,.store 3 (.tmp 4) (.tmp 11)⟩] [4])
 (.ret)),
 12,[(4,(some (some 3)))],true⟩
theorem ok31:FunOK Tryd.prog 31 c31:= .code ⟨Tryd.f31,_,c31.code,Tryd.func31,rfl,by kernel_rfl,rfl,by kernel_rfl,by kernel_rfl⟩
/- strconv.Itoa -/
def c32:AFun:=⟨
 .seq (.ops [O1 2 (.mov (.const (.string ⟨#[]⟩)))] [0])
 (.seq (.ops [O1 3 (.mov (.tmp 0)),
   O1 4 (.callF 56 [(.tmp 3)]),
   O1 2 (.mov (.tmp 4))] [2])
 (.ret)),
 5,[(2,none)],true⟩
theorem ok32:FunOK Tryd.prog 32 c32:= .code ⟨Tryd.f32,_,c32.code,Tryd.func32,rfl,by kernel_rfl,rfl,by kernel_rfl,by kernel_rfl⟩
/- (*strings.Builder).WriteString -/
def c33:AFun:=⟨
 .seq (.ops [O1 4 (.mov (.const (.int .i64 0))),
   O1 5 (.mov (.const .nilIface))] [0,1])
 (.seq (.ops [O1 6 (.mov (.tmp 0)),
   O1 7 (.callF 57 [(.tmp 6)])] [0,1])
 (.seq (.ops [O1 8 (.mov (.tmp 0)),
   O1 9 (.mov (.tmp 0)),
   O1 10 (.nilChk (.tmp 9)),
   O1 11 (.fldA 1 (.tmp 10)),
   O1 12 (.load none (.tmp 11)),
   O1 13 (.mov (.tmp 1)),
   O1 14 (.app 5 1 1 (.tmp 12) (.tmp 13)),
   O1 15 (.nilChk (.tmp 8)),
   O1 16 (.fldA 1 (.tmp 15)),
   ⟨none,none,.store 1 (.tmp 16) (.tmp 14)⟩] [1])
 (.seq (.ops [O1 17 (.mov (.tmp 1)),
   O1 18 (.len true (.tmp 17)),
   O1 4 (.mov (.tmp 18)),
   O1 5 (.mov (.const .nilIface))] [4,5])
 (.ret)))),
 19,[(4,none),(5,none)],false⟩
theorem ok33:FunOK Tryd.prog 33 c33:= .code ⟨Tryd.f33,_,c33.code,Tryd.func33,rfl,by kernel_rfl,rfl,by kernel_rfl,by kernel_rfl⟩
/- strings.Join (2 operations that the interpreter lacks) -/
def c34l0:AC:=
 .seq (.ops [O1 66 (.bin .lss (.tmp 65) (.tmp 64))] [1,8,63,64,65,66])
   (.seq (.cond (.tmp 66)
    (.skip)
    (.exit 3))
   (.seq (.block 4
    (.seq (.ops [O1 67 (.idxS 1 (.tmp 63) (.tmp 65)),
      O1 68 (.load none (.tmp 67)),
      O1 10 (.mov (.tmp 68))] [1,8,10,63,64,65])
    (.seq (.ops [O1 69 (.mov (.tmp 1)),
      O1 70 (.callF 33 [(.tmp 8),(.tmp 69)])] [1,8,10,63,64,65])
    (.ops [O1 71 (.mov (.tmp 10)),
      O1 72 (.callF 33 [(.tmp 8),(.tmp 71)])] [1,8,63,64,65]))))
   (.ops [O1 73 (.bin .add (.tmp 65) (.const (.int .i64 1))),
     O1 65 (.mov (.tmp 73))] [1,8,63,64,65])))
def c34l1:AC:=
 .seq (.ops [O1 42 (.bin .lss (.tmp 41) (.tmp 40))] [0,1,5,39,40,41,42])
   (.seq (.cond (.tmp 42)
    (.skip)
    (.exit 1))
   (.seq (.block 2
    (.seq (.ops [O1 43 (.idxS 1 (.tmp 39) (.tmp 41)),
      O1 44 (.load none (.tmp 43)),
      O1 7 (.mov (.tmp 44))] [0,1,5,7,39,40,41])
    (.seq (.seq (.ops [O1 45 (.mov (.tmp 7)),
      O1 46 (.len true (.tmp 45)),
      O1 47 (.mov (.tmp 5)),
      O1 48 (.bin .sub (.const (.int .i64 9223372036854775807)) (.tmp 47)),
      O1 49 (.bin .gtr (.tmp 46) (.tmp 48))] [0,1,5,7,39,40,41,49])
    (.cond (.tmp 49)
     (.ops [O1 50 (.mkIf 9 (.const (.string ⟨#[115,116,114,105,110,103,115,58,32,74,111,105,110,32,111,117,116,112,117,116,32,108,101,110,103,116,104,32,111,118,101,114,102,108,111,119]⟩))),
       ⟨none,none,.bad⟩] [0,1,5,7,39,40,41])
     (.skip)))
    (.ops [O1 51 (.mov (.tmp 5)),
      O1 52 (.mov (.tmp 7)),
      O1 53 (.len true (.tmp 52)),
      O1 54 (.bin .add (.tmp 51) (.tmp 53)),
      O1 5 (.mov (.tmp 54))] [0,1,5,39,40,41]))))
   (.ops [O1 55 (.bin .add (.tmp 41) (.const (.int .i64 1))),
     O1 41 (.mov (.tmp 55))] [0,1,5,39,40,41])))
def c34:AFun:=⟨
 .seq (.ops [O1 4 (.mov (.const (.string ⟨#[]⟩)))] [0,1])
 (.seq (.seq (.ops [O1 11 (.mov (.tmp 0)),
   O1 12 (.len false (.tmp 11))] [0,1,12])
 (.block 0
  (.seq (.ops [O1 14 (.bin .eql (.tmp 12) (.const (.int .i64 0))),
    O1 13 (.mov (.tmp 14))] [0,1,12,13])
  (.cond (.tmp 13)
   (.seq (.ops [O1 4 (.mov (.const (.string ⟨#[]⟩)))] [4])
   (.ret))
   (.seq (.ops [O1 16 (.bin .eql (.tmp 12) (.const (.int .i64 1))),
     O1 15 (.mov (.tmp 16))] [0,1,15])
   (.cond (.tmp 15)
    (.seq (.ops [O1 17 (.mov (.tmp 0)),
      O1 18 (.idxS 1 (.tmp 17) (.const (.int .i64 0))),
      O1 19 (.load none (.tmp 18)),
      O1 4 (.mov (.tmp 19))] [4])
    (.ret))
    (.skip)))))))
 (.seq (.ops [O1 5 (.mov (.const (.int .i64 0)))] [0,1,5])
 (.seq (.seq (.ops [O1 20 (.mov (.tmp 1)),
   O1 21 (.len true (.tmp 20)),
   O1 22 (.bin .gtr (.tmp 21) (.const (.int .i64 0)))] [0,1,5,22])
 (.cond (.tmp 22)
  (.seq (.seq (.ops [O1 23 (.mov (.tmp 1)),
    O1 24 (.len true (.tmp 23)),
    O1 25 (.mov (.tmp 0)),
    O1 26 (.len false (.tmp 25)),
    O1 27 (.bin .sub (.tmp 26) (.const (.int .i64 1))),
    O1 28 (.bin .quo (.const (.int .i64 9223372036854775807)) (.tmp 27)),
    O1 29 (.bin .geq (.tmp 24) (.tmp 28))] [0,1,5,29])
  (.cond (.tmp 29)
   (.ops [O1 30 (.mkIf 9 (.const (.string ⟨#[115,116,114,105,110,103,115,58,32,74,111,105,110,32,111,117,116,112,117,116,32,108,101,110,103,116,104,32,111,118,101,114,102,108,111,119]⟩))),
     ⟨none,none,.bad⟩] [0,1,5])
   (.skip)))
  (.ops [O1 31 (.mov (.tmp 5)),
    O1 32 (.mov (.tmp 1)),
    O1 33 (.len true (.tmp 32)),
    O1 34 (.mov (.tmp 0)),
    O1 35 (.len false (.tmp 34)),
    O1 36 (.bin .sub (.tmp 35) (.const (.int .i64 1))),
    O1 37 (.bin .mul (.tmp 33) (.tmp 36)),
    O1 38 (.bin .add (.tmp 31) (.tmp 37)),
    O1 5 (.mov (.tmp 38))] [0,1,5]))
  (.skip)))
 (.seq (.seq (.ops [O1 39 (.mov (.tmp 0)),
   O1 40 (.len false (.tmp 39)),
   O1 41 (.mov (.const (.int .i64 0)))] [0,1,5,39,40,41])
 (.block 1
  (.loop [0,1,5,39,40,41]
   c34l1)))
 (.seq (.ops [O1 8 (.alloc 69 [(1,(.pointer none)),(1,(.slice none 0 0))])] [0,1,5,8])
 (.seq (.ops [O1 56 (.mov (.tmp 5)),
   O1 57 (.callF 58 [(.tmp 8),(.tmp 56)])] [0,1,8])
 (.seq (.ops [O1 58 (.mov (.tmp 0)),
   O1 59 (.idxS 1 (.tmp 58) (.const (.int .i64 0))),
   O1 60 (.load none (.tmp 59)),
   O1 61 (.callF 33 [(.tmp 8),(.tmp 60)])] [0,1,8])
 (.seq (.seq (.ops [O1 62 (.mov (.tmp 0)),
   O1 63 (.slc 1 (.tmp 62) (some (.const (.int .i64 1))) none none),
   O1 64 (.len false (.tmp 63)),
   O1 65 (.mov (.const (.int .i64 0)))] [1,8,63,64,65])
 (.block 3
  (.loop [1,8,63,64,65]
   c34l0)))
 (.seq (.ops [O1 74 (.callF 35 [(.tmp 8)]),
   O1 4 (.mov (.tmp 74))] [4])
 (.ret)))))))))),
 75,[(4,none)],true⟩
theorem ok34:FunOK Tryd.prog 34 c34:= .code ⟨Tryd.f34,_,c34.code,Tryd.func34,rfl,by kernel_rfl,rfl,by kernel_rfl,by kernel_rfl⟩
/- (*strings.Builder).String -/
def c35:AFun:=⟨
 .seq (.ops [O1 2 (.mov (.const (.string ⟨#[]⟩)))] [0])
 (.seq (.draw [O1 3 (.mov (.tmp 0)),
   O1 4 (.nilChk (.tmp 3)),
   O1 5 (.fldA 1 (.tmp 4)),
   O1 6 (.load none (.tmp 5)),
   O1 7 (.sdata (.tmp 6)),
   O1 8 (.mov (.tmp 0)),
   O1 9 (.nilChk (.tmp 8)),
   O1 10 (.fldA 1 (.tmp 9)),
   O1 11 (.load none (.tmp 10)),
   O1 12 (.len false (.tmp 11))] [O1 13 (.ustr 5 (.tmp 7) (.tmp 12)),
   O1 2 (.mov (.tmp 13))] [[],[],[],[],[],[],[],[],[],[]] [2])
 (.ret)),
 14,[(2,none)],false⟩
theorem ok35:FunOK Tryd.prog 35 c35:= .code ⟨Tryd.f35,_,c35.code,Tryd.func35,rfl,by kernel_rfl,rfl,by kernel_rfl,by kernel_rfl⟩
/- raddle/peg.odd -/
def c38l0:AC:=
 .seq (.ops [O1 9 (.bin .lss (.tmp 8) (.tmp 7))] [1,5,7,8,9])
   (.seq (.cond (.tmp 9)
    (.skip)
    (.exit 0))
   (.seq (.block 1
    (.seq (.ops [O1 10 (.mov (.tmp 8)),
      O1 6 (.mov (.tmp 10))] [1,5,6,7,8])
    (.ops [O1 11 (.mov (.tmp 5)),
      O1 12 (.mov (.tmp 1)),
      O1 13 (.mov (.tmp 6)),
      O1 14 (.callV (.tmp 12) [(.tmp 13)]),
      O1 15 (.eqB true (.tmp 11) (.tmp 14)),
      O1 5 (.mov (.tmp 15))] [1,5,7,8])))
   (.ops [O1 16 (.bin .add (.tmp 8) (.const (.int .i64 1))),
     O1 8 (.mov (.tmp 16))] [1,5,7,8])))
def c38:AFun:=⟨
 .seq (.ops [O1 4 (.mov (.const (.bool false)))] [0,1])
 (.seq (.ops [O1 5 (.mov (.const (.bool false)))] [0,1,5])
 (.seq (.seq (.ops [O1 7 (.mov (.tmp 0)),
   O1 8 (.mov (.const (.int .i64 0)))] [1,5,7,8])
 (.block 0
  (.loop [1,5,7,8]
   c38l0)))
 (.seq (.ops [O1 17 (.mov (.tmp 5)),
   O1 4 (.mov (.tmp 17))] [4])
 (.ret)))),
 18,[(4,none)],true⟩
theorem ok38:FunOK Tryd.prog 38 c38:= .code ⟨Tryd.f38,_,c38.code,Tryd.func38,rfl,by kernel_rfl,rfl,by kernel_rfl,by kernel_rfl⟩
/- raddle/peg.Encode$1 -/
def c39:AFun:=⟨
 .seq (.ops [O1 3 (.mov (.const (.bool false)))] [0,1])
 (.seq (.ops [O1 4 (.load none (.tmp 1)),
   O1 5 (.mov (.tmp 0)),
   O1 6 (.idxS 1 (.tmp 4) (.tmp 5)),
   O1 7 (.load none (.tmp 6)),
   O1 3 (.mov (.tmp 7))] [3])
 (.ret)),
 8,[(3,none)],true⟩
theorem ok39:FunOK Tryd.prog 39 c39:= .code ⟨Tryd.f39,_,c39.code,Tryd.func39,rfl,by kernel_rfl,rfl,by kernel_rfl,by kernel_rfl⟩
/- raddle/peg.Encode$2 -/
def c40:AFun:=⟨
 .seq (.ops [O1 4 (.mov (.const (.bool false)))] [0,1,2])
 (.seq (.draw [O1 5 (.fldA 1 (.tmp 1)),
   O1 6 (.load none (.tmp 5)),
   O1 7 (.mov (.tmp 0)),
   O1 8 (.idxS 1 (.tmp 6) (.tmp 7)),
   O1 9 (.load none (.tmp 8)),
   O1 10 (.load none (.tmp 2))] [O1 11 (.idxS 1 (.tmp 9) (.tmp 10)),
   O1 12 (.load none (.tmp 11)),
   O1 4 (.mov (.tmp 12))] [[],[],[],[],[],[]] [4])
 (.ret)),
 13,[(4,none)],true⟩
theorem ok40:FunOK Tryd.prog 40 c40:= .code ⟨Tryd.f40,_,c40.code,Tryd.func40,rfl,by kernel_rfl,rfl,by kernel_rfl,by kernel_rfl⟩
/- raddle/grid.Check -/
def c43:AFun:=⟨
 .seq (.ops [O1 1 (.box 24 (.tmp 0)),
   O1 2 (.mov (.const (.int .i64 0)))] [1])
 (.seq (.block 0
  (.seq (.ops [O1 4 (.fldA 0 (.tmp 1)),
    O1 5 (.load none (.tmp 4)),
    O1 6 (.fldA 1 (.tmp 1)),
    O1 7 (.load none (.tmp 6)),
    O1 8 (.mm true (.tmp 5) (.tmp 7)),
    O1 9 (.bin .gtr (.tmp 8) (.const (.int .i64 64))),
    O1 3 (.mov (.tmp 9))] [1,3])
  (.cond (.tmp 3)
   (.seq (.ops [O1 2 (.mov (.const (.int .i64 4)))] [2])
   (.ret))
   (.seq (.ops [O1 11 (.fldA 0 (.tmp 1)),
     O1 12 (.load none (.tmp 11)),
     O1 13 (.fldA 1 (.tmp 1)),
     O1 14 (.load none (.tmp 13)),
     O1 15 (.mm false (.tmp 12) (.tmp 14)),
     O1 16 (.bin .lss (.tmp 15) (.const (.int .i64 1))),
     O1 17 (.mov (.tmp 16)),
     ⟨(some 18),(some (17,false)),.fldA 2 (.tmp 1)⟩,
     ⟨(some 19),(some (17,false)),.load none (.tmp 18)⟩,
     ⟨(some 20),(some (17,false)),.len false (.tmp 19)⟩,
     ⟨(some 21),(some (17,false)),.fldA 0 (.tmp 1)⟩,
     ⟨(some 22),(some (17,false)),.load none (.tmp 21)⟩,
     ⟨(some 23),(some (17,false)),.fldA 1 (.tmp 1)⟩,
     ⟨(some 24),(some (17,false)),.load none (.tmp 23)⟩,
     ⟨(some 25),(some (17,false)),.bin .mul (.tmp 22) (.tmp 24)⟩,
     ⟨(some 26),(some (17,false)),.bin .neq (.tmp 20) (.tmp 25)⟩,
     O1 27 (.pick (.tmp 17) (.const (.bool true)) (.tmp 26)),
     O1 10 (.mov (.tmp 27))] [10])
   (.cond (.tmp 10)
    (.seq (.ops [O1 2 (.mov (.const (.int .i64 8)))] [2])
    (.ret))
    (.skip))))))
 (.seq (.ops [O1 2 (.mov (.const (.int .i64 0)))] [2])
 (.ret))),
 28,[(2,none)],true⟩
theorem ok43:FunOK Tryd.prog 43 c43:= .code ⟨Tryd.f43,_,c43.code,Tryd.func43,rfl,by kernel_rfl,rfl,by kernel_rfl,by kernel_rfl⟩
/- raddle/raddlelaw18.two -/
def c45:AFun:=⟨
 .seq (.ops [O1 0 (.alloc 24 [(2,(.int .i64 0)),(1,(.slice none 0 0))])] [0])
 (.seq (.ops [O1 1 (.mkRow 4 1 4 [(.bool false)] [(0,1,(.const (.bool true))),(1,1,(.const (.bool false))),(2,1,(.const (.bool true))),(3,1,(.const (.bool true)))]),
   O1 2 (.build [(.int .i64 0),(.int .i64 0),(.slice none 0 0)] [(0,1,(.const (.int .i64 2))),(1,1,(.const (.int .i64 2))),(2,1,(.tmp 1))]),
   ⟨none,none,.store 3 (.tmp 0) (.tmp 2)⟩] [0])
 (.ret)),
 3,[(0,(some (some 3)))],true⟩
theorem ok45:FunOK Tryd.prog 45 c45:= .code ⟨Tryd.f45,_,c45.code,Tryd.func45,rfl,by kernel_rfl,rfl,by kernel_rfl,by kernel_rfl⟩
/- raddle/raddleref02.Same -/
def c46l0:AC:=
 .seq (.seq (.ops [O1 11 (.mov (.tmp 5)),
     O1 12 (.mov (.tmp 0)),
     O1 13 (.len false (.tmp 12)),
     O1 14 (.bin .lss (.tmp 11) (.tmp 13))] [0,1,5,14])
   (.cond (.tmp 14)
    (.skip)
    (.exit 0)))
   (.seq (.block 1
    (.seq (.draw [O1 17 (.mov (.tmp 0)),
      O1 18 (.mov (.tmp 5)),
      O1 19 (.idxS 1 (.tmp 17) (.tmp 18)),
      O1 20 (.load none (.tmp 19)),
      O1 21 (.mov (.tmp 1)),
      O1 22 (.mov (.tmp 5)),
      O1 23 (.idxS 1 (.tmp 21) (.tmp 22)),
      O1 24 (.load none (.tmp 23))] [O1 25 (.bin .neq (.tmp 20) (.tmp 24))] [[],[],[],[],[],[],[],[]] [0,1,5,25])
    (.cond (.tmp 25)
     (.seq (.ops [O1 4 (.mov (.const (.bool false)))] [4])
     (.ret))
     (.skip))))
   (.ops [O1 15 (.mov (.tmp 5)),
     O1 16 (.bin .add (.tmp 15) (.const (.int .i64 1))),
     O1 5 (.mov (.tmp 16))] [0,1,5]))
def c46:AFun:=⟨
 .seq (.ops [O1 4 (.mov (.const (.bool false)))] [0,1])
 (.seq (.seq (.ops [O1 6 (.mov (.tmp 0)),
   O1 7 (.len false (.tmp 6)),
   O1 8 (.mov (.tmp 1)),
   O1 9 (.len false (.tmp 8)),
   O1 10 (.bin .neq (.tmp 7) (.tmp 9))] [0,1,10])
 (.cond (.tmp 10)
  (.seq (.ops [O1 4 (.mov (.const (.bool false)))] [4])
  (.ret))
  (.skip)))
 (.seq (.seq (.ops [O1 5 (.mov (.const (.int .i64 0)))] [0,1,5])
 (.block 0
  (.loop [0,1,5]
   c46l0)))
 (.seq (.ops [O1 4 (.mov (.const (.bool true)))] [4])
 (.ret)))),
 26,[(4,none)],true⟩
theorem ok46:FunOK Tryd.prog 46 c46:= .code ⟨Tryd.f46,_,c46.code,Tryd.func46,rfl,by kernel_rfl,rfl,by kernel_rfl,by kernel_rfl⟩
/- strings.CutSuffix -/
def c47:AFun:=⟨
 .seq (.ops [O1 4 (.mov (.const (.string ⟨#[]⟩))),
   O1 5 (.mov (.const (.bool false)))] [0,1])
 (.seq (.ops [O1 6 (.mov (.tmp 0)),
   O1 7 (.mov (.tmp 1)),
   O1 8 (.callF 59 [(.tmp 6),(.tmp 7)]),
   O1 9 (.ext (.tmp 8) 0),
   O1 10 (.ext (.tmp 8) 1),
   O1 4 (.mov (.tmp 9)),
   O1 5 (.mov (.tmp 10))] [4,5])
 (.ret)),
 11,[(4,none),(5,none)],true⟩
theorem ok47:FunOK Tryd.prog 47 c47:= .code ⟨Tryd.f47,_,c47.code,Tryd.func47,rfl,by kernel_rfl,rfl,by kernel_rfl,by kernel_rfl⟩
/- strings.Split -/
def c48:AFun:=⟨
 .seq (.ops [O1 4 (.mov (.const (.slice none 0 0)))] [0,1])
 (.seq (.ops [O1 5 (.mov (.tmp 0)),
   O1 6 (.mov (.tmp 1)),
   O1 7 (.callF 60 [(.tmp 5),(.tmp 6),(.const (.int .i64 0)),(.const (.int .i64 (-1)))]),
   O1 4 (.mov (.tmp 7))] [4])
 (.ret)),
 8,[(4,none)],true⟩
theorem ok48:FunOK Tryd.prog 48 c48:= .code ⟨Tryd.f48,_,c48.code,Tryd.func48,rfl,by kernel_rfl,rfl,by kernel_rfl,by kernel_rfl⟩
/- strings.SplitSeq -/
def c49:AFun:=⟨
 .seq (.ops [O1 4 (.mov (.const .nilFunc))] [0,1])
 (.seq (.ops [O1 5 (.mov (.tmp 0)),
   O1 6 (.mov (.tmp 1)),
   O1 7 (.callF 61 [(.tmp 5),(.tmp 6),(.const (.int .i64 0))]),
   O1 4 (.mov (.tmp 7))] [4])
 (.ret)),
 8,[(4,none)],true⟩
theorem ok49:FunOK Tryd.prog 49 c49:= .code ⟨Tryd.f49,_,c49.code,Tryd.func49,rfl,by kernel_rfl,rfl,by kernel_rfl,by kernel_rfl⟩
/- raddle/peg.valid -/
def c52:AFun:=⟨
 .seq (.ops [O1 1 (.box 34 (.tmp 0)),
   O1 2 (.mov (.const (.bool false)))] [1])
 (.seq (.seq (.ops [O1 3 (.fldA 0 (.tmp 1)),
   O1 4 (.load none (.tmp 3)),
   O1 5 (.bin .lss (.tmp 4) (.const (.int .i64 1))),
   O1 6 (.mov (.tmp 5)),
   ⟨(some 7),(some (6,false)),.fldA 0 (.tmp 1)⟩,
   ⟨(some 8),(some (6,false)),.load none (.tmp 7)⟩,
   ⟨(some 9),(some (6,false)),.bin .gtr (.tmp 8) (.const (.int .i64 40))⟩,
   O1 10 (.pick (.tmp 6) (.const (.bool true)) (.tmp 9)),
   O1 11 (.mov (.tmp 10)),
   ⟨(some 12),(some (11,false)),.fldA 1 (.tmp 1)⟩,
   ⟨(some 13),(some (11,false)),.load none (.tmp 12)⟩,
   ⟨(some 14),(some (11,false)),.len false (.tmp 13)⟩,
   ⟨(some 15),(some (11,false)),.bin .lss (.tmp 14) (.const (.int .i64 2))⟩,
   O1 16 (.pick (.tmp 11) (.const (.bool true)) (.tmp 15)),
   O1 17 (.mov (.tmp 16)),
   ⟨(some 18),(some (17,false)),.fldA 1 (.tmp 1)⟩,
   ⟨(some 19),(some (17,false)),.load none (.tmp 18)⟩,
   ⟨(some 20),(some (17,false)),.len false (.tmp 19)⟩,
   ⟨(some 21),(some (17,false)),.bin .gtr (.tmp 20) (.const (.int .i64 65))⟩,
   O1 22 (.pick (.tmp 17) (.const (.bool true)) (.tmp 21))] [1,22])
 (.cond (.tmp 22)
  (.seq (.ops [O1 2 (.mov (.const (.bool false)))] [2])
  (.ret))
  (.skip)))
 (.seq (.ops [O1 23 (.fldA 1 (.tmp 1)),
   O1 24 (.load none (.tmp 23)),
   O1 25 (.mkFn 66 [] [(.tmp 1)]),
   O1 26 (.callF 65 [(.tmp 24),(.tmp 25)]),
   O1 27 (.un .not (.tmp 26)),
   O1 2 (.mov (.tmp 27))] [2])
 (.ret))),
 28,[(2,none)],true⟩
theorem ok52:FunOK Tryd.prog 52 c52:= .code ⟨Tryd.f52,_,c52.code,Tryd.func52,rfl,by kernel_rfl,rfl,by kernel_rfl,by kernel_rfl⟩
/- (*strings.Builder).WriteByte -/
def c53:AFun:=⟨
 .seq (.ops [O1 4 (.mov (.const .nilIface))] [0,1])
 (.seq (.ops [O1 5 (.mov (.tmp 0)),
   O1 6 (.callF 57 [(.tmp 5)])] [0,1])
 (.seq (.ops [O1 7 (.mov (.tmp 0)),
   O1 8 (.mov (.tmp 0)),
   O1 9 (.nilChk (.tmp 8)),
   O1 10 (.fldA 1 (.tmp 9)),
   O1 11 (.load none (.tmp 10)),
   O1 12 (.mov (.tmp 1)),
   O1 13 (.mkRow 5 1 1 [(.int .u8 0)] [(0,1,(.tmp 12))]),
   O1 14 (.app 5 1 1 (.tmp 11) (.tmp 13)),
   O1 15 (.nilChk (.tmp 7)),
   O1 16 (.fldA 1 (.tmp 15)),
   ⟨none,none,.store 1 (.tmp 16) (.tmp 14)⟩] [])
 (.seq (.ops [O1 4 (.mov (.const .nilIface))] [4])
 (.ret)))),
 17,[(4,none)],false⟩
theorem ok53:FunOK Tryd.prog 53 c53:= .code ⟨Tryd.f53,_,c53.code,Tryd.func53,rfl,by kernel_rfl,rfl,by kernel_rfl,by kernel_rfl⟩
/- raddle/peg.Wrong$1 -/
def c54:AFun:=⟨
 .seq (.ops [O1 3 (.mov (.const (.bool false)))] [0,1])
 (.seq (.ops [O1 4 (.load none (.tmp 1)),
   O1 5 (.mov (.tmp 0)),
   O1 6 (.idxS 1 (.tmp 4) (.tmp 5)),
   O1 7 (.load none (.tmp 6)),
   O1 3 (.mov (.tmp 7))] [3])
 (.ret)),
 8,[(3,none)],true⟩
theorem ok54:FunOK Tryd.prog 54 c54:= .code ⟨Tryd.f54,_,c54.code,Tryd.func54,rfl,by kernel_rfl,rfl,by kernel_rfl,by kernel_rfl⟩
/- raddle/peg.Wrong$2 -/
def c55:AFun:=⟨
 .seq (.ops [O1 4 (.mov (.const (.bool false)))] [0,1,2])
 (.seq (.draw [O1 5 (.fldA 1 (.tmp 1)),
   O1 6 (.load none (.tmp 5)),
   O1 7 (.mov (.tmp 0)),
   O1 8 (.idxS 1 (.tmp 6) (.tmp 7)),
   O1 9 (.load none (.tmp 8)),
   O1 10 (.load none (.tmp 2))] [O1 11 (.idxS 1 (.tmp 9) (.tmp 10)),
   O1 12 (.load none (.tmp 11)),
   O1 4 (.mov (.tmp 12))] [[],[],[],[],[],[]] [4])
 (.ret)),
 13,[(4,none)],true⟩
theorem ok55:FunOK Tryd.prog 55 c55:= .code ⟨Tryd.f55,_,c55.code,Tryd.func55,rfl,by kernel_rfl,rfl,by kernel_rfl,by kernel_rfl⟩
/- internal/strconv.Itoa -/
def c56:AFun:=⟨
 .seq (.ops [O1 2 (.mov (.const (.string ⟨#[]⟩)))] [0])
 (.seq (.ops [O1 3 (.mov (.tmp 0)),
   O1 4 (.callF 67 [(.tmp 3),(.const (.int .i64 10))]),
   O1 2 (.mov (.tmp 4))] [2])
 (.ret)),
 5,[(2,none)],true⟩
theorem ok56:FunOK Tryd.prog 56 c56:= .code ⟨Tryd.f56,_,c56.code,Tryd.func56,rfl,by kernel_rfl,rfl,by kernel_rfl,by kernel_rfl⟩
/- (*strings.Builder).copyCheck (1 operations that the interpreter lacks) -/
def c57:AFun:=⟨
 .seq (.ops [O1 2 (.mov (.tmp 0)),
   O1 3 (.nilChk (.tmp 2)),
   O1 4 (.fldA 0 (.tmp 3)),
   O1 5 (.load none (.tmp 4)),
   O1 6 (.eqNil 0 false (.tmp 5) (.const (.pointer none)))] [0,6])
 (.cond (.tmp 6)
  (.ops [O1 7 (.mov (.tmp 0)),
    O1 8 (.mov (.tmp 0)),
    O1 9 (.toUns (.tmp 8)),
    O1 10 (.callF 68 [(.tmp 9)]),
    O1 11 (.fromUns 69 2 (.tmp 10)),
    O1 12 (.nilChk (.tmp 7)),
    O1 13 (.fldA 0 (.tmp 12)),
    ⟨none,none,.store 1 (.tmp 13) (.tmp 11)⟩] [])
  (.seq (.ops [O1 14 (.mov (.tmp 0)),
    O1 15 (.nilChk (.tmp 14)),
    O1 16 (.fldA 0 (.tmp 15)),
    O1 17 (.load none (.tmp 16)),
    O1 18 (.mov (.tmp 0)),
    O1 19 (.eqPtr true (.tmp 17) (.tmp 18))] [19])
  (.cond (.tmp 19)
   (.bad)
   (.skip)))),
 20,[],false⟩
theorem ok57:FunOK Tryd.prog 57 c57:= .code ⟨Tryd.f57,_,c57.code,Tryd.func57,rfl,by kernel_rfl,rfl,by kernel_rfl,by kernel_rfl⟩
/- (*strings.Builder).Grow (1 operations that the interpreter lacks) -/
def c58:AFun:=⟨
 .seq (.ops [O1 4 (.mov (.tmp 0)),
   O1 5 (.callF 57 [(.tmp 4)])] [0,1])
 (.seq (.seq (.ops [O1 6 (.mov (.tmp 1)),
   O1 7 (.bin .lss (.tmp 6) (.const (.int .i64 0)))] [0,1,7])
 (.cond (.tmp 7)
  (.ops [O1 8 (.mkIf 9 (.const (.string ⟨#[115,116,114,105,110,103,115,46,66,117,105,108,100,101,114,46,71,114,111,119,58,32,110,101,103,97,116,105,118,101,32,99,111,117,110,116]⟩))),
    ⟨none,none,.bad⟩] [0,1])
  (.skip)))
 (.seq (.draw [O1 9 (.mov (.tmp 0)),
   O1 10 (.nilChk (.tmp 9)),
   O1 11 (.fldA 1 (.tmp 10)),
   O1 12 (.load none (.tmp 11)),
   O1 13 (.cap (.tmp 12)),
   O1 14 (.mov (.tmp 0)),
   O1 15 (.nilChk (.tmp 14)),
   O1 16 (.fldA 1 (.tmp 15)),
   O1 17 (.load none (.tmp 16)),
   O1 18 (.len false (.tmp 17)),
   O1 19 (.bin .sub (.tmp 13) (.tmp 18)),
   O1 20 (.mov (.tmp 1))] [O1 21 (.bin .lss (.tmp 19) (.tmp 20))] [[],[],[],[],[],[],[],[],[],[],[],[]] [0,1,21])
 (.cond (.tmp 21)
  (.ops [O1 22 (.mov (.tmp 0)),
    O1 23 (.mov (.tmp 1)),
    O1 24 (.callF 69 [(.tmp 22),(.tmp 23)])] [])
  (.skip)))),
 25,[],false⟩
theorem ok58:FunOK Tryd.prog 58 c58:= .code ⟨Tryd.f58,_,c58.code,Tryd.func58,rfl,by kernel_rfl,rfl,by kernel_rfl,by kernel_rfl⟩
/- internal/stringslite.CutSuffix -/
def c59:AFun:=⟨
 .seq (.ops [O1 4 (.mov (.const (.string ⟨#[]⟩))),
   O1 5 (.mov (.const (.bool false)))] [0,1])
 (.seq (.seq (.ops [O1 6 (.mov (.tmp 0)),
   O1 7 (.mov (.tmp 1)),
   O1 8 (.callF 70 [(.tmp 6),(.tmp 7)]),
   O1 9 (.un .not (.tmp 8))] [0,1,9])
 (.cond (.tmp 9)
  (.seq (.ops [O1 10 (.mov (.tmp 0)),
    O1 4 (.mov (.tmp 10)),
    O1 5 (.mov (.const (.bool false)))] [4,5])
  (.ret))
  (.skip)))
 (.seq (.ops [O1 11 (.mov (.tmp 0)),
   O1 12 (.mov (.tmp 0)),
   O1 13 (.len true (.tmp 12)),
   O1 14 (.mov (.tmp 1)),
   O1 15 (.len true (.tmp 14)),
   O1 16 (.bin .sub (.tmp 13) (.tmp 15)),
   O1 17 (.slcS (.tmp 11) none (some (.tmp 16))),
   O1 4 (.mov (.tmp 17)),
   O1 5 (.mov (.const (.bool true)))] [4,5])
 (.ret))),
 18,[(4,none),(5,none)],true⟩
theorem ok59:FunOK Tryd.prog 59 c59:= .code ⟨Tryd.f59,_,c59.code,Tryd.func59,rfl,by kernel_rfl,rfl,by kernel_rfl,by kernel_rfl⟩
/- strings.genSplit -/
def c60l0:AC:=
 .seq (.seq (.ops [O1 34 (.mov (.tmp 10)),
     O1 35 (.mov (.tmp 3)),
     O1 36 (.bin .lss (.tmp 34) (.tmp 35))] [0,1,2,3,9,10,36])
   (.cond (.tmp 36)
    (.skip)
    (.exit 0)))
   (.block 1
    (.seq (.ops [O1 37 (.mov (.tmp 0)),
      O1 38 (.mov (.tmp 1)),
      O1 39 (.callF 73 [(.tmp 37),(.tmp 38)]),
      O1 11 (.mov (.tmp 39))] [0,1,2,3,9,10,11])
    (.seq (.seq (.ops [O1 40 (.mov (.tmp 11)),
      O1 41 (.bin .lss (.tmp 40) (.const (.int .i64 0)))] [0,1,2,3,9,10,11,41])
    (.cond (.tmp 41)
     (.exit 0)
     (.skip)))
    (.seq (.ops [O1 42 (.mov (.tmp 9)),
      O1 43 (.mov (.tmp 10)),
      O1 44 (.mov (.tmp 0)),
      O1 45 (.mov (.tmp 11)),
      O1 46 (.mov (.tmp 2)),
      O1 47 (.bin .add (.tmp 45) (.tmp 46)),
      O1 48 (.slcS (.tmp 44) none (some (.tmp 47))),
      O1 49 (.idxS 1 (.tmp 42) (.tmp 43)),
      ⟨none,none,.store 1 (.tmp 49) (.tmp 48)⟩] [0,1,2,3,9,10,11])
    (.seq (.ops [O1 50 (.mov (.tmp 0)),
      O1 51 (.mov (.tmp 11)),
      O1 52 (.mov (.tmp 1)),
      O1 53 (.len true (.tmp 52)),
      O1 54 (.bin .add (.tmp 51) (.tmp 53)),
      O1 55 (.slcS (.tmp 50) (some (.tmp 54)) none),
      O1 0 (.mov (.tmp 55))] [0,1,2,3,9,10])
    (.ops [O1 56 (.mov (.tmp 10)),
      O1 57 (.bin .add (.tmp 56) (.const (.int .i64 1))),
      O1 10 (.mov (.tmp 57))] [0,1,2,3,9,10]))))))
def c60:AFun:=⟨
 .seq (.ops [O1 8 (.mov (.const (.slice none 0 0)))] [0,1,2,3])
 (.seq (.seq (.ops [O1 12 (.mov (.tmp 3)),
   O1 13 (.bin .eql (.tmp 12) (.const (.int .i64 0)))] [0,1,2,3,13])
 (.cond (.tmp 13)
  (.seq (.ops [O1 8 (.mov (.const (.slice none 0 0)))] [8])
  (.ret))
  (.skip)))
 (.seq (.seq (.ops [O1 14 (.mov (.tmp 1)),
   O1 15 (.bin .eql (.tmp 14) (.const (.string ⟨#[]⟩)))] [0,1,2,3,15])
 (.cond (.tmp 15)
  (.seq (.ops [O1 16 (.mov (.tmp 0)),
    O1 17 (.mov (.tmp 3)),
    O1 18 (.callF 71 [(.tmp 16),(.tmp 17)]),
    O1 8 (.mov (.tmp 18))] [8])
  (.ret))
  (.skip)))
 (.seq (.seq (.ops [O1 19 (.mov (.tmp 3)),
   O1 20 (.bin .lss (.tmp 19) (.const (.int .i64 0)))] [0,1,2,3,20])
 (.cond (.tmp 20)
  (.ops [O1 21 (.mov (.tmp 0)),
    O1 22 (.mov (.tmp 1)),
    O1 23 (.callF 72 [(.tmp 21),(.tmp 22)]),
    O1 24 (.bin .add (.tmp 23) (.const (.int .i64 1))),
    O1 3 (.mov (.tmp 24))] [0,1,2,3])
  (.skip)))
 (.seq (.ops [O1 25 (.mov (.tmp 3)),
   O1 26 (.mov (.tmp 0)),
   O1 27 (.len true (.tmp 26)),
   O1 28 (.bin .add (.tmp 27) (.const (.int .i64 1))),
   O1 29 (.mm false (.tmp 25) (.tmp 28)),
   O1 3 (.mov (.tmp 29))] [0,1,2,3])
 (.seq (.ops [O1 30 (.mov (.tmp 3)),
   O1 31 (.mkSlice 9 1 16 [(.string ⟨#[]⟩)] (.tmp 30) (.tmp 30)),
   O1 9 (.mov (.tmp 31))] [0,1,2,3,9])
 (.seq (.ops [O1 32 (.mov (.tmp 3)),
   O1 33 (.bin .sub (.tmp 32) (.const (.int .i64 1))),
   O1 3 (.mov (.tmp 33))] [0,1,2,3,9])
 (.seq (.ops [O1 10 (.mov (.const (.int .i64 0)))] [0,1,2,3,9,10])
 (.seq (.block 0
  (.loop [0,1,2,3,9,10]
   c60l0))
 (.seq (.ops [O1 58 (.mov (.tmp 9)),
   O1 59 (.mov (.tmp 10)),
   O1 60 (.mov (.tmp 0)),
   O1 61 (.idxS 1 (.tmp 58) (.tmp 59)),
   ⟨none,none,.store 1 (.tmp 61) (.tmp 60)⟩] [9,10])
 (.seq (.ops [O1 62 (.mov (.tmp 9)),
   O1 63 (.mov (.tmp 10)),
   O1 64 (.bin .add (.tmp 63) (.const (.int .i64 1))),
   O1 65 (.slc 1 (.tmp 62) none (some (.tmp 64)) none),
   O1 8 (.mov (.tmp 65))] [8])
 (.ret))))))))))),
 66,[(8,none)],true⟩
theorem ok60:FunOK Tryd.prog 60 c60:= .code ⟨Tryd.f60,_,c60.code,Tryd.func60,rfl,by kernel_rfl,rfl,by kernel_rfl,by kernel_rfl⟩
/- strings.splitSeq -/
def c61:AFun:=⟨
 .seq (.ops [O1 3 (.box 9 (.tmp 0)),
   O1 4 (.box 9 (.tmp 1)),
   O1 5 (.box 3 (.tmp 2)),
   O1 6 (.mov (.const .nilFunc))] [3,4,5])
 (.seq (.ops [O1 7 (.mkFn 74 [] [(.tmp 4),(.tmp 3),(.tmp 5)]),
   O1 6 (.mov (.tmp 7))] [6])
 (.ret)),
 8,[(6,none)],true⟩
theorem ok61:FunOK Tryd.prog 61 c61:= .code ⟨Tryd.f61,_,c61.code,Tryd.func61,rfl,by kernel_rfl,rfl,by kernel_rfl,by kernel_rfl⟩
/- slices.ContainsFunc[[][]bool,[]bool] -/
def c65:AFun:=⟨
 .seq (.ops [O1 4 (.mov (.const (.bool false)))] [0,1])
 (.seq (.ops [O1 5 (.mov (.tmp 0)),
   O1 6 (.mov (.tmp 1)),
   O1 7 (.callF 81 [(.tmp 5),(.tmp 6)]),
   O1 8 (.bin .geq (.tmp 7) (.const (.int .i64 0))),
   O1 4 (.mov (.tmp 8))] [4])
 (.ret)),
 9,[(4,none)],true⟩
theorem ok65:FunOK Tryd.prog 65 c65:= .code ⟨Tryd.f65,_,c65.code,Tryd.func65,rfl,by kernel_rfl,rfl,by kernel_rfl,by kernel_rfl⟩
/- raddle/peg.valid$1 -/
def c66:AFun:=⟨
 .seq (.ops [O1 3 (.mov (.const (.bool false)))] [0,1])
 (.seq (.ops [O1 4 (.mov (.tmp 0)),
   O1 5 (.len false (.tmp 4)),
   O1 6 (.fldA 0 (.tmp 1)),
   O1 7 (.load none (.tmp 6)),
   O1 8 (.bin .add (.tmp 7) (.const (.int .i64 1))),
   O1 9 (.bin .neq (.tmp 5) (.tmp 8)),
   O1 3 (.mov (.tmp 9))] [3])
 (.ret)),
 10,[(3,none)],true⟩
theorem ok66:FunOK Tryd.prog 66 c66:= .code ⟨Tryd.f66,_,c66.code,Tryd.func66,rfl,by kernel_rfl,rfl,by kernel_rfl,by kernel_rfl⟩
/- internal/strconv.FormatInt -/
def c67:AFun:=⟨
 .seq (.ops [O1 4 (.mov (.const (.string ⟨#[]⟩)))] [0,1])
 (.seq (.seq (.ops [O1 10 (.mov (.tmp 1)),
   O1 11 (.bin .eql (.tmp 10) (.const (.int .i64 10)))] [0,1,11])
 (.cond (.tmp 11)
  (.seq (.seq (.ops [O1 12 (.mov (.tmp 0)),
    O1 13 (.bin .leq (.const (.int .i64 0)) (.tmp 12)),
    O1 14 (.mov (.tmp 13)),
    ⟨(some 15),(some (14,true)),.mov (.tmp 0)⟩,
    ⟨(some 16),(some (14,true)),.bin .lss (.tmp 15) (.const (.int .i64 100))⟩,
    O1 17 (.pick (.tmp 14) (.tmp 16) (.const (.bool false)))] [0,17])
  (.cond (.tmp 17)
   (.seq (.ops [O1 18 (.mov (.tmp 0)),
     O1 19 (.callF 82 [(.tmp 18)]),
     O1 4 (.mov (.tmp 19))] [4])
   (.ret))
   (.skip)))
  (.seq (.ops [O1 5 (.alloc 118 [(24,(.int .u8 0))])] [0,5])
  (.seq (.ops [O1 20 (.mov (.tmp 0)),
    O1 21 (.convI .u64 (.tmp 20)),
    O1 6 (.mov (.tmp 21))] [0,5,6])
  (.seq (.seq (.ops [O1 22 (.mov (.tmp 0)),
    O1 23 (.bin .lss (.tmp 22) (.const (.int .i64 0)))] [0,5,6,23])
  (.cond (.tmp 23)
   (.ops [O1 24 (.mov (.tmp 6)),
     O1 25 (.un .neg (.tmp 24)),
     O1 6 (.mov (.tmp 25))] [0,5,6])
   (.skip)))
  (.seq (.ops [O1 26 (.mov (.tmp 6)),
    O1 27 (.callF 83 [(.tmp 26)]),
    O1 7 (.mov (.tmp 27))] [0,5,6,7])
  (.seq (.ops [O1 28 (.mov (.tmp 7)),
    O1 29 (.bin .add (.const (.int .i64 1)) (.tmp 28)),
    O1 30 (.slcA 24 1 (.tmp 5) (some (.const (.int .i64 1))) (some (.tmp 29))),
    O1 31 (.mov (.tmp 6)),
    O1 32 (.callF 84 [(.tmp 30),(.tmp 31)])] [0,5,7])
  (.seq (.seq (.ops [O1 33 (.mov (.tmp 0)),
    O1 34 (.bin .lss (.tmp 33) (.const (.int .i64 0)))] [5,7,34])
  (.cond (.tmp 34)
   (.seq (.ops [O1 35 (.idxA 24 1 (.tmp 5) (.const (.int .i64 0))),
     ⟨none,none,.store 1 (.tmp 35) (.const (.int .u8 45))⟩] [5,7])
   (.seq (.ops [O1 36 (.mov (.tmp 7)),
     O1 37 (.bin .add (.const (.int .i64 1)) (.tmp 36)),
     O1 38 (.slcA 24 1 (.tmp 5) none (some (.tmp 37))),
     O1 39 (.b2s (.tmp 38)),
     O1 4 (.mov (.tmp 39))] [4])
   (.ret)))
   (.skip)))
  (.seq (.ops [O1 40 (.mov (.tmp 7)),
    O1 41 (.bin .add (.const (.int .i64 1)) (.tmp 40)),
    O1 42 (.slcA 24 1 (.tmp 5) (some (.const (.int .i64 1))) (some (.tmp 41))),
    O1 43 (.b2s (.tmp 42)),
    O1 4 (.mov (.tmp 43))] [4])
  (.ret)))))))))
  (.skip)))
 (.seq (.ops [O1 45 (.mov (.tmp 0)),
   O1 46 (.convI .u64 (.tmp 45)),
   O1 47 (.mov (.tmp 1)),
   O1 48 (.mov (.tmp 0)),
   O1 49 (.bin .lss (.tmp 48) (.const (.int .i64 0))),
   O1 50 (.callF 85 [(.const (.slice none 0 0)),(.tmp 46),(.tmp 47),(.tmp 49),(.const (.bool false))]),
   O1 44 (.mov (.tmp 50)),
   O1 51 (.ext (.tmp 44) 0),
   O1 52 (.ext (.tmp 44) 1),
   O1 8 (.mov (.tmp 51)),
   O1 9 (.mov (.tmp 52))] [9])
 (.seq (.ops [O1 53 (.mov (.tmp 9)),
   O1 4 (.mov (.tmp 53))] [4])
 (.ret)))),
 54,[(4,none)],true⟩
theorem ok67:FunOK Tryd.prog 67 c67:= .code ⟨Tryd.f67,_,c67.code,Tryd.func67,rfl,by kernel_rfl,rfl,by kernel_rfl,by kernel_rfl⟩
/- (*strings.Builder).grow -/
def c69:AFun:=⟨
 .seq (.draw [O1 5 (.mov (.tmp 0)),
   O1 6 (.nilChk (.tmp 5)),
   O1 7 (.fldA 1 (.tmp 6)),
   O1 8 (.load none (.tmp 7)),
   O1 9 (.cap (.tmp 8)),
   O1 10 (.bin .mul (.const (.int .i64 2)) (.tmp 9)),
   O1 11 (.mov (.tmp 1)),
   O1 12 (.bin .add (.tmp 10) (.tmp 11)),
   O1 13 (.callF 86 [(.tmp 12)]),
   O1 14 (.mov (.tmp 0)),
   O1 15 (.nilChk (.tmp 14)),
   O1 16 (.fldA 1 (.tmp 15)),
   O1 17 (.load none (.tmp 16)),
   O1 18 (.len false (.tmp 17))] [O1 19 (.slc 1 (.tmp 13) none (some (.tmp 18)) none),
   O1 4 (.mov (.tmp 19))] [[],[],[],[],[],[],[],[],[],[false,false,false,false,false,false,false,false,false],[true,false,false,false,false,false,false,false,false,false],[true,true,false,false,false,false,false,false,false,false,false],[true,true,true,false,false,false,false,false,false,false,false,false],[true,true,true,true,false,false,false,false,false,false,false,false,false]] [0,4])
 (.seq (.ops [O1 20 (.mov (.tmp 4)),
   O1 21 (.mov (.tmp 0)),
   O1 22 (.nilChk (.tmp 21)),
   O1 23 (.fldA 1 (.tmp 22)),
   O1 24 (.load none (.tmp 23)),
   O1 25 (.copy 1 (.tmp 20) (.tmp 24))] [0,4])
 (.ops [O1 26 (.mov (.tmp 0)),
   O1 27 (.mov (.tmp 4)),
   O1 28 (.nilChk (.tmp 26)),
   O1 29 (.fldA 1 (.tmp 28)),
   ⟨none,none,.store 1 (.tmp 29) (.tmp 27)⟩] [])),
 30,[],false⟩
theorem ok69:FunOK Tryd.prog 69 c69:= .code ⟨Tryd.f69,_,c69.code,Tryd.func69,rfl,by kernel_rfl,rfl,by kernel_rfl,by kernel_rfl⟩
/- internal/stringslite.HasSuffix -/
def c70:AFun:=⟨
 .seq (.ops [O1 4 (.mov (.const (.bool false)))] [0,1])
 (.seq (.ops [O1 5 (.mov (.tmp 0)),
   O1 6 (.len true (.tmp 5)),
   O1 7 (.mov (.tmp 1)),
   O1 8 (.len true (.tmp 7)),
   O1 9 (.bin .geq (.tmp 6) (.tmp 8)),
   O1 10 (.mov (.tmp 9)),
   ⟨(some 11),(some (10,true)),.mov (.tmp 0)⟩,
   ⟨(some 12),(some (10,true)),.mov (.tmp 0)⟩,
   ⟨(some 13),(some (10,true)),.len true (.tmp 12)⟩,
   ⟨(some 14),(some (10,true)),.mov (.tmp 1)⟩,
   ⟨(some 15),(some (10,true)),.len true (.tmp 14)⟩,
   ⟨(some 16),(some (10,true)),.bin .sub (.tmp 13) (.tmp 15)⟩,
   ⟨(some 17),(some (10,true)),.slcS (.tmp 11) (some (.tmp 16)) none⟩,
   ⟨(some 18),(some (10,true)),.mov (.tmp 1)⟩,
   ⟨(some 19),(some (10,true)),.bin .eql (.tmp 17) (.tmp 18)⟩,
   O1 20 (.pick (.tmp 10) (.tmp 19) (.const (.bool false))),
   O1 4 (.mov (.tmp 20))] [4])
 (.ret)),
 21,[(4,none)],true⟩
theorem ok70:FunOK Tryd.prog 70 c70:= .code ⟨Tryd.f70,_,c70.code,Tryd.func70,rfl,by kernel_rfl,rfl,by kernel_rfl,by kernel_rfl⟩
/- strings.explode -/
def c71l0:AC:=
 .seq (.seq (.ops [O1 22 (.mov (.tmp 7)),
     O1 23 (.mov (.tmp 1)),
     O1 24 (.bin .sub (.tmp 23) (.const (.int .i64 1))),
     O1 25 (.bin .lss (.tmp 22) (.tmp 24))] [0,1,6,7,25])
   (.cond (.tmp 25)
    (.skip)
    (.exit 0)))
   (.seq (.block 1
    (.seq (.ops [O1 29 (.mov (.tmp 0)),
      O1 30 (.callF 75 [(.tmp 29)]),
      O1 28 (.mov (.tmp 30)),
      O1 31 (.ext (.tmp 28) 0),
      O1 32 (.ext (.tmp 28) 1),
      O1 8 (.mov (.tmp 31)),
      O1 9 (.mov (.tmp 32))] [0,1,6,7,9])
    (.seq (.ops [O1 33 (.mov (.tmp 6)),
      O1 34 (.mov (.tmp 7)),
      O1 35 (.mov (.tmp 0)),
      O1 36 (.mov (.tmp 9)),
      O1 37 (.slcS (.tmp 35) none (some (.tmp 36))),
      O1 38 (.idxS 1 (.tmp 33) (.tmp 34)),
      ⟨none,none,.store 1 (.tmp 38) (.tmp 37)⟩] [0,1,6,7,9])
    (.ops [O1 39 (.mov (.tmp 0)),
      O1 40 (.mov (.tmp 9)),
      O1 41 (.slcS (.tmp 39) (some (.tmp 40)) none),
      O1 0 (.mov (.tmp 41))] [0,1,6,7]))))
   (.ops [O1 26 (.mov (.tmp 7)),
     O1 27 (.bin .add (.tmp 26) (.const (.int .i64 1))),
     O1 7 (.mov (.tmp 27))] [0,1,6,7]))
def c71:AFun:=⟨
 .seq (.ops [O1 4 (.mov (.const (.slice none 0 0)))] [0,1])
 (.seq (.ops [O1 10 (.mov (.tmp 0)),
   O1 11 (.callF 87 [(.tmp 10)]),
   O1 5 (.mov (.tmp 11))] [0,1,5])
 (.seq (.seq (.ops [O1 12 (.mov (.tmp 1)),
   O1 13 (.bin .lss (.tmp 12) (.const (.int .i64 0))),
   O1 14 (.mov (.tmp 13)),
   ⟨(some 15),(some (14,false)),.mov (.tmp 1)⟩,
   ⟨(some 16),(some (14,false)),.mov (.tmp 5)⟩,
   ⟨(some 17),(some (14,false)),.bin .gtr (.tmp 15) (.tmp 16)⟩,
   O1 18 (.pick (.tmp 14) (.const (.bool true)) (.tmp 17))] [0,1,5,18])
 (.cond (.tmp 18)
  (.ops [O1 19 (.mov (.tmp 5)),
    O1 1 (.mov (.tmp 19))] [0,1])
  (.skip)))
 (.seq (.ops [O1 20 (.mov (.tmp 1)),
   O1 21 (.mkSlice 9 1 16 [(.string ⟨#[]⟩)] (.tmp 20) (.tmp 20)),
   O1 6 (.mov (.tmp 21))] [0,1,6])
 (.seq (.seq (.ops [O1 7 (.mov (.const (.int .i64 0)))] [0,1,6,7])
 (.block 0
  (.loop [0,1,6,7]
   c71l0)))
 (.seq (.seq (.ops [O1 42 (.mov (.tmp 1)),
   O1 43 (.bin .gtr (.tmp 42) (.const (.int .i64 0)))] [0,1,6,43])
 (.cond (.tmp 43)
  (.ops [O1 44 (.mov (.tmp 6)),
    O1 45 (.mov (.tmp 1)),
    O1 46 (.bin .sub (.tmp 45) (.const (.int .i64 1))),
    O1 47 (.mov (.tmp 0)),
    O1 48 (.idxS 1 (.tmp 44) (.tmp 46)),
    ⟨none,none,.store 1 (.tmp 48) (.tmp 47)⟩] [6])
  (.skip)))
 (.seq (.ops [O1 49 (.mov (.tmp 6)),
   O1 4 (.mov (.tmp 49))] [4])
 (.ret))))))),
 50,[(4,none)],true⟩
theorem ok71:FunOK Tryd.prog 71 c71:= .code ⟨Tryd.f71,_,c71.code,Tryd.func71,rfl,by kernel_rfl,rfl,by kernel_rfl,by kernel_rfl⟩
/- strings.Count -/
def c72l0:AC:=
 .block 1
    (.seq (.ops [O1 20 (.mov (.tmp 0)),
      O1 21 (.mov (.tmp 1)),
      O1 22 (.callF 73 [(.tmp 20),(.tmp 21)]),
      O1 6 (.mov (.tmp 22))] [0,1,5,6])
    (.seq (.seq (.ops [O1 23 (.mov (.tmp 6)),
      O1 24 (.bin .eql (.tmp 23) (.const (.int .i64 (-1))))] [0,1,5,6,24])
    (.cond (.tmp 24)
     (.seq (.ops [O1 25 (.mov (.tmp 5)),
       O1 4 (.mov (.tmp 25))] [4])
     (.ret))
     (.skip)))
    (.seq (.ops [O1 26 (.mov (.tmp 5)),
      O1 27 (.bin .add (.tmp 26) (.const (.int .i64 1))),
      O1 5 (.mov (.tmp 27))] [0,1,5,6])
    (.ops [O1 28 (.mov (.tmp 0)),
      O1 29 (.mov (.tmp 6)),
      O1 30 (.mov (.tmp 1)),
      O1 31 (.len true (.tmp 30)),
      O1 32 (.bin .add (.tmp 29) (.tmp 31)),
      O1 33 (.slcS (.tmp 28) (some (.tmp 32)) none),
      O1 0 (.mov (.tmp 33))] [0,1,5]))))
def c72:AFun:=⟨
 .seq (.ops [O1 4 (.mov (.const (.int .i64 0)))] [0,1])
 (.seq (.seq (.ops [O1 7 (.mov (.tmp 1)),
   O1 8 (.len true (.tmp 7)),
   O1 9 (.bin .eql (.tmp 8) (.const (.int .i64 0)))] [0,1,9])
 (.cond (.tmp 9)
  (.seq (.ops [O1 10 (.mov (.tmp 0)),
    O1 11 (.callF 87 [(.tmp 10)]),
    O1 12 (.bin .add (.tmp 11) (.const (.int .i64 1))),
    O1 4 (.mov (.tmp 12))] [4])
  (.ret))
  (.skip)))
 (.seq (.seq (.ops [O1 13 (.mov (.tmp 1)),
   O1 14 (.len true (.tmp 13)),
   O1 15 (.bin .eql (.tmp 14) (.const (.int .i64 1)))] [0,1,15])
 (.cond (.tmp 15)
  (.seq (.ops [O1 16 (.mov (.tmp 0)),
    O1 17 (.mov (.tmp 1)),
    O1 18 (.idxStr (.tmp 17) (.const (.int .i64 0))),
    O1 19 (.callF 88 [(.tmp 16),(.tmp 18)]),
    O1 4 (.mov (.tmp 19))] [4])
  (.ret))
  (.skip)))
 (.seq (.ops [O1 5 (.mov (.const (.int .i64 0)))] [0,1,5])
 (.block 0
  (.loop [0,1,5]
   c72l0))))),
 34,[(4,none)],true⟩
theorem ok72:FunOK Tryd.prog 72 c72:= .code ⟨Tryd.f72,_,c72.code,Tryd.func72,rfl,by kernel_rfl,rfl,by kernel_rfl,by kernel_rfl⟩
/- strings.Index -/
def c73:AFun:=⟨
 .seq (.ops [O1 4 (.mov (.const (.int .i64 0)))] [0,1])
 (.seq (.ops [O1 5 (.mov (.tmp 0)),
   O1 6 (.mov (.tmp 1)),
   O1 7 (.callF 89 [(.tmp 5),(.tmp 6)]),
   O1 4 (.mov (.tmp 7))] [4])
 (.ret)),
 8,[(4,none)],true⟩
theorem ok73:FunOK Tryd.prog 73 c73:= .code ⟨Tryd.f73,_,c73.code,Tryd.func73,rfl,by kernel_rfl,rfl,by kernel_rfl,by kernel_rfl⟩
/- strings.splitSeq$1 -/
def c74l0:AC:=
 .block 3
    (.seq (.ops [O1 29 (.load none (.tmp 2)),
      O1 30 (.load none (.tmp 1)),
      O1 31 (.callF 73 [(.tmp 29),(.tmp 30)]),
      O1 7 (.mov (.tmp 31))] [0,1,2,3,7])
    (.seq (.seq (.ops [O1 32 (.mov (.tmp 7)),
      O1 33 (.bin .lss (.tmp 32) (.const (.int .i64 0)))] [0,1,2,3,7,33])
    (.cond (.tmp 33)
     (.exit 2)
     (.skip)))
    (.seq (.ops [O1 34 (.load none (.tmp 2)),
      O1 35 (.mov (.tmp 7)),
      O1 36 (.load none (.tmp 3)),
      O1 37 (.bin .add (.tmp 35) (.tmp 36)),
      O1 38 (.slcS (.tmp 34) none (some (.tmp 37))),
      O1 8 (.mov (.tmp 38))] [0,1,2,3,7,8])
    (.seq (.seq (.ops [O1 39 (.mov (.tmp 0)),
      O1 40 (.mov (.tmp 8)),
      O1 41 (.callV (.tmp 39) [(.tmp 40)]),
      O1 42 (.un .not (.tmp 41))] [0,1,2,3,7,42])
    (.cond (.tmp 42)
     (.ret)
     (.skip)))
    (.ops [O1 43 (.load none (.tmp 2)),
      O1 44 (.mov (.tmp 7)),
      O1 45 (.load none (.tmp 1)),
      O1 46 (.len true (.tmp 45)),
      O1 47 (.bin .add (.tmp 44) (.tmp 46)),
      O1 48 (.slcS (.tmp 43) (some (.tmp 47)) none),
      ⟨none,none,.store 1 (.tmp 2) (.tmp 48)⟩] [0,1,2,3])))))
def c74l1:AC:=
 .seq (.seq (.ops [O1 12 (.load none (.tmp 2)),
      O1 13 (.len true (.tmp 12)),
      O1 14 (.bin .gtr (.tmp 13) (.const (.int .i64 0)))] [0,2,14])
    (.cond (.tmp 14)
     (.skip)
     (.exit 0)))
    (.block 1
     (.seq (.ops [O1 16 (.load none (.tmp 2)),
       O1 17 (.callF 75 [(.tmp 16)]),
       O1 15 (.mov (.tmp 17)),
       O1 18 (.ext (.tmp 15) 0),
       O1 19 (.ext (.tmp 15) 1),
       O1 5 (.mov (.tmp 18)),
       O1 6 (.mov (.tmp 19))] [0,2,6])
     (.seq (.seq (.ops [O1 20 (.mov (.tmp 0)),
       O1 21 (.load none (.tmp 2)),
       O1 22 (.mov (.tmp 6)),
       O1 23 (.slcS (.tmp 21) none (some (.tmp 22))),
       O1 24 (.callV (.tmp 20) [(.tmp 23)]),
       O1 25 (.un .not (.tmp 24))] [0,2,6,25])
     (.cond (.tmp 25)
      (.ret)
      (.skip)))
     (.ops [O1 26 (.load none (.tmp 2)),
       O1 27 (.mov (.tmp 6)),
       O1 28 (.slcS (.tmp 26) (some (.tmp 27)) none),
       ⟨none,none,.store 1 (.tmp 2) (.tmp 28)⟩] [0,2]))))
def c74:AFun:=⟨
 .seq (.seq (.ops [O1 9 (.load none (.tmp 1)),
   O1 10 (.len true (.tmp 9)),
   O1 11 (.bin .eql (.tmp 10) (.const (.int .i64 0)))] [0,1,2,3,11])
 (.cond (.tmp 11)
  (.seq (.block 0
   (.loop [0,2]
    c74l1))
  (.ret))
  (.skip)))
 (.seq (.block 2
  (.loop [0,1,2,3]
   c74l0))
 (.ops [O1 49 (.mov (.tmp 0)),
   O1 50 (.load none (.tmp 2)),
   O1 51 (.callV (.tmp 49) [(.tmp 50)])] [])),
 52,[],false⟩
theorem ok74:FunOK Tryd.prog 74 c74:= .code ⟨Tryd.f74,_,c74.code,Tryd.func74,rfl,by kernel_rfl,rfl,by kernel_rfl,by kernel_rfl⟩
/- unicode/utf8.DecodeRuneInString -/
def c75:AFun:=⟨
 .seq (.ops [O1 2 (.mov (.const (.int .i32 0))),
   O1 3 (.mov (.const (.int .i64 0)))] [0])
 (.seq (.seq (.ops [O1 4 (.mov (.tmp 0)),
   O1 5 (.bin .neq (.tmp 4) (.const (.string ⟨#[]⟩))),
   O1 6 (.mov (.tmp 5)),
   ⟨(some 7),(some (6,true)),.mov (.tmp 0)⟩,
   ⟨(some 8),(some (6,true)),.idxStr (.tmp 7) (.const (.int .i64 0))⟩,
   ⟨(some 9),(some (6,true)),.bin .lss (.tmp 8) (.const (.int .u8 128))⟩,
   O1 10 (.pick (.tmp 6) (.tmp 9) (.const (.bool false)))] [0,10])
 (.cond (.tmp 10)
  (.seq (.ops [O1 11 (.mov (.tmp 0)),
    O1 12 (.idxStr (.tmp 11) (.const (.int .i64 0))),
    O1 13 (.convI .i32 (.tmp 12)),
    O1 2 (.mov (.tmp 13)),
    O1 3 (.mov (.const (.int .i64 1)))] [2,3])
  (.ret))
  (.ops [O1 15 (.mov (.tmp 0)),
    O1 16 (.callF 90 [(.tmp 15)]),
    O1 14 (.mov (.tmp 16)),
    O1 17 (.ext (.tmp 14) 0),
    O1 18 (.ext (.tmp 14) 1),
    O1 2 (.mov (.tmp 17)),
    O1 3 (.mov (.tmp 18))] [2,3])))
 (.ret)),
 19,[(2,none),(3,none)],true⟩
theorem ok75:FunOK Tryd.prog 75 c75:= .code ⟨Tryd.f75,_,c75.code,Tryd.func75,rfl,by kernel_rfl,rfl,by kernel_rfl,by kernel_rfl⟩
/- slices.IndexFunc[[][]bool,[]bool] -/
def c81l0:AC:=
 .seq (.ops [O1 9 (.bin .lss (.tmp 8) (.tmp 7))] [0,1,7,8,9])
   (.seq (.cond (.tmp 9)
    (.skip)
    (.exit 0))
   (.seq (.block 1
    (.seq (.ops [O1 10 (.mov (.tmp 8)),
      O1 5 (.mov (.tmp 10))] [0,1,5,7,8])
    (.seq (.ops [O1 11 (.mov (.tmp 1)),
      O1 12 (.mov (.tmp 0)),
      O1 13 (.mov (.tmp 5)),
      O1 14 (.idxS 1 (.tmp 12) (.tmp 13)),
      O1 15 (.load none (.tmp 14)),
      O1 16 (.callV (.tmp 11) [(.tmp 15)])] [0,1,5,7,8,16])
    (.cond (.tmp 16)
     (.seq (.ops [O1 17 (.mov (.tmp 5)),
       O1 4 (.mov (.tmp 17))] [4])
     (.ret))
     (.skip)))))
   (.ops [O1 18 (.bin .add (.tmp 8) (.const (.int .i64 1))),
     O1 8 (.mov (.tmp 18))] [0,1,7,8])))
def c81:AFun:=⟨
 .seq (.ops [O1 4 (.mov (.const (.int .i64 0)))] [0,1])
 (.seq (.seq (.ops [O1 6 (.mov (.tmp 0)),
   O1 7 (.len false (.tmp 6)),
   O1 8 (.mov (.const (.int .i64 0)))] [0,1,7,8])
 (.block 0
  (.loop [0,1,7,8]
   c81l0)))
 (.seq (.ops [O1 4 (.mov (.const (.int .i64 (-1))))] [4])
 (.ret))),
 19,[(4,none)],true⟩
theorem ok81:FunOK Tryd.prog 81 c81:= .code ⟨Tryd.f81,_,c81.code,Tryd.func81,rfl,by kernel_rfl,rfl,by kernel_rfl,by kernel_rfl⟩
/- internal/strconv.small -/
def c82:AFun:=⟨
 .seq (.ops [O1 2 (.mov (.const (.string ⟨#[]⟩)))] [0])
 (.seq (.seq (.ops [O1 3 (.mov (.tmp 0)),
   O1 4 (.bin .lss (.tmp 3) (.const (.int .i64 10)))] [0,4])
 (.cond (.tmp 4)
  (.seq (.ops [O1 5 (.mov (.tmp 0)),
    O1 6 (.mov (.tmp 0)),
    O1 7 (.bin .add (.tmp 6) (.const (.int .i64 1))),
    O1 8 (.slcS (.const (.string ⟨#[48,49,50,51,52,53,54,55,56,57,97,98,99,100,101,102,103,104,105,106,107,108,109,110,111,112,113,114,115,116,117,118,119,120,121,122]⟩)) (some (.tmp 5)) (some (.tmp 7))),
    O1 2 (.mov (.tmp 8))] [2])
  (.ret))
  (.skip)))
 (.seq (.ops [O1 9 (.mov (.tmp 0)),
   O1 10 (.bin .mul (.tmp 9) (.const (.int .i64 2))),
   O1 11 (.mov (.tmp 0)),
   O1 12 (.bin .mul (.tmp 11) (.const (.int .i64 2))),
   O1 13 (.bin .add (.tmp 12) (.const (.int .i64 2))),
   O1 14 (.slcS (.const (.string ⟨#[48,48,48,49,48,50,48,51,48,52,48,53,48,54,48,55,48,56,48,57,49,48,49,49,49,50,49,51,49,52,49,53,49,54,49,55,49,56,49,57,50,48,50,49,50,50,50,51,50,52,50,53,50,54,50,55,50,56,50,57,51,48,51,49,51,50,51,51,51,52,51,53,51,54,51,55,51,56,51,57,52,48,52,49,52,50,52,51,52,52,52,53,52,54,52,55,52,56,52,57,53,48,53,49,53,50,53,51,53,52,53,53,53,54,53,55,53,56,53,57,54,48,54,49,54,50,54,51,54,52,54,53,54,54,54,55,54,56,54,57,55,48,55,49,55,50,55,51,55,52,55,53,55,54,55,55,55,56,55,57,56,48,56,49,56,50,56,51,56,52,56,53,56,54,56,55,56,56,56,57,57,48,57,49,57,50,57,51,57,52,57,53,57,54,57,55,57,56,57,57]⟩)) (some (.tmp 10)) (some (.tmp 13))),
   O1 2 (.mov (.tmp 14))] [2])
 (.ret))),
 15,[(2,none)],true⟩
theorem ok82:FunOK Tryd.prog 82 c82:= .code ⟨Tryd.f82,_,c82.code,Tryd.func82,rfl,by kernel_rfl,rfl,by kernel_rfl,by kernel_rfl⟩
/- internal/strconv.numDigits -/
def c83:AFun:=⟨
 .seq (.ops [O1 2 (.mov (.const (.int .i64 0)))] [0])
 (.seq (.ops [O1 4 (.mov (.tmp 0)),
   O1 5 (.callF 95 [(.tmp 4)]),
   O1 6 (.callF 94 [(.tmp 5)]),
   O1 3 (.mov (.tmp 6))] [0,3])
 (.seq (.ops [O1 7 (.mov (.tmp 3)),
   O1 8 (.mov (.tmp 0)),
   O1 9 (.mov (.tmp 3)),
   O1 10 (.idxA 20 1 (.global 2) (.tmp 9)),
   O1 11 (.load none (.tmp 10)),
   O1 12 (.bin .geq (.tmp 8) (.tmp 11)),
   O1 13 (.callF 96 [(.tmp 12)]),
   O1 14 (.bin .add (.tmp 7) (.tmp 13)),
   O1 2 (.mov (.tmp 14))] [2])
 (.ret))),
 15,[(2,none)],true⟩
theorem ok83:FunOK Tryd.prog 83 c83:= .code ⟨Tryd.f83,_,c83.code,Tryd.func83,rfl,by kernel_rfl,rfl,by kernel_rfl,by kernel_rfl⟩
/- internal/strconv.formatBase10 -/
def c84l0:AC:=
 .seq (.seq (.ops [O1 19 (.mov (.tmp 4)),
     O1 20 (.bin .geq (.tmp 19) (.const (.int .i64 8)))] [0,1,4,20])
   (.cond (.tmp 20)
    (.skip)
    (.exit 0)))
   (.block 1
    (.seq (.ops [O1 21 (.mov (.tmp 1)),
      O1 22 (.bin .rem (.tmp 21) (.const (.int .u64 100000000))),
      O1 23 (.convI .u32 (.tmp 22)),
      O1 5 (.mov (.tmp 23))] [0,1,4,5])
    (.seq (.ops [O1 24 (.mov (.tmp 1)),
      O1 25 (.bin .quo (.tmp 24) (.const (.int .u64 100000000))),
      O1 1 (.mov (.tmp 25))] [0,1,4,5])
    (.seq (.ops [O1 26 (.mov (.tmp 5)),
      O1 27 (.bin .quo (.tmp 26) (.const (.int .u32 10000))),
      O1 28 (.mov (.tmp 5)),
      O1 29 (.bin .rem (.tmp 28) (.const (.int .u32 10000))),
      O1 6 (.mov (.tmp 27)),
      O1 7 (.mov (.tmp 29))] [0,1,4,6,7])
    (.seq (.ops [O1 30 (.mov (.tmp 7)),
      O1 31 (.bin .quo (.tmp 30) (.const (.int .u32 100))),
      O1 32 (.bin .mul (.tmp 31) (.const (.int .u32 2))),
      O1 33 (.mov (.tmp 7)),
      O1 34 (.bin .rem (.tmp 33) (.const (.int .u32 100))),
      O1 35 (.bin .mul (.tmp 34) (.const (.int .u32 2))),
      O1 8 (.mov (.tmp 32)),
      O1 9 (.mov (.tmp 35))] [0,1,4,6,8,9])
    (.seq (.ops [O1 36 (.mov (.tmp 6)),
      O1 37 (.bin .quo (.tmp 36) (.const (.int .u32 100))),
      O1 38 (.bin .mul (.tmp 37) (.const (.int .u32 2))),
      O1 39 (.mov (.tmp 6)),
      O1 40 (.bin .rem (.tmp 39) (.const (.int .u32 100))),
      O1 41 (.bin .mul (.tmp 40) (.const (.int .u32 2))),
      O1 10 (.mov (.tmp 38)),
      O1 11 (.mov (.tmp 41))] [0,1,4,8,9,10,11])
    (.seq (.drawW [⟨O1 42 (.mov (.tmp 0)),[],none⟩,
      ⟨O1 43 (.mov (.tmp 4)),[0],none⟩,
      ⟨O1 44 (.bin .sub (.tmp 43) (.const (.int .i64 1))),[0],none⟩,
      ⟨O1 45 (.mov (.tmp 0)),[0,1,2],none⟩,
      ⟨O1 46 (.mov (.tmp 4)),[0,1,2,3],none⟩,
      ⟨O1 47 (.bin .sub (.tmp 46) (.const (.int .i64 2))),[0,1,2,3],none⟩,
      ⟨O1 48 (.mov (.tmp 9)),[0,1,2,3,4,5],none⟩,
      ⟨O1 49 (.bin .add (.tmp 48) (.const (.int .u32 1))),[0,1,2,3,4,5],none⟩,
      ⟨O1 50 (.idxStr (.const (.string ⟨#[48,48,48,49,48,50,48,51,48,52,48,53,48,54,48,55,48,56,48,57,49,48,49,49,49,50,49,51,49,52,49,53,49,54,49,55,49,56,49,57,50,48,50,49,50,50,50,51,50,52,50,53,50,54,50,55,50,56,50,57,51,48,51,49,51,50,51,51,51,52,51,53,51,54,51,55,51,56,51,57,52,48,52,49,52,50,52,51,52,52,52,53,52,54,52,55,52,56,52,57,53,48,53,49,53,50,53,51,53,52,53,53,53,54,53,55,53,56,53,57,54,48,54,49,54,50,54,51,54,52,54,53,54,54,54,55,54,56,54,57,55,48,55,49,55,50,55,51,55,52,55,53,55,54,55,55,55,56,55,57,56,48,56,49,56,50,56,51,56,52,56,53,56,54,56,55,56,56,56,57,57,48,57,49,57,50,57,51,57,52,57,53,57,54,57,55,57,56,57,57]⟩)) (.tmp 49)),[0,1,2,3,4,5],none⟩,
      ⟨O1 51 (.mov (.tmp 9)),[0,1,2,3,4,5,6,7,8],none⟩,
      ⟨O1 52 (.idxStr (.const (.string ⟨#[48,48,48,49,48,50,48,51,48,52,48,53,48,54,48,55,48,56,48,57,49,48,49,49,49,50,49,51,49,52,49,53,49,54,49,55,49,56,49,57,50,48,50,49,50,50,50,51,50,52,50,53,50,54,50,55,50,56,50,57,51,48,51,49,51,50,51,51,51,52,51,53,51,54,51,55,51,56,51,57,52,48,52,49,52,50,52,51,52,52,52,53,52,54,52,55,52,56,52,57,53,48,53,49,53,50,53,51,53,52,53,53,53,54,53,55,53,56,53,57,54,48,54,49,54,50,54,51,54,52,54,53,54,54,54,55,54,56,54,57,55,48,55,49,55,50,55,51,55,52,55,53,55,54,55,55,55,56,55,57,56,48,56,49,56,50,56,51,56,52,56,53,56,54,56,55,56,56,56,57,57,48,57,49,57,50,57,51,57,52,57,53,57,54,57,55,57,56,57,57]⟩)) (.tmp 51)),[0,1,2,3,4,5,6,7,8],none⟩,
      ⟨O1 53 (.idxS 1 (.tmp 42) (.tmp 44)),[3,4,5,9,10],none⟩,
      ⟨⟨none,none,.store 1 (.tmp 53) (.tmp 50)⟩,[3,4,5,9,10],none⟩] [O1 54 (.idxS 1 (.tmp 45) (.tmp 47)),
      ⟨none,none,.store 1 (.tmp 54) (.tmp 52)⟩] [0,1,4,8,10,11])
    (.seq (.drawW [⟨O1 55 (.mov (.tmp 0)),[],none⟩,
      ⟨O1 56 (.mov (.tmp 4)),[0],none⟩,
      ⟨O1 57 (.bin .sub (.tmp 56) (.const (.int .i64 3))),[0],none⟩,
      ⟨O1 58 (.mov (.tmp 0)),[0,1,2],none⟩,
      ⟨O1 59 (.mov (.tmp 4)),[0,1,2,3],none⟩,
      ⟨O1 60 (.bin .sub (.tmp 59) (.const (.int .i64 4))),[0,1,2,3],none⟩,
      ⟨O1 61 (.mov (.tmp 8)),[0,1,2,3,4,5],none⟩,
      ⟨O1 62 (.bin .add (.tmp 61) (.const (.int .u32 1))),[0,1,2,3,4,5],none⟩,
      ⟨O1 63 (.idxStr (.const (.string ⟨#[48,48,48,49,48,50,48,51,48,52,48,53,48,54,48,55,48,56,48,57,49,48,49,49,49,50,49,51,49,52,49,53,49,54,49,55,49,56,49,57,50,48,50,49,50,50,50,51,50,52,50,53,50,54,50,55,50,56,50,57,51,48,51,49,51,50,51,51,51,52,51,53,51,54,51,55,51,56,51,57,52,48,52,49,52,50,52,51,52,52,52,53,52,54,52,55,52,56,52,57,53,48,53,49,53,50,53,51,53,52,53,53,53,54,53,55,53,56,53,57,54,48,54,49,54,50,54,51,54,52,54,53,54,54,54,55,54,56,54,57,55,48,55,49,55,50,55,51,55,52,55,53,55,54,55,55,55,56,55,57,56,48,56,49,56,50,56,51,56,52,56,53,56,54,56,55,56,56,56,57,57,48,57,49,57,50,57,51,57,52,57,53,57,54,57,55,57,56,57,57]⟩)) (.tmp 62)),[0,1,2,3,4,5],none⟩,
      ⟨O1 64 (.mov (.tmp 8)),[0,1,2,3,4,5,6,7,8],none⟩,
      ⟨O1 65 (.idxStr (.const (.string ⟨#[48,48,48,49,48,50,48,51,48,52,48,53,48,54,48,55,48,56,48,57,49,48,49,49,49,50,49,51,49,52,49,53,49,54,49,55,49,56,49,57,50,48,50,49,50,50,50,51,50,52,50,53,50,54,50,55,50,56,50,57,51,48,51,49,51,50,51,51,51,52,51,53,51,54,51,55,51,56,51,57,52,48,52,49,52,50,52,51,52,52,52,53,52,54,52,55,52,56,52,57,53,48,53,49,53,50,53,51,53,52,53,53,53,54,53,55,53,56,53,57,54,48,54,49,54,50,54,51,54,52,54,53,54,54,54,55,54,56,54,57,55,48,55,49,55,50,55,51,55,52,55,53,55,54,55,55,55,56,55,57,56,48,56,49,56,50,56,51,56,52,56,53,56,54,56,55,56,56,56,57,57,48,57,49,57,50,57,51,57,52,57,53,57,54,57,55,57,56,57,57]⟩)) (.tmp 64)),[0,1,2,3,4,5,6,7,8],none⟩,
      ⟨O1 66 (.idxS 1 (.tmp 55) (.tmp 57)),[3,4,5,9,10],none⟩,
      ⟨⟨none,none,.store 1 (.tmp 66) (.tmp 63)⟩,[3,4,5,9,10],none⟩] [O1 67 (.idxS 1 (.tmp 58) (.tmp 60)),
      ⟨none,none,.store 1 (.tmp 67) (.tmp 65)⟩] [0,1,4,10,11])
    (.seq (.drawW [⟨O1 68 (.mov (.tmp 0)),[],none⟩,
      ⟨O1 69 (.mov (.tmp 4)),[0],none⟩,
      ⟨O1 70 (.bin .sub (.tmp 69) (.const (.int .i64 5))),[0],none⟩,
      ⟨O1 71 (.mov (.tmp 0)),[0,1,2],none⟩,
      ⟨O1 72 (.mov (.tmp 4)),[0,1,2,3],none⟩,
      ⟨O1 73 (.bin .sub (.tmp 72) (.const (.int .i64 6))),[0,1,2,3],none⟩,
      ⟨O1 74 (.mov (.tmp 11)),[0,1,2,3,4,5],none⟩,
      ⟨O1 75 (.bin .add (.tmp 74) (.const (.int .u32 1))),[0,1,2,3,4,5],none⟩,
      ⟨O1 76 (.idxStr (.const (.string ⟨#[48,48,48,49,48,50,48,51,48,52,48,53,48,54,48,55,48,56,48,57,49,48,49,49,49,50,49,51,49,52,49,53,49,54,49,55,49,56,49,57,50,48,50,49,50,50,50,51,50,52,50,53,50,54,50,55,50,56,50,57,51,48,51,49,51,50,51,51,51,52,51,53,51,54,51,55,51,56,51,57,52,48,52,49,52,50,52,51,52,52,52,53,52,54,52,55,52,56,52,57,53,48,53,49,53,50,53,51,53,52,53,53,53,54,53,55,53,56,53,57,54,48,54,49,54,50,54,51,54,52,54,53,54,54,54,55,54,56,54,57,55,48,55,49,55,50,55,51,55,52,55,53,55,54,55,55,55,56,55,57,56,48,56,49,56,50,56,51,56,52,56,53,56,54,56,55,56,56,56,57,57,48,57,49,57,50,57,51,57,52,57,53,57,54,57,55,57,56,57,57]⟩)) (.tmp 75)),[0,1,2,3,4,5],none⟩,
      ⟨O1 77 (.mov (.tmp 11)),[0,1,2,3,4,5,6,7,8],none⟩,
      ⟨O1 78 (.idxStr (.const (.string ⟨#[48,48,48,49,48,50,48,51,48,52,48,53,48,54,48,55,48,56,48,57,49,48,49,49,49,50,49,51,49,52,49,53,49,54,49,55,49,56,49,57,50,48,50,49,50,50,50,51,50,52,50,53,50,54,50,55,50,56,50,57,51,48,51,49,51,50,51,51,51,52,51,53,51,54,51,55,51,56,51,57,52,48,52,49,52,50,52,51,52,52,52,53,52,54,52,55,52,56,52,57,53,48,53,49,53,50,53,51,53,52,53,53,53,54,53,55,53,56,53,57,54,48,54,49,54,50,54,51,54,52,54,53,54,54,54,55,54,56,54,57,55,48,55,49,55,50,55,51,55,52,55,53,55,54,55,55,55,56,55,57,56,48,56,49,56,50,56,51,56,52,56,53,56,54,56,55,56,56,56,57,57,48,57,49,57,50,57,51,57,52,57,53,57,54,57,55,57,56,57,57]⟩)) (.tmp 77)),[0,1,2,3,4,5,6,7,8],none⟩,
      ⟨O1 79 (.idxS 1 (.tmp 68) (.tmp 70)),[3,4,5,9,10],none⟩,
      ⟨⟨none,none,.store 1 (.tmp 79) (.tmp 76)⟩,[3,4,5,9,10],none⟩] [O1 80 (.idxS 1 (.tmp 71) (.tmp 73)),
      ⟨none,none,.store 1 (.tmp 80) (.tmp 78)⟩] [0,1,4,10])
    (.seq (.drawW [⟨O1 81 (.mov (.tmp 0)),[],none⟩,
      ⟨O1 82 (.mov (.tmp 4)),[0],none⟩,
      ⟨O1 83 (.bin .sub (.tmp 82) (.const (.int .i64 7))),[0],none⟩,
      ⟨O1 84 (.mov (.tmp 0)),[0,1,2],none⟩,
      ⟨O1 85 (.mov (.tmp 4)),[0,1,2,3],none⟩,
      ⟨O1 86 (.bin .sub (.tmp 85) (.const (.int .i64 8))),[0,1,2,3],none⟩,
      ⟨O1 87 (.mov (.tmp 10)),[0,1,2,3,4,5],none⟩,
      ⟨O1 88 (.bin .add (.tmp 87) (.const (.int .u32 1))),[0,1,2,3,4,5],none⟩,
      ⟨O1 89 (.idxStr (.const (.string ⟨#[48,48,48,49,48,50,48,51,48,52,48,53,48,54,48,55,48,56,48,57,49,48,49,49,49,50,49,51,49,52,49,53,49,54,49,55,49,56,49,57,50,48,50,49,50,50,50,51,50,52,50,53,50,54,50,55,50,56,50,57,51,48,51,49,51,50,51,51,51,52,51,53,51,54,51,55,51,56,51,57,52,48,52,49,52,50,52,51,52,52,52,53,52,54,52,55,52,56,52,57,53,48,53,49,53,50,53,51,53,52,53,53,53,54,53,55,53,56,53,57,54,48,54,49,54,50,54,51,54,52,54,53,54,54,54,55,54,56,54,57,55,48,55,49,55,50,55,51,55,52,55,53,55,54,55,55,55,56,55,57,56,48,56,49,56,50,56,51,56,52,56,53,56,54,56,55,56,56,56,57,57,48,57,49,57,50,57,51,57,52,57,53,57,54,57,55,57,56,57,57]⟩)) (.tmp 88)),[0,1,2,3,4,5],none⟩,
      ⟨O1 90 (.mov (.tmp 10)),[0,1,2,3,4,5,6,7,8],none⟩,
      ⟨O1 91 (.idxStr (.const (.string ⟨#[48,48,48,49,48,50,48,51,48,52,48,53,48,54,48,55,48,56,48,57,49,48,49,49,49,50,49,51,49,52,49,53,49,54,49,55,49,56,49,57,50,48,50,49,50,50,50,51,50,52,50,53,50,54,50,55,50,56,50,57,51,48,51,49,51,50,51,51,51,52,51,53,51,54,51,55,51,56,51,57,52,48,52,49,52,50,52,51,52,52,52,53,52,54,52,55,52,56,52,57,53,48,53,49,53,50,53,51,53,52,53,53,53,54,53,55,53,56,53,57,54,48,54,49,54,50,54,51,54,52,54,53,54,54,54,55,54,56,54,57,55,48,55,49,55,50,55,51,55,52,55,53,55,54,55,55,55,56,55,57,56,48,56,49,56,50,56,51,56,52,56,53,56,54,56,55,56,56,56,57,57,48,57,49,57,50,57,51,57,52,57,53,57,54,57,55,57,56,57,57]⟩)) (.tmp 90)),[0,1,2,3,4,5,6,7,8],none⟩,
      ⟨O1 92 (.idxS 1 (.tmp 81) (.tmp 83)),[3,4,5,9,10],none⟩,
      ⟨⟨none,none,.store 1 (.tmp 92) (.tmp 89)⟩,[3,4,5,9,10],none⟩] [O1 93 (.idxS 1 (.tmp 84) (.tmp 86)),
      ⟨none,none,.store 1 (.tmp 93) (.tmp 91)⟩] [0,1,4])
    (.ops [O1 94 (.mov (.tmp 4)),
      O1 95 (.bin .sub (.tmp 94) (.const (.int .i64 8))),
      O1 4 (.mov (.tmp 95))] [0,1,4])))))))))))
def c84:AFun:=⟨
 .seq (.ops [O1 17 (.mov (.tmp 0)),
   O1 18 (.len false (.tmp 17)),
   O1 4 (.mov (.tmp 18))] [0,1,4])
 (.seq (.block 0
  (.loop [0,1,4]
   c84l0))
 (.seq (.ops [O1 96 (.mov (.tmp 1)),
   O1 97 (.convI .u32 (.tmp 96)),
   O1 12 (.mov (.tmp 97))] [0,4,12])
 (.seq (.seq (.ops [O1 98 (.mov (.tmp 4)),
   O1 99 (.bin .geq (.tmp 98) (.const (.int .i64 4)))] [0,4,12,99])
 (.cond (.tmp 99)
  (.seq (.ops [O1 100 (.mov (.tmp 12)),
    O1 101 (.bin .rem (.tmp 100) (.const (.int .u32 10000))),
    O1 13 (.mov (.tmp 101))] [0,4,12,13])
  (.seq (.ops [O1 102 (.mov (.tmp 12)),
    O1 103 (.bin .quo (.tmp 102) (.const (.int .u32 10000))),
    O1 12 (.mov (.tmp 103))] [0,4,12,13])
  (.seq (.ops [O1 104 (.mov (.tmp 13)),
    O1 105 (.bin .quo (.tmp 104) (.const (.int .u32 100))),
    O1 106 (.bin .mul (.tmp 105) (.const (.int .u32 2))),
    O1 107 (.mov (.tmp 13)),
    O1 108 (.bin .rem (.tmp 107) (.const (.int .u32 100))),
    O1 109 (.bin .mul (.tmp 108) (.const (.int .u32 2))),
    O1 14 (.mov (.tmp 106)),
    O1 15 (.mov (.tmp 109))] [0,4,12,14,15])
  (.seq (.drawW [⟨O1 110 (.mov (.tmp 0)),[],none⟩,
    ⟨O1 111 (.mov (.tmp 4)),[0],none⟩,
    ⟨O1 112 (.bin .sub (.tmp 111) (.const (.int .i64 1))),[0],none⟩,
    ⟨O1 113 (.mov (.tmp 0)),[0,1,2],none⟩,
    ⟨O1 114 (.mov (.tmp 4)),[0,1,2,3],none⟩,
    ⟨O1 115 (.bin .sub (.tmp 114) (.const (.int .i64 2))),[0,1,2,3],none⟩,
    ⟨O1 116 (.mov (.tmp 15)),[0,1,2,3,4,5],none⟩,
    ⟨O1 117 (.bin .add (.tmp 116) (.const (.int .u32 1))),[0,1,2,3,4,5],none⟩,
    ⟨O1 118 (.idxStr (.const (.string ⟨#[48,48,48,49,48,50,48,51,48,52,48,53,48,54,48,55,48,56,48,57,49,48,49,49,49,50,49,51,49,52,49,53,49,54,49,55,49,56,49,57,50,48,50,49,50,50,50,51,50,52,50,53,50,54,50,55,50,56,50,57,51,48,51,49,51,50,51,51,51,52,51,53,51,54,51,55,51,56,51,57,52,48,52,49,52,50,52,51,52,52,52,53,52,54,52,55,52,56,52,57,53,48,53,49,53,50,53,51,53,52,53,53,53,54,53,55,53,56,53,57,54,48,54,49,54,50,54,51,54,52,54,53,54,54,54,55,54,56,54,57,55,48,55,49,55,50,55,51,55,52,55,53,55,54,55,55,55,56,55,57,56,48,56,49,56,50,56,51,56,52,56,53,56,54,56,55,56,56,56,57,57,48,57,49,57,50,57,51,57,52,57,53,57,54,57,55,57,56,57,57]⟩)) (.tmp 117)),[0,1,2,3,4,5],none⟩,
    ⟨O1 119 (.mov (.tmp 15)),[0,1,2,3,4,5,6,7,8],none⟩,
    ⟨O1 120 (.idxStr (.const (.string ⟨#[48,48,48,49,48,50,48,51,48,52,48,53,48,54,48,55,48,56,48,57,49,48,49,49,49,50,49,51,49,52,49,53,49,54,49,55,49,56,49,57,50,48,50,49,50,50,50,51,50,52,50,53,50,54,50,55,50,56,50,57,51,48,51,49,51,50,51,51,51,52,51,53,51,54,51,55,51,56,51,57,52,48,52,49,52,50,52,51,52,52,52,53,52,54,52,55,52,56,52,57,53,48,53,49,53,50,53,51,53,52,53,53,53,54,53,55,53,56,53,57,54,48,54,49,54,50,54,51,54,52,54,53,54,54,54,55,54,56,54,57,55,48,55,49,55,50,55,51,55,52,55,53,55,54,55,55,55,56,55,57,56,48,56,49,56,50,56,51,56,52,56,53,56,54,56,55,56,56,56,57,57,48,57,49,57,50,57,51,57,52,57,53,57,54,57,55,57,56,57,57]⟩)) (.tmp 119)),[0,1,2,3,4,5,6,7,8],none⟩,
    ⟨O1 121 (.idxS 1 (.tmp 110) (.tmp 112)),[3,4,5,9,10],none⟩,
    ⟨⟨none,none,.store 1 (.tmp 121) (.tmp 118)⟩,[3,4,5,9,10],none⟩] [O1 122 (.idxS 1 (.tmp 113) (.tmp 115)),
    ⟨none,none,.store 1 (.tmp 122) (.tmp 120)⟩] [0,4,12,14])
  (.seq (.drawW [⟨O1 123 (.mov (.tmp 0)),[],none⟩,
    ⟨O1 124 (.mov (.tmp 4)),[0],none⟩,
    ⟨O1 125 (.bin .sub (.tmp 124) (.const (.int .i64 3))),[0],none⟩,
    ⟨O1 126 (.mov (.tmp 0)),[0,1,2],none⟩,
    ⟨O1 127 (.mov (.tmp 4)),[0,1,2,3],none⟩,
    ⟨O1 128 (.bin .sub (.tmp 127) (.const (.int .i64 4))),[0,1,2,3],none⟩,
    ⟨O1 129 (.mov (.tmp 14)),[0,1,2,3,4,5],none⟩,
    ⟨O1 130 (.bin .add (.tmp 129) (.const (.int .u32 1))),[0,1,2,3,4,5],none⟩,
    ⟨O1 131 (.idxStr (.const (.string ⟨#[48,48,48,49,48,50,48,51,48,52,48,53,48,54,48,55,48,56,48,57,49,48,49,49,49,50,49,51,49,52,49,53,49,54,49,55,49,56,49,57,50,48,50,49,50,50,50,51,50,52,50,53,50,54,50,55,50,56,50,57,51,48,51,49,51,50,51,51,51,52,51,53,51,54,51,55,51,56,51,57,52,48,52,49,52,50,52,51,52,52,52,53,52,54,52,55,52,56,52,57,53,48,53,49,53,50,53,51,53,52,53,53,53,54,53,55,53,56,53,57,54,48,54,49,54,50,54,51,54,52,54,53,54,54,54,55,54,56,54,57,55,48,55,49,55,50,55,51,55,52,55,53,55,54,55,55,55,56,55,57,56,48,56,49,56,50,56,51,56,52,56,53,56,54,56,55,56,56,56,57,57,48,57,49,57,50,57,51,57,52,57,53,57,54,57,55,57,56,57,57]⟩)) (.tmp 130)),[0,1,2,3,4,5],none⟩,
    ⟨O1 132 (.mov (.tmp 14)),[0,1,2,3,4,5,6,7,8],none⟩,
    ⟨O1 133 (.idxStr (.const (.string ⟨#[48,48,48,49,48,50,48,51,48,52,48,53,48,54,48,55,48,56,48,57,49,48,49,49,49,50,49,51,49,52,49,53,49,54,49,55,49,56,49,57,50,48,50,49,50,50,50,51,50,52,50,53,50,54,50,55,50,56,50,57,51,48,51,49,51,50,51,51,51,52,51,53,51,54,51,55,51,56,51,57,52,48,52,49,52,50,52,51,52,52,52,53,52,54,52,55,52,56,52,57,53,48,53,49,53,50,53,51,53,52,53,53,53,54,53,55,53,56,53,57,54,48,54,49,54,50,54,51,54,52,54,53,54,54,54,55,54,56,54,57,55,48,55,49,55,50,55,51,55,52,55,53,55,54,55,55,55,56,55,57,56,48,56,49,56,50,56,51,56,52,56,53,56,54,56,55,56,56,56,57,57,48,57,49,57,50,57,51,57,52,57,53,57,54,57,55,57,56,57,57]⟩)) (.tmp 132)),[0,1,2,3,4,5,6,7,8],none⟩,
    ⟨O1 134 (.idxS 1 (.tmp 123) (.tmp 125)),[3,4,5,9,10],none⟩,
    ⟨⟨none,none,.store 1 (.tmp 134) (.tmp 131)⟩,[3,4,5,9,10],none⟩] [O1 135 (.idxS 1 (.tmp 126) (.tmp 128)),
    ⟨none,none,.store 1 (.tmp 135) (.tmp 133)⟩] [0,4,12])
  (.ops [O1 136 (.mov (.tmp 4)),
    O1 137 (.bin .sub (.tmp 136) (.const (.int .i64 4))),
    O1 4 (.mov (.tmp 137))] [0,4,12]))))))
  (.skip)))
 (.seq (.seq (.ops [O1 138 (.mov (.tmp 4)),
   O1 139 (.bin .geq (.tmp 138) (.const (.int .i64 2)))] [0,4,12,139])
 (.cond (.tmp 139)
  (.seq (.ops [O1 140 (.mov (.tmp 12)),
    O1 141 (.bin .rem (.tmp 140) (.const (.int .u32 100))),
    O1 142 (.bin .mul (.tmp 141) (.const (.int .u32 2))),
    O1 16 (.mov (.tmp 142))] [0,4,12,16])
  (.seq (.ops [O1 143 (.mov (.tmp 12)),
    O1 144 (.bin .quo (.tmp 143) (.const (.int .u32 100))),
    O1 12 (.mov (.tmp 144))] [0,4,12,16])
  (.seq (.drawW [⟨O1 145 (.mov (.tmp 0)),[],none⟩,
    ⟨O1 146 (.mov (.tmp 4)),[0],none⟩,
    ⟨O1 147 (.bin .sub (.tmp 146) (.const (.int .i64 1))),[0],none⟩,
    ⟨O1 148 (.mov (.tmp 0)),[0,1,2],none⟩,
    ⟨O1 149 (.mov (.tmp 4)),[0,1,2,3],none⟩,
    ⟨O1 150 (.bin .sub (.tmp 149) (.const (.int .i64 2))),[0,1,2,3],none⟩,
    ⟨O1 151 (.mov (.tmp 16)),[0,1,2,3,4,5],none⟩,
    ⟨O1 152 (.bin .add (.tmp 151) (.const (.int .u32 1))),[0,1,2,3,4,5],none⟩,
    ⟨O1 153 (.idxStr (.const (.string ⟨#[48,48,48,49,48,50,48,51,48,52,48,53,48,54,48,55,48,56,48,57,49,48,49,49,49,50,49,51,49,52,49,53,49,54,49,55,49,56,49,57,50,48,50,49,50,50,50,51,50,52,50,53,50,54,50,55,50,56,50,57,51,48,51,49,51,50,51,51,51,52,51,53,51,54,51,55,51,56,51,57,52,48,52,49,52,50,52,51,52,52,52,53,52,54,52,55,52,56,52,57,53,48,53,49,53,50,53,51,53,52,53,53,53,54,53,55,53,56,53,57,54,48,54,49,54,50,54,51,54,52,54,53,54,54,54,55,54,56,54,57,55,48,55,49,55,50,55,51,55,52,55,53,55,54,55,55,55,56,55,57,56,48,56,49,56,50,56,51,56,52,56,53,56,54,56,55,56,56,56,57,57,48,57,49,57,50,57,51,57,52,57,53,57,54,57,55,57,56,57,57]⟩)) (.tmp 152)),[0,1,2,3,4,5],none⟩,
    ⟨O1 154 (.mov (.tmp 16)),[0,1,2,3,4,5,6,7,8],none⟩,
    ⟨O1 155 (.idxStr (.const (.string ⟨#[48,48,48,49,48,50,48,51,48,52,48,53,48,54,48,55,48,56,48,57,49,48,49,49,49,50,49,51,49,52,49,53,49,54,49,55,49,56,49,57,50,48,50,49,50,50,50,51,50,52,50,53,50,54,50,55,50,56,50,57,51,48,51,49,51,50,51,51,51,52,51,53,51,54,51,55,51,56,51,57,52,48,52,49,52,50,52,51,52,52,52,53,52,54,52,55,52,56,52,57,53,48,53,49,53,50,53,51,53,52,53,53,53,54,53,55,53,56,53,57,54,48,54,49,54,50,54,51,54,52,54,53,54,54,54,55,54,56,54,57,55,48,55,49,55,50,55,51,55,52,55,53,55,54,55,55,55,56,55,57,56,48,56,49,56,50,56,51,56,52,56,53,56,54,56,55,56,56,56,57,57,48,57,49,57,50,57,51,57,52,57,53,57,54,57,55,57,56,57,57]⟩)) (.tmp 154)),[0,1,2,3,4,5,6,7,8],none⟩,
    ⟨O1 156 (.idxS 1 (.tmp 145) (.tmp 147)),[3,4,5,9,10],none⟩,
    ⟨⟨none,none,.store 1 (.tmp 156) (.tmp 153)⟩,[3,4,5,9,10],none⟩] [O1 157 (.idxS 1 (.tmp 148) (.tmp 150)),
    ⟨none,none,.store 1 (.tmp 157) (.tmp 155)⟩] [0,4,12])
  (.ops [O1 158 (.mov (.tmp 4)),
    O1 159 (.bin .sub (.tmp 158) (.const (.int .i64 2))),
    O1 4 (.mov (.tmp 159))] [0,4,12]))))
  (.skip)))
 (.seq (.ops [O1 160 (.mov (.tmp 4)),
   O1 161 (.bin .gtr (.tmp 160) (.const (.int .i64 0)))] [0,12,161])
 (.cond (.tmp 161)
  (.ops [O1 162 (.mov (.tmp 0)),
    O1 163 (.mov (.tmp 12)),
    O1 164 (.bin .add (.const (.int .u32 48)) (.tmp 163)),
    O1 165 (.convI .u8 (.tmp 164)),
    O1 166 (.idxS 1 (.tmp 162) (.const (.int .i64 0))),
    ⟨none,none,.store 1 (.tmp 166) (.tmp 165)⟩] [])
  (.skip))))))),
 167,[],true⟩
theorem ok84:FunOK Tryd.prog 84 c84:= .code ⟨Tryd.f84,_,c84.code,Tryd.func84,rfl,by kernel_rfl,rfl,by kernel_rfl,by kernel_rfl⟩
/- internal/strconv.formatBits (1 operations that the interpreter lacks) -/
def c85l0:AC:=
 .seq (.seq (.ops [O1 66 (.mov (.tmp 1)),
      O1 67 (.mov (.tmp 17)),
      O1 68 (.bin .geq (.tmp 66) (.tmp 67))] [0,1,3,4,10,11,12,13,17,68])
    (.cond (.tmp 68)
     (.skip)
     (.exit 2)))
    (.block 3
     (.seq (.ops [O1 69 (.mov (.tmp 13)),
       O1 70 (.bin .sub (.tmp 69) (.const (.int .i64 1))),
       O1 13 (.mov (.tmp 70))] [0,1,3,4,10,11,12,13,17])
     (.seq (.ops [O1 71 (.mov (.tmp 1)),
       O1 72 (.mov (.tmp 17)),
       O1 73 (.bin .quo (.tmp 71) (.tmp 72)),
       O1 18 (.mov (.tmp 73))] [0,1,3,4,10,11,12,13,17,18])
     (.seq (.ops [O1 74 (.mov (.tmp 13)),
       O1 75 (.mov (.tmp 1)),
       O1 76 (.mov (.tmp 18)),
       O1 77 (.mov (.tmp 17)),
       O1 78 (.bin .mul (.tmp 76) (.tmp 77)),
       O1 79 (.bin .sub (.tmp 75) (.tmp 78)),
       O1 80 (.idxStr (.const (.string ⟨#[48,49,50,51,52,53,54,55,56,57,97,98,99,100,101,102,103,104,105,106,107,108,109,110,111,112,113,114,115,116,117,118,119,120,121,122]⟩)) (.tmp 79)),
       O1 81 (.idxA 65 1 (.tmp 12) (.tmp 74)),
       ⟨none,none,.store 1 (.tmp 81) (.tmp 80)⟩] [0,3,4,10,11,12,13,17,18])
     (.ops [O1 82 (.mov (.tmp 18)),
       O1 1 (.mov (.tmp 82))] [0,1,3,4,10,11,12,13,17])))))
def c85l1:AC:=
 .seq (.seq (.ops [O1 44 (.mov (.tmp 1)),
      O1 45 (.mov (.tmp 15)),
      O1 46 (.bin .geq (.tmp 44) (.tmp 45))] [0,1,3,4,10,11,12,13,14,15,16,46])
    (.cond (.tmp 46)
     (.skip)
     (.exit 0)))
    (.block 1
     (.seq (.ops [O1 47 (.mov (.tmp 13)),
       O1 48 (.bin .sub (.tmp 47) (.const (.int .i64 1))),
       O1 13 (.mov (.tmp 48))] [0,1,3,4,10,11,12,13,14,15,16])
     (.seq (.ops [O1 49 (.mov (.tmp 13)),
       O1 50 (.mov (.tmp 1)),
       O1 51 (.mov (.tmp 16)),
       O1 52 (.bin .and (.tmp 50) (.tmp 51)),
       O1 53 (.idxStr (.const (.string ⟨#[48,49,50,51,52,53,54,55,56,57,97,98,99,100,101,102,103,104,105,106,107,108,109,110,111,112,113,114,115,116,117,118,119,120,121,122]⟩)) (.tmp 52)),
       O1 54 (.idxA 65 1 (.tmp 12) (.tmp 49)),
       ⟨none,none,.store 1 (.tmp 54) (.tmp 53)⟩] [0,1,3,4,10,11,12,13,14,15,16])
     (.ops [O1 55 (.mov (.tmp 1)),
       O1 56 (.mov (.tmp 14)),
       O1 57 (.bin .shr (.tmp 55) (.tmp 56)),
       O1 1 (.mov (.tmp 57))] [0,1,3,4,10,11,12,13,14,15,16]))))
def c85:AFun:=⟨
 .seq (.ops [O1 10 (.mov (.const (.slice none 0 0))),
   O1 11 (.mov (.const (.string ⟨#[]⟩)))] [0,1,2,3,4,10,11])
 (.seq (.seq (.ops [O1 19 (.mov (.tmp 2)),
   O1 20 (.bin .lss (.tmp 19) (.const (.int .i64 2))),
   O1 21 (.mov (.tmp 20)),
   ⟨(some 22),(some (21,false)),.mov (.tmp 2)⟩,
   ⟨(some 23),(some (21,false)),.bin .eql (.tmp 22) (.const (.int .i64 10))⟩,
   O1 24 (.pick (.tmp 21) (.const (.bool true)) (.tmp 23)),
   O1 25 (.mov (.tmp 24)),
   ⟨(some 26),(some (25,false)),.mov (.tmp 2)⟩,
   ⟨(some 27),(some (25,false)),.bin .gtr (.tmp 26) (.const (.int .i64 36))⟩,
   O1 28 (.pick (.tmp 25) (.const (.bool true)) (.tmp 27))] [0,1,2,3,4,10,11,28])
 (.cond (.tmp 28)
  (.ops [O1 29 (.mkIf 9 (.const (.string ⟨#[115,116,114,99,111,110,118,58,32,105,108,108,101,103,97,108,32,65,112,112,101,110,100,73,110,116,47,70,111,114,109,97,116,73,110,116,32,98,97,115,101]⟩))),
    ⟨none,none,.bad⟩] [0,1,2,3,4,10,11])
  (.skip)))
 (.seq (.ops [O1 12 (.alloc 138 [(65,(.int .u8 0))])] [0,1,2,3,4,10,11,12])
 (.seq (.ops [O1 13 (.mov (.const (.int .i64 65)))] [0,1,2,3,4,10,11,12,13])
 (.seq (.seq (.ops [O1 30 (.mov (.tmp 3))] [0,1,2,3,4,10,11,12,13,30])
 (.cond (.tmp 30)
  (.ops [O1 31 (.mov (.tmp 1)),
    O1 32 (.un .neg (.tmp 31)),
    O1 1 (.mov (.tmp 32))] [0,1,2,3,4,10,11,12,13])
  (.skip)))
 (.seq (.seq (.ops [O1 33 (.mov (.tmp 2)),
   O1 34 (.callF 97 [(.tmp 33)])] [0,1,2,3,4,10,11,12,13,34])
 (.cond (.tmp 34)
  (.seq (.ops [O1 35 (.mov (.tmp 2)),
    O1 36 (.convI .u64 (.tmp 35)),
    O1 37 (.callF 98 [(.tmp 36)]),
    O1 38 (.convI .u64 (.tmp 37)),
    O1 14 (.mov (.tmp 38))] [0,1,2,3,4,10,11,12,13,14])
  (.seq (.ops [O1 39 (.mov (.tmp 2)),
    O1 40 (.convI .u64 (.tmp 39)),
    O1 15 (.mov (.tmp 40))] [0,1,2,3,4,10,11,12,13,14,15])
  (.seq (.ops [O1 41 (.mov (.tmp 2)),
    O1 42 (.convI .u64 (.tmp 41)),
    O1 43 (.bin .sub (.tmp 42) (.const (.int .u64 1))),
    O1 16 (.mov (.tmp 43))] [0,1,3,4,10,11,12,13,14,15,16])
  (.seq (.block 0
   (.loop [0,1,3,4,10,11,12,13,14,15,16]
    c85l1))
  (.seq (.ops [O1 58 (.mov (.tmp 13)),
    O1 59 (.bin .sub (.tmp 58) (.const (.int .i64 1))),
    O1 13 (.mov (.tmp 59))] [0,1,3,4,10,11,12,13])
  (.ops [O1 60 (.mov (.tmp 13)),
    O1 61 (.mov (.tmp 1)),
    O1 62 (.idxStr (.const (.string ⟨#[48,49,50,51,52,53,54,55,56,57,97,98,99,100,101,102,103,104,105,106,107,108,109,110,111,112,113,114,115,116,117,118,119,120,121,122]⟩)) (.tmp 61)),
    O1 63 (.idxA 65 1 (.tmp 12) (.tmp 60)),
    ⟨none,none,.store 1 (.tmp 63) (.tmp 62)⟩] [0,3,4,10,11,12,13]))))))
  (.seq (.ops [O1 64 (.mov (.tmp 2)),
    O1 65 (.convI .u64 (.tmp 64)),
    O1 17 (.mov (.tmp 65))] [0,1,3,4,10,11,12,13,17])
  (.seq (.block 2
   (.loop [0,1,3,4,10,11,12,13,17]
    c85l0))
  (.seq (.ops [O1 83 (.mov (.tmp 13)),
    O1 84 (.bin .sub (.tmp 83) (.const (.int .i64 1))),
    O1 13 (.mov (.tmp 84))] [0,1,3,4,10,11,12,13])
  (.ops [O1 85 (.mov (.tmp 13)),
    O1 86 (.mov (.tmp 1)),
    O1 87 (.idxStr (.const (.string ⟨#[48,49,50,51,52,53,54,55,56,57,97,98,99,100,101,102,103,104,105,106,107,108,109,110,111,112,113,114,115,116,117,118,119,120,121,122]⟩)) (.tmp 86)),
    O1 88 (.idxA 65 1 (.tmp 12) (.tmp 85)),
    ⟨none,none,.store 1 (.tmp 88) (.tmp 87)⟩] [0,3,4,10,11,12,13]))))))
 (.seq (.seq (.ops [O1 89 (.mov (.tmp 3))] [0,4,10,11,12,13,89])
 (.cond (.tmp 89)
  (.seq (.ops [O1 90 (.mov (.tmp 13)),
    O1 91 (.bin .sub (.tmp 90) (.const (.int .i64 1))),
    O1 13 (.mov (.tmp 91))] [0,4,10,11,12,13])
  (.ops [O1 92 (.mov (.tmp 13)),
    O1 93 (.idxA 65 1 (.tmp 12) (.tmp 92)),
    ⟨none,none,.store 1 (.tmp 93) (.const (.int .u8 45))⟩] [0,4,10,11,12,13]))
  (.skip)))
 (.seq (.seq (.ops [O1 94 (.mov (.tmp 4))] [0,10,11,12,13,94])
 (.cond (.tmp 94)
  (.seq (.ops [O1 95 (.mov (.tmp 0)),
    O1 96 (.mov (.tmp 13)),
    O1 97 (.slcA 65 1 (.tmp 12) (some (.tmp 96)) none),
    O1 98 (.app 5 1 1 (.tmp 95) (.tmp 97)),
    O1 10 (.mov (.tmp 98))] [10,11])
  (.ret))
  (.skip)))
 (.seq (.ops [O1 99 (.mov (.tmp 13)),
   O1 100 (.slcA 65 1 (.tmp 12) (some (.tmp 99)) none),
   O1 101 (.b2s (.tmp 100)),
   O1 11 (.mov (.tmp 101))] [10,11])
 (.ret))))))))),
 102,[(10,none),(11,none)],true⟩
theorem ok85:FunOK Tryd.prog 85 c85:= .code ⟨Tryd.f85,_,c85.code,Tryd.func85,rfl,by kernel_rfl,rfl,by kernel_rfl,by kernel_rfl⟩
/- unicode/utf8.RuneCountInString -/
def c87l0:AC:=
 .seq (.ops [O1 5 (.nextS (.tmp 4)),
     O1 6 (.ext (.tmp 5) 0)] [2,4,6])
   (.seq (.cond (.tmp 6)
    (.skip)
    (.exit 0))
   (.block 1
    (.ops [O1 7 (.mov (.tmp 2)),
      O1 8 (.bin .add (.tmp 7) (.const (.int .i64 1))),
      O1 2 (.mov (.tmp 8))] [2,4])))
def c87:AFun:=⟨
 .seq (.ops [O1 2 (.mov (.const (.int .i64 0)))] [0,2])
 (.seq (.seq (.ops [O1 3 (.mov (.tmp 0)),
   O1 4 (.rangeS (.tmp 3))] [2,4])
 (.block 0
  (.loop [2,4]
   c87l0)))
 (.seq (.ops [O1 9 (.mov (.tmp 2)),
   O1 2 (.mov (.tmp 9))] [2])
 (.ret))),
 10,[(2,none)],true⟩
theorem ok87:FunOK Tryd.prog 87 c87:= .code ⟨Tryd.f87,_,c87.code,Tryd.func87,rfl,by kernel_rfl,rfl,by kernel_rfl,by kernel_rfl⟩
/- internal/stringslite.Index -/
def c89l0:AC:=
 .seq (.seq (.ops [O1 57 (.mov (.tmp 8)),
     O1 58 (.mov (.tmp 9)),
     O1 59 (.bin .lss (.tmp 57) (.tmp 58))] [0,1,5,6,7,8,9,10,59])
   (.cond (.tmp 59)
    (.skip)
    (.exit 1)))
   (.block 2
    (.seq (.seq (.ops [O1 60 (.mov (.tmp 0)),
      O1 61 (.mov (.tmp 8)),
      O1 62 (.idxStr (.tmp 60) (.tmp 61)),
      O1 63 (.mov (.tmp 6)),
      O1 64 (.bin .neq (.tmp 62) (.tmp 63))] [0,1,5,6,7,8,9,10,64])
    (.cond (.tmp 64)
     (.seq (.ops [O1 65 (.mov (.tmp 0)),
       O1 66 (.mov (.tmp 8)),
       O1 67 (.bin .add (.tmp 66) (.const (.int .i64 1))),
       O1 68 (.mov (.tmp 9)),
       O1 69 (.slcS (.tmp 65) (some (.tmp 67)) (some (.tmp 68))),
       O1 70 (.mov (.tmp 6)),
       O1 71 (.callF 99 [(.tmp 69),(.tmp 70)]),
       O1 11 (.mov (.tmp 71))] [0,1,5,6,7,8,9,10,11])
     (.seq (.seq (.ops [O1 72 (.mov (.tmp 11)),
       O1 73 (.bin .lss (.tmp 72) (.const (.int .i64 0)))] [0,1,5,6,7,8,9,10,11,73])
     (.cond (.tmp 73)
      (.seq (.ops [O1 4 (.mov (.const (.int .i64 (-1))))] [4])
      (.ret))
      (.skip)))
     (.ops [O1 74 (.mov (.tmp 8)),
       O1 75 (.mov (.tmp 11)),
       O1 76 (.bin .add (.tmp 75) (.const (.int .i64 1))),
       O1 77 (.bin .add (.tmp 74) (.tmp 76)),
       O1 8 (.mov (.tmp 77))] [0,1,5,6,7,8,9,10])))
     (.skip)))
    (.seq (.seq (.ops [O1 78 (.mov (.tmp 0)),
      O1 79 (.mov (.tmp 8)),
      O1 80 (.bin .add (.tmp 79) (.const (.int .i64 1))),
      O1 81 (.idxStr (.tmp 78) (.tmp 80)),
      O1 82 (.mov (.tmp 7)),
      O1 83 (.bin .eql (.tmp 81) (.tmp 82)),
      O1 84 (.mov (.tmp 83)),
      ⟨(some 85),(some (84,true)),.mov (.tmp 0)⟩,
      ⟨(some 86),(some (84,true)),.mov (.tmp 8)⟩,
      ⟨(some 87),(some (84,true)),.mov (.tmp 8)⟩,
      ⟨(some 88),(some (84,true)),.mov (.tmp 5)⟩,
      ⟨(some 89),(some (84,true)),.bin .add (.tmp 87) (.tmp 88)⟩,
      ⟨(some 90),(some (84,true)),.slcS (.tmp 85) (some (.tmp 86)) (some (.tmp 89))⟩,
      ⟨(some 91),(some (84,true)),.mov (.tmp 1)⟩,
      ⟨(some 92),(some (84,true)),.bin .eql (.tmp 90) (.tmp 91)⟩,
      O1 93 (.pick (.tmp 84) (.tmp 92) (.const (.bool false)))] [0,1,5,6,7,8,9,10,93])
    (.cond (.tmp 93)
     (.seq (.ops [O1 94 (.mov (.tmp 8)),
       O1 4 (.mov (.tmp 94))] [4])
     (.ret))
     (.skip)))
    (.seq (.ops [O1 95 (.mov (.tmp 8)),
      O1 96 (.bin .add (.tmp 95) (.const (.int .i64 1))),
      O1 8 (.mov (.tmp 96))] [0,1,5,6,7,8,9,10])
    (.seq (.ops [O1 97 (.mov (.tmp 10)),
      O1 98 (.bin .add (.tmp 97) (.const (.int .i64 1))),
      O1 10 (.mov (.tmp 98))] [0,1,5,6,7,8,9,10])
    (.seq (.ops [O1 99 (.mov (.tmp 5)),
      O1 100 (.load none (.global 3)),
      O1 101 (.bin .leq (.tmp 99) (.tmp 100)),
      O1 102 (.mov (.tmp 101)),
      ⟨(some 103),(some (102,true)),.mov (.tmp 10)⟩,
      ⟨(some 104),(some (102,true)),.mov (.tmp 8)⟩,
      ⟨(some 105),(some (102,true)),.callF 101 [(.tmp 104)]⟩,
      ⟨(some 106),(some (102,true)),.bin .gtr (.tmp 103) (.tmp 105)⟩,
      O1 107 (.pick (.tmp 102) (.tmp 106) (.const (.bool false)))] [0,1,5,6,7,8,9,10,107])
    (.cond (.tmp 107)
     (.seq (.ops [O1 108 (.mov (.tmp 0)),
       O1 109 (.mov (.tmp 8)),
       O1 110 (.slcS (.tmp 108) (some (.tmp 109)) none),
       O1 111 (.mov (.tmp 1)),
       O1 112 (.callF 100 [(.tmp 110),(.tmp 111)]),
       O1 12 (.mov (.tmp 112))] [8,12])
     (.seq (.seq (.ops [O1 113 (.mov (.tmp 12)),
       O1 114 (.bin .geq (.tmp 113) (.const (.int .i64 0)))] [8,12,114])
     (.cond (.tmp 114)
      (.seq (.ops [O1 115 (.mov (.tmp 12)),
        O1 116 (.mov (.tmp 8)),
        O1 117 (.bin .add (.tmp 115) (.tmp 116)),
        O1 4 (.mov (.tmp 117))] [4])
      (.ret))
      (.skip)))
     (.seq (.ops [O1 4 (.mov (.const (.int .i64 (-1))))] [4])
     (.ret))))
     (.seq (.ops [O1 118 (.mov (.tmp 5)),
       O1 119 (.load none (.global 3)),
       O1 120 (.bin .gtr (.tmp 118) (.tmp 119)),
       O1 121 (.mov (.tmp 120)),
       ⟨(some 122),(some (121,true)),.mov (.tmp 10)⟩,
       ⟨(some 123),(some (121,true)),.mov (.tmp 8)⟩,
       ⟨(some 124),(some (121,true)),.bin .shr (.tmp 123) (.const (.int .u64 4))⟩,
       ⟨(some 125),(some (121,true)),.bin .add (.const (.int .i64 4)) (.tmp 124)⟩,
       ⟨(some 126),(some (121,true)),.bin .geq (.tmp 122) (.tmp 125)⟩,
       O1 127 (.pick (.tmp 121) (.tmp 126) (.const (.bool false))),
       O1 128 (.mov (.tmp 127)),
       ⟨(some 129),(some (128,true)),.mov (.tmp 8)⟩,
       ⟨(some 130),(some (128,true)),.mov (.tmp 9)⟩,
       ⟨(some 131),(some (128,true)),.bin .lss (.tmp 129) (.tmp 130)⟩,
       O1 132 (.pick (.tmp 128) (.tmp 131) (.const (.bool false)))] [0,1,5,6,7,8,9,10,132])
     (.cond (.tmp 132)
      (.seq (.ops [O1 133 (.mov (.tmp 0)),
        O1 134 (.mov (.tmp 8)),
        O1 135 (.slcS (.tmp 133) (some (.tmp 134)) none),
        O1 136 (.mov (.tmp 1)),
        O1 137 (.callF 102 [(.tmp 135),(.tmp 136)]),
        O1 13 (.mov (.tmp 137))] [8,13])
      (.seq (.seq (.ops [O1 138 (.mov (.tmp 13)),
        O1 139 (.bin .lss (.tmp 138) (.const (.int .i64 0)))] [8,13,139])
      (.cond (.tmp 139)
       (.seq (.ops [O1 4 (.mov (.const (.int .i64 (-1))))] [4])
       (.ret))
       (.skip)))
      (.seq (.ops [O1 140 (.mov (.tmp 8)),
        O1 141 (.mov (.tmp 13)),
        O1 142 (.bin .add (.tmp 140) (.tmp 141)),
        O1 4 (.mov (.tmp 142))] [4])
      (.ret))))
      (.skip))))))))))
def c89:AFun:=⟨
 .seq (.ops [O1 4 (.mov (.const (.int .i64 0)))] [0,1])
 (.seq (.ops [O1 14 (.mov (.tmp 1)),
   O1 15 (.len true (.tmp 14)),
   O1 5 (.mov (.tmp 15))] [0,1,5])
 (.seq (.block 0
  (.seq (.ops [O1 17 (.mov (.tmp 5)),
    O1 18 (.bin .eql (.tmp 17) (.const (.int .i64 0))),
    O1 19 (.mov (.tmp 18)),
    ⟨(some 20),(some (19,false)),.mov (.tmp 1)⟩,
    ⟨(some 21),(some (19,false)),.mov (.tmp 0)⟩,
    ⟨(some 22),(some (19,false)),.bin .eql (.tmp 20) (.tmp 21)⟩,
    O1 23 (.pick (.tmp 19) (.const (.bool true)) (.tmp 22)),
    O1 16 (.mov (.tmp 23))] [0,1,5,16])
  (.cond (.tmp 16)
   (.seq (.ops [O1 4 (.mov (.const (.int .i64 0)))] [4])
   (.ret))
   (.seq (.ops [O1 25 (.mov (.tmp 5)),
     O1 26 (.bin .eql (.tmp 25) (.const (.int .i64 1))),
     O1 24 (.mov (.tmp 26))] [0,1,5,24])
   (.cond (.tmp 24)
    (.seq (.ops [O1 27 (.mov (.tmp 0)),
      O1 28 (.mov (.tmp 1)),
      O1 29 (.idxStr (.tmp 28) (.const (.int .i64 0))),
      O1 30 (.callF 99 [(.tmp 27),(.tmp 29)]),
      O1 4 (.mov (.tmp 30))] [4])
    (.ret))
    (.seq (.ops [O1 32 (.mov (.tmp 5)),
      O1 33 (.mov (.tmp 0)),
      O1 34 (.len true (.tmp 33)),
      O1 35 (.bin .geq (.tmp 32) (.tmp 34)),
      O1 31 (.mov (.tmp 35))] [0,1,5,31])
    (.cond (.tmp 31)
     (.seq (.ops [O1 4 (.mov (.const (.int .i64 (-1))))] [4])
     (.ret))
     (.seq (.ops [O1 37 (.mov (.tmp 5)),
       O1 38 (.load none (.global 3)),
       O1 39 (.bin .leq (.tmp 37) (.tmp 38)),
       O1 40 (.mov (.tmp 39)),
       ⟨(some 41),(some (40,true)),.mov (.tmp 0)⟩,
       ⟨(some 42),(some (40,true)),.len true (.tmp 41)⟩,
       ⟨(some 43),(some (40,true)),.bin .leq (.tmp 42) (.const (.int .i64 64))⟩,
       O1 44 (.pick (.tmp 40) (.tmp 43) (.const (.bool false))),
       O1 36 (.mov (.tmp 44))] [0,1,5,36])
     (.cond (.tmp 36)
      (.seq (.ops [O1 45 (.mov (.tmp 0)),
        O1 46 (.mov (.tmp 1)),
        O1 47 (.callF 100 [(.tmp 45),(.tmp 46)]),
        O1 4 (.mov (.tmp 47))] [4])
      (.ret))
      (.skip))))))))))
 (.seq (.ops [O1 48 (.mov (.tmp 1)),
   O1 49 (.idxStr (.tmp 48) (.const (.int .i64 0))),
   O1 6 (.mov (.tmp 49))] [0,1,5,6])
 (.seq (.ops [O1 50 (.mov (.tmp 1)),
   O1 51 (.idxStr (.tmp 50) (.const (.int .i64 1))),
   O1 7 (.mov (.tmp 51))] [0,1,5,6,7])
 (.seq (.ops [O1 8 (.mov (.const (.int .i64 0)))] [0,1,5,6,7,8])
 (.seq (.ops [O1 52 (.mov (.tmp 0)),
   O1 53 (.len true (.tmp 52)),
   O1 54 (.mov (.tmp 5)),
   O1 55 (.bin .sub (.tmp 53) (.tmp 54)),
   O1 56 (.bin .add (.tmp 55) (.const (.int .i64 1))),
   O1 9 (.mov (.tmp 56))] [0,1,5,6,7,8,9])
 (.seq (.ops [O1 10 (.mov (.const (.int .i64 0)))] [0,1,5,6,7,8,9,10])
 (.seq (.block 1
  (.loop [0,1,5,6,7,8,9,10]
   c89l0))
 (.seq (.ops [O1 4 (.mov (.const (.int .i64 (-1))))] [4])
 (.ret)))))))))),
 143,[(4,none)],true⟩
theorem ok89:FunOK Tryd.prog 89 c89:= .code ⟨Tryd.f89,_,c89.code,Tryd.func89,rfl,by kernel_rfl,rfl,by kernel_rfl,by kernel_rfl⟩
/- unicode/utf8.decodeRuneInStringSlow -/
def c90:AFun:=⟨
 .seq (.ops [O1 2 (.mov (.const (.int .i32 0))),
   O1 3 (.mov (.const (.int .i64 0)))] [0])
 (.seq (.ops [O1 13 (.mov (.tmp 0)),
   O1 14 (.len true (.tmp 13)),
   O1 4 (.mov (.tmp 14))] [0,4])
 (.seq (.seq (.ops [O1 15 (.mov (.tmp 4)),
   O1 16 (.bin .lss (.tmp 15) (.const (.int .i64 1)))] [0,4,16])
 (.cond (.tmp 16)
  (.seq (.ops [O1 2 (.mov (.const (.int .i32 65533))),
    O1 3 (.mov (.const (.int .i64 0)))] [2,3])
  (.ret))
  (.skip)))
 (.seq (.ops [O1 17 (.mov (.tmp 0)),
   O1 18 (.idxStr (.tmp 17) (.const (.int .i64 0))),
   O1 5 (.mov (.tmp 18))] [0,4,5])
 (.seq (.ops [O1 19 (.mov (.tmp 5)),
   O1 20 (.idxA 256 1 (.global 4) (.tmp 19)),
   O1 21 (.load none (.tmp 20)),
   O1 6 (.mov (.tmp 21))] [0,4,5,6])
 (.seq (.seq (.ops [O1 22 (.mov (.tmp 6)),
   O1 23 (.bin .geq (.tmp 22) (.const (.int .u8 240)))] [0,4,5,6,23])
 (.cond (.tmp 23)
  (.seq (.ops [O1 24 (.mov (.tmp 6)),
    O1 25 (.convI .i32 (.tmp 24)),
    O1 26 (.bin .shl (.tmp 25) (.const (.int .u64 31))),
    O1 27 (.bin .shr (.tmp 26) (.const (.int .u64 31))),
    O1 7 (.mov (.tmp 27))] [0,7])
  (.seq (.ops [O1 28 (.mov (.tmp 0)),
    O1 29 (.idxStr (.tmp 28) (.const (.int .i64 0))),
    O1 30 (.convI .i32 (.tmp 29)),
    O1 31 (.mov (.tmp 7)),
    O1 32 (.bin .andNot (.tmp 30) (.tmp 31)),
    O1 33 (.mov (.tmp 7)),
    O1 34 (.bin .and (.const (.int .i32 65533)) (.tmp 33)),
    O1 35 (.bin .or (.tmp 32) (.tmp 34)),
    O1 2 (.mov (.tmp 35)),
    O1 3 (.mov (.const (.int .i64 1)))] [2,3])
  (.ret)))
  (.skip)))
 (.seq (.ops [O1 36 (.mov (.tmp 6)),
   O1 37 (.bin .and (.tmp 36) (.const (.int .u8 7))),
   O1 38 (.convI .i64 (.tmp 37)),
   O1 8 (.mov (.tmp 38))] [0,4,5,6,8])
 (.seq (.ops [O1 39 (.mov (.tmp 6)),
   O1 40 (.bin .shr (.tmp 39) (.const (.int .u64 4))),
   O1 41 (.idxA 16 2 (.global 5) (.tmp 40)),
   O1 42 (.load (some 2) (.tmp 41)),
   O1 9 (.alloc 142 [(2,(.int .u8 0))]),
   ⟨none,none,.store 2 (.tmp 9) (.tmp 42)⟩] [0,4,5,8,9])
 (.seq (.seq (.ops [O1 43 (.mov (.tmp 4)),
   O1 44 (.mov (.tmp 8)),
   O1 45 (.bin .lss (.tmp 43) (.tmp 44))] [0,5,8,9,45])
 (.cond (.tmp 45)
  (.seq (.ops [O1 2 (.mov (.const (.int .i32 65533))),
    O1 3 (.mov (.const (.int .i64 1)))] [2,3])
  (.ret))
  (.skip)))
 (.seq (.ops [O1 46 (.mov (.tmp 0)),
   O1 47 (.idxStr (.tmp 46) (.const (.int .i64 1))),
   O1 10 (.mov (.tmp 47))] [0,5,8,9,10])
 (.seq (.seq (.ops [O1 48 (.mov (.tmp 10)),
   O1 49 (.fldA 0 (.tmp 9)),
   O1 50 (.load none (.tmp 49)),
   O1 51 (.bin .lss (.tmp 48) (.tmp 50)),
   O1 52 (.mov (.tmp 51)),
   ⟨(some 53),(some (52,false)),.fldA 1 (.tmp 9)⟩,
   ⟨(some 54),(some (52,false)),.load none (.tmp 53)⟩,
   ⟨(some 55),(some (52,false)),.mov (.tmp 10)⟩,
   ⟨(some 56),(some (52,false)),.bin .lss (.tmp 54) (.tmp 55)⟩,
   O1 57 (.pick (.tmp 52) (.const (.bool true)) (.tmp 56))] [0,5,8,10,57])
 (.cond (.tmp 57)
  (.seq (.ops [O1 2 (.mov (.const (.int .i32 65533))),
    O1 3 (.mov (.const (.int .i64 1)))] [2,3])
  (.ret))
  (.skip)))
 (.seq (.seq (.ops [O1 58 (.mov (.tmp 8)),
   O1 59 (.bin .leq (.tmp 58) (.const (.int .i64 2)))] [0,5,8,10,59])
 (.cond (.tmp 59)
  (.seq (.ops [O1 60 (.mov (.tmp 5)),
    O1 61 (.bin .and (.tmp 60) (.const (.int .u8 31))),
    O1 62 (.convI .i32 (.tmp 61)),
    O1 63 (.bin .shl (.tmp 62) (.const (.int .u64 6))),
    O1 64 (.mov (.tmp 10)),
    O1 65 (.bin .and (.tmp 64) (.const (.int .u8 63))),
    O1 66 (.convI .i32 (.tmp 65)),
    O1 67 (.bin .or (.tmp 63) (.tmp 66)),
    O1 2 (.mov (.tmp 67)),
    O1 3 (.mov (.const (.int .i64 2)))] [2,3])
  (.ret))
  (.skip)))
 (.seq (.ops [O1 68 (.mov (.tmp 0)),
   O1 69 (.idxStr (.tmp 68) (.const (.int .i64 2))),
   O1 11 (.mov (.tmp 69))] [0,5,8,10,11])
 (.seq (.seq (.ops [O1 70 (.mov (.tmp 11)),
   O1 71 (.bin .lss (.tmp 70) (.const (.int .u8 128))),
   O1 72 (.mov (.tmp 71)),
   ⟨(some 73),(some (72,false)),.mov (.tmp 11)⟩,
   ⟨(some 74),(some (72,false)),.bin .lss (.const (.int .u8 191)) (.tmp 73)⟩,
   O1 75 (.pick (.tmp 72) (.const (.bool true)) (.tmp 74))] [0,5,8,10,11,75])
 (.cond (.tmp 75)
  (.seq (.ops [O1 2 (.mov (.const (.int .i32 65533))),
    O1 3 (.mov (.const (.int .i64 1)))] [2,3])
  (.ret))
  (.skip)))
 (.seq (.seq (.ops [O1 76 (.mov (.tmp 8)),
   O1 77 (.bin .leq (.tmp 76) (.const (.int .i64 3)))] [0,5,10,11,77])
 (.cond (.tmp 77)
  (.seq (.ops [O1 78 (.mov (.tmp 5)),
    O1 79 (.bin .and (.tmp 78) (.const (.int .u8 15))),
    O1 80 (.convI .i32 (.tmp 79)),
    O1 81 (.bin .shl (.tmp 80) (.const (.int .u64 12))),
    O1 82 (.mov (.tmp 10)),
    O1 83 (.bin .and (.tmp 82) (.const (.int .u8 63))),
    O1 84 (.convI .i32 (.tmp 83)),
    O1 85 (.bin .shl (.tmp 84) (.const (.int .u64 6))),
    O1 86 (.bin .or (.tmp 81) (.tmp 85)),
    O1 87 (.mov (.tmp 11)),
    O1 88 (.bin .and (.tmp 87) (.const (.int .u8 63))),
    O1 89 (.convI .i32 (.tmp 88)),
    O1 90 (.bin .or (.tmp 86) (.tmp 89)),
    O1 2 (.mov (.tmp 90)),
    O1 3 (.mov (.const (.int .i64 3)))] [2,3])
  (.ret))
  (.skip)))
 (.seq (.ops [O1 91 (.mov (.tmp 0)),
   O1 92 (.idxStr (.tmp 91) (.const (.int .i64 3))),
   O1 12 (.mov (.tmp 92))] [5,10,11,12])
 (.seq (.seq (.ops [O1 93 (.mov (.tmp 12)),
   O1 94 (.bin .lss (.tmp 93) (.const (.int .u8 128))),
   O1 95 (.mov (.tmp 94)),
   ⟨(some 96),(some (95,false)),.mov (.tmp 12)⟩,
   ⟨(some 97),(some (95,false)),.bin .lss (.const (.int .u8 191)) (.tmp 96)⟩,
   O1 98 (.pick (.tmp 95) (.const (.bool true)) (.tmp 97))] [5,10,11,12,98])
 (.cond (.tmp 98)
  (.seq (.ops [O1 2 (.mov (.const (.int .i32 65533))),
    O1 3 (.mov (.const (.int .i64 1)))] [2,3])
  (.ret))
  (.skip)))
 (.seq (.ops [O1 99 (.mov (.tmp 5)),
   O1 100 (.bin .and (.tmp 99) (.const (.int .u8 7))),
   O1 101 (.convI .i32 (.tmp 100)),
   O1 102 (.bin .shl (.tmp 101) (.const (.int .u64 18))),
   O1 103 (.mov (.tmp 10)),
   O1 104 (.bin .and (.tmp 103) (.const (.int .u8 63))),
   O1 105 (.convI .i32 (.tmp 104)),
   O1 106 (.bin .shl (.tmp 105) (.const (.int .u64 12))),
   O1 107 (.bin .or (.tmp 102) (.tmp 106)),
   O1 108 (.mov (.tmp 11)),
   O1 109 (.bin .and (.tmp 108) (.const (.int .u8 63))),
   O1 110 (.convI .i32 (.tmp 109)),
   O1 111 (.bin .shl (.tmp 110) (.const (.int .u64 6))),
   O1 112 (.bin .or (.tmp 107) (.tmp 111)),
   O1 113 (.mov (.tmp 12)),
   O1 114 (.bin .and (.tmp 113) (.const (.int .u8 63))),
   O1 115 (.convI .i32 (.tmp 114)),
   O1 116 (.bin .or (.tmp 112) (.tmp 115)),
   O1 2 (.mov (.tmp 116)),
   O1 3 (.mov (.const (.int .i64 4)))] [2,3])
 (.ret)))))))))))))))))),
 117,[(2,none),(3,none)],true⟩
theorem ok90:FunOK Tryd.prog 90 c90:= .code ⟨Tryd.f90,_,c90.code,Tryd.func90,rfl,by kernel_rfl,rfl,by kernel_rfl,by kernel_rfl⟩
/- internal/strconv.log10Pow2 -/
def c94:AFun:=⟨
 .seq (.ops [O1 2 (.mov (.const (.int .i64 0)))] [0])
 (.seq (.ops [O1 3 (.mov (.tmp 0)),
   O1 4 (.bin .mul (.tmp 3) (.const (.int .i64 78913))),
   O1 5 (.bin .shr (.tmp 4) (.const (.int .u64 18))),
   O1 2 (.mov (.tmp 5))] [2])
 (.ret)),
 6,[(2,none)],true⟩
theorem ok94:FunOK Tryd.prog 94 c94:= .code ⟨Tryd.f94,_,c94.code,Tryd.func94,rfl,by kernel_rfl,rfl,by kernel_rfl,by kernel_rfl⟩
/- math/bits.Len64 -/
def c95:AFun:=⟨
 .seq (.ops [O1 2 (.mov (.const (.int .i64 0)))] [0,2])
 (.seq (.seq (.ops [O1 3 (.mov (.tmp 0)),
   O1 4 (.bin .geq (.tmp 3) (.const (.int .u64 4294967296)))] [0,2,4])
 (.cond (.tmp 4)
  (.seq (.ops [O1 5 (.mov (.tmp 0)),
    O1 6 (.bin .shr (.tmp 5) (.const (.int .u64 32))),
    O1 0 (.mov (.tmp 6))] [0])
  (.ops [O1 2 (.mov (.const (.int .i64 32)))] [0,2]))
  (.skip)))
 (.seq (.seq (.ops [O1 7 (.mov (.tmp 0)),
   O1 8 (.bin .geq (.tmp 7) (.const (.int .u64 65536)))] [0,2,8])
 (.cond (.tmp 8)
  (.seq (.ops [O1 9 (.mov (.tmp 0)),
    O1 10 (.bin .shr (.tmp 9) (.const (.int .u64 16))),
    O1 0 (.mov (.tmp 10))] [0,2])
  (.ops [O1 11 (.mov (.tmp 2)),
    O1 12 (.bin .add (.tmp 11) (.const (.int .i64 16))),
    O1 2 (.mov (.tmp 12))] [0,2]))
  (.skip)))
 (.seq (.seq (.ops [O1 13 (.mov (.tmp 0)),
   O1 14 (.bin .geq (.tmp 13) (.const (.int .u64 256)))] [0,2,14])
 (.cond (.tmp 14)
  (.seq (.ops [O1 15 (.mov (.tmp 0)),
    O1 16 (.bin .shr (.tmp 15) (.const (.int .u64 8))),
    O1 0 (.mov (.tmp 16))] [0,2])
  (.ops [O1 17 (.mov (.tmp 2)),
    O1 18 (.bin .add (.tmp 17) (.const (.int .i64 8))),
    O1 2 (.mov (.tmp 18))] [0,2]))
  (.skip)))
 (.seq (.ops [O1 19 (.mov (.tmp 2)),
   O1 20 (.mov (.tmp 0)),
   O1 21 (.convI .u8 (.tmp 20)),
   O1 22 (.idxStr (.const (.string ⟨#[0,1,2,2,3,3,3,3,4,4,4,4,4,4,4,4,5,5,5,5,5,5,5,5,5,5,5,5,5,5,5,5,6,6,6,6,6,6,6,6,6,6,6,6,6,6,6,6,6,6,6,6,6,6,6,6,6,6,6,6,6,6,6,6,7,7,7,7,7,7,7,7,7,7,7,7,7,7,7,7,7,7,7,7,7,7,7,7,7,7,7,7,7,7,7,7,7,7,7,7,7,7,7,7,7,7,7,7,7,7,7,7,7,7,7,7,7,7,7,7,7,7,7,7,7,7,7,7,8,8,8,8,8,8,8,8,8,8,8,8,8,8,8,8,8,8,8,8,8,8,8,8,8,8,8,8,8,8,8,8,8,8,8,8,8,8,8,8,8,8,8,8,8,8,8,8,8,8,8,8,8,8,8,8,8,8,8,8,8,8,8,8,8,8,8,8,8,8,8,8,8,8,8,8,8,8,8,8,8,8,8,8,8,8,8,8,8,8,8,8,8,8,8,8,8,8,8,8,8,8,8,8,8,8,8,8,8,8,8,8,8,8,8,8,8,8,8,8,8,8,8,8,8,8,8,8]⟩)) (.tmp 21)),
   O1 23 (.convI .i64 (.tmp 22)),
   O1 24 (.bin .add (.tmp 19) (.tmp 23)),
   O1 2 (.mov (.tmp 24))] [2])
 (.ret))))),
 25,[(2,none)],true⟩
theorem ok95:FunOK Tryd.prog 95 c95:= .code ⟨Tryd.f95,_,c95.code,Tryd.func95,rfl,by kernel_rfl,rfl,by kernel_rfl,by kernel_rfl⟩
/- internal/strconv.bool2[int] -/
def c96:AFun:=⟨
 .seq (.ops [O1 2 (.mov (.const (.int .i64 0)))] [0])
 (.seq (.seq (.ops [O1 3 (.mov (.tmp 0))] [3])
 (.cond (.tmp 3)
  (.seq (.ops [O1 2 (.mov (.const (.int .i64 1)))] [2])
  (.ret))
  (.skip)))
 (.seq (.ops [O1 2 (.mov (.const (.int .i64 0)))] [2])
 (.ret))),
 4,[(2,none)],true⟩
theorem ok96:FunOK Tryd.prog 96 c96:= .code ⟨Tryd.f96,_,c96.code,Tryd.func96,rfl,by kernel_rfl,rfl,by kernel_rfl,by kernel_rfl⟩
/- internal/strconv.isPowerOfTwo -/
def c97:AFun:=⟨
 .seq (.ops [O1 2 (.mov (.const (.bool false)))] [0])
 (.seq (.ops [O1 3 (.mov (.tmp 0)),
   O1 4 (.mov (.tmp 0)),
   O1 5 (.bin .sub (.tmp 4) (.const (.int .i64 1))),
   O1 6 (.bin .and (.tmp 3) (.tmp 5)),
   O1 7 (.bin .eql (.tmp 6) (.const (.int .i64 0))),
   O1 2 (.mov (.tmp 7))] [2])
 (.ret)),
 8,[(2,none)],true⟩
theorem ok97:FunOK Tryd.prog 97 c97:= .code ⟨Tryd.f97,_,c97.code,Tryd.func97,rfl,by kernel_rfl,rfl,by kernel_rfl,by kernel_rfl⟩
/- math/bits.TrailingZeros -/
def c98:AFun:=⟨
 .seq (.ops [O1 2 (.mov (.const (.int .i64 0)))] [0])
 (.seq (.cond (.const (.bool false))
  (.seq (.ops [O1 3 (.mov (.tmp 0)),
    O1 4 (.convI .u32 (.tmp 3)),
    O1 5 (.callF 105 [(.tmp 4)]),
    O1 2 (.mov (.tmp 5))] [2])
  (.ret))
  (.skip))
 (.seq (.ops [O1 6 (.mov (.tmp 0)),
   O1 7 (.callF 106 [(.tmp 6)]),
   O1 2 (.mov (.tmp 7))] [2])
 (.ret))),
 8,[(2,none)],true⟩
theorem ok98:FunOK Tryd.prog 98 c98:= .code ⟨Tryd.f98,_,c98.code,Tryd.func98,rfl,by kernel_rfl,rfl,by kernel_rfl,by kernel_rfl⟩
/- internal/stringslite.IndexByte -/
def c99:AFun:=⟨
 .seq (.ops [O1 4 (.mov (.const (.int .i64 0)))] [0,1])
 (.seq (.ops [O1 5 (.mov (.tmp 0)),
   O1 6 (.mov (.tmp 1)),
   O1 7 (.callF 107 [(.tmp 5),(.tmp 6)]),
   O1 4 (.mov (.tmp 7))] [4])
 (.ret)),
 8,[(4,none)],true⟩
theorem ok99:FunOK Tryd.prog 99 c99:= .code ⟨Tryd.f99,_,c99.code,Tryd.func99,rfl,by kernel_rfl,rfl,by kernel_rfl,by kernel_rfl⟩
/- internal/bytealg.Cutover -/
def c101:AFun:=⟨
 .seq (.ops [O1 2 (.mov (.const (.int .i64 0)))] [0])
 (.seq (.ops [O1 3 (.mov (.tmp 0)),
   O1 4 (.bin .add (.tmp 3) (.const (.int .i64 16))),
   O1 5 (.bin .quo (.tmp 4) (.const (.int .i64 8))),
   O1 2 (.mov (.tmp 5))] [2])
 (.ret)),
 6,[(2,none)],true⟩
theorem ok101:FunOK Tryd.prog 101 c101:= .code ⟨Tryd.f101,_,c101.code,Tryd.func101,rfl,by kernel_rfl,rfl,by kernel_rfl,by kernel_rfl⟩
/- internal/bytealg.IndexRabinKarp[string] -/
def c102l0:AC:=
 .seq (.seq (.ops [O1 41 (.mov (.tmp 10)),
     O1 42 (.mov (.tmp 0)),
     O1 43 (.len true (.tmp 42)),
     O1 44 (.bin .lss (.tmp 41) (.tmp 43))] [0,1,5,6,7,8,10,44])
   (.cond (.tmp 44)
    (.skip)
    (.exit 2)))
   (.block 3
    (.seq (.ops [O1 45 (.mov (.tmp 8)),
      O1 46 (.bin .mul (.tmp 45) (.const (.int .u32 16777619))),
      O1 8 (.mov (.tmp 46))] [0,1,5,6,7,8,10])
    (.seq (.ops [O1 47 (.mov (.tmp 8)),
      O1 48 (.mov (.tmp 0)),
      O1 49 (.mov (.tmp 10)),
      O1 50 (.idxStr (.tmp 48) (.tmp 49)),
      O1 51 (.convI .u32 (.tmp 50)),
      O1 52 (.bin .add (.tmp 47) (.tmp 51)),
      O1 8 (.mov (.tmp 52))] [0,1,5,6,7,8,10])
    (.seq (.ops [O1 53 (.mov (.tmp 8)),
      O1 54 (.mov (.tmp 6)),
      O1 55 (.mov (.tmp 0)),
      O1 56 (.mov (.tmp 10)),
      O1 57 (.mov (.tmp 7)),
      O1 58 (.bin .sub (.tmp 56) (.tmp 57)),
      O1 59 (.idxStr (.tmp 55) (.tmp 58)),
      O1 60 (.convI .u32 (.tmp 59)),
      O1 61 (.bin .mul (.tmp 54) (.tmp 60)),
      O1 62 (.bin .sub (.tmp 53) (.tmp 61)),
      O1 8 (.mov (.tmp 62))] [0,1,5,6,7,8,10])
    (.seq (.ops [O1 63 (.mov (.tmp 10)),
      O1 64 (.bin .add (.tmp 63) (.const (.int .i64 1))),
      O1 10 (.mov (.tmp 64))] [0,1,5,6,7,8,10])
    (.seq (.ops [O1 65 (.mov (.tmp 8)),
      O1 66 (.mov (.tmp 5)),
      O1 67 (.bin .eql (.tmp 65) (.tmp 66)),
      O1 68 (.mov (.tmp 67)),
      ⟨(some 69),(some (68,true)),.mov (.tmp 0)⟩,
      ⟨(some 70),(some (68,true)),.mov (.tmp 10)⟩,
      ⟨(some 71),(some (68,true)),.mov (.tmp 7)⟩,
      ⟨(some 72),(some (68,true)),.bin .sub (.tmp 70) (.tmp 71)⟩,
      ⟨(some 73),(some (68,true)),.mov (.tmp 10)⟩,
      ⟨(some 74),(some (68,true)),.slcS (.tmp 69) (some (.tmp 72)) (some (.tmp 73))⟩,
      ⟨(some 75),(some (68,true)),.mov (.tmp 1)⟩,
      ⟨(some 76),(some (68,true)),.bin .eql (.tmp 74) (.tmp 75)⟩,
      O1 77 (.pick (.tmp 68) (.tmp 76) (.const (.bool false)))] [0,1,5,6,7,8,10,77])
    (.cond (.tmp 77)
     (.seq (.ops [O1 78 (.mov (.tmp 10)),
       O1 79 (.mov (.tmp 7)),
       O1 80 (.bin .sub (.tmp 78) (.tmp 79)),
       O1 4 (.mov (.tmp 80))] [4])
     (.ret))
     (.skip))))))))
def c102l1:AC:=
 .seq (.seq (.ops [O1 18 (.mov (.tmp 9)),
     O1 19 (.mov (.tmp 7)),
     O1 20 (.bin .lss (.tmp 18) (.tmp 19))] [0,1,5,6,7,8,9,20])
   (.cond (.tmp 20)
    (.skip)
    (.exit 0)))
   (.seq (.block 1
    (.ops [O1 23 (.mov (.tmp 8)),
      O1 24 (.bin .mul (.tmp 23) (.const (.int .u32 16777619))),
      O1 25 (.mov (.tmp 0)),
      O1 26 (.mov (.tmp 9)),
      O1 27 (.idxStr (.tmp 25) (.tmp 26)),
      O1 28 (.convI .u32 (.tmp 27)),
      O1 29 (.bin .add (.tmp 24) (.tmp 28)),
      O1 8 (.mov (.tmp 29))] [0,1,5,6,7,8,9]))
   (.ops [O1 21 (.mov (.tmp 9)),
     O1 22 (.bin .add (.tmp 21) (.const (.int .i64 1))),
     O1 9 (.mov (.tmp 22))] [0,1,5,6,7,8,9]))
def c102:AFun:=⟨
 .seq (.ops [O1 4 (.mov (.const (.int .i64 0)))] [0,1])
 (.seq (.ops [O1 12 (.mov (.tmp 1)),
   O1 13 (.callF 108 [(.tmp 12)]),
   O1 11 (.mov (.tmp 13)),
   O1 14 (.ext (.tmp 11) 0),
   O1 15 (.ext (.tmp 11) 1),
   O1 5 (.mov (.tmp 14)),
   O1 6 (.mov (.tmp 15))] [0,1,5,6])
 (.seq (.ops [O1 16 (.mov (.tmp 1)),
   O1 17 (.len true (.tmp 16)),
   O1 7 (.mov (.tmp 17))] [0,1,5,6,7])
 (.seq (.ops [O1 8 (.mov (.const (.int .u32 0)))] [0,1,5,6,7,8])
 (.seq (.seq (.ops [O1 9 (.mov (.const (.int .i64 0)))] [0,1,5,6,7,8,9])
 (.block 0
  (.loop [0,1,5,6,7,8,9]
   c102l1)))
 (.seq (.seq (.ops [O1 30 (.mov (.tmp 8)),
   O1 31 (.mov (.tmp 5)),
   O1 32 (.bin .eql (.tmp 30) (.tmp 31)),
   O1 33 (.mov (.tmp 32)),
   ⟨(some 34),(some (33,true)),.mov (.tmp 0)⟩,
   ⟨(some 35),(some (33,true)),.mov (.tmp 7)⟩,
   ⟨(some 36),(some (33,true)),.slcS (.tmp 34) none (some (.tmp 35))⟩,
   ⟨(some 37),(some (33,true)),.mov (.tmp 1)⟩,
   ⟨(some 38),(some (33,true)),.bin .eql (.tmp 36) (.tmp 37)⟩,
   O1 39 (.pick (.tmp 33) (.tmp 38) (.const (.bool false)))] [0,1,5,6,7,8,39])
 (.cond (.tmp 39)
  (.seq (.ops [O1 4 (.mov (.const (.int .i64 0)))] [4])
  (.ret))
  (.skip)))
 (.seq (.seq (.ops [O1 40 (.mov (.tmp 7)),
   O1 10 (.mov (.tmp 40))] [0,1,5,6,7,8,10])
 (.block 2
  (.loop [0,1,5,6,7,8,10]
   c102l0)))
 (.seq (.ops [O1 4 (.mov (.const (.int .i64 (-1))))] [4])
 (.ret)))))))),
 81,[(4,none)],true⟩
theorem ok102:FunOK Tryd.prog 102 c102:= .code ⟨Tryd.f102,_,c102.code,Tryd.func102,rfl,by kernel_rfl,rfl,by kernel_rfl,by kernel_rfl⟩
/- math/bits.TrailingZeros32 -/
def c105:AFun:=⟨
 .seq (.ops [O1 2 (.mov (.const (.int .i64 0)))] [0])
 (.seq (.seq (.ops [O1 3 (.mov (.tmp 0)),
   O1 4 (.bin .eql (.tmp 3) (.const (.int .u32 0)))] [0,4])
 (.cond (.tmp 4)
  (.seq (.ops [O1 2 (.mov (.const (.int .i64 32)))] [2])
  (.ret))
  (.skip)))
 (.seq (.ops [O1 5 (.mov (.tmp 0)),
   O1 6 (.mov (.tmp 0)),
   O1 7 (.un .neg (.tmp 6)),
   O1 8 (.bin .and (.tmp 5) (.tmp 7)),
   O1 9 (.bin .mul (.tmp 8) (.const (.int .u32 125613361))),
   O1 10 (.bin .shr (.tmp 9) (.const (.int .u64 27))),
   O1 11 (.idxA 32 1 (.global 6) (.tmp 10)),
   O1 12 (.load none (.tmp 11)),
   O1 13 (.convI .i64 (.tmp 12)),
   O1 2 (.mov (.tmp 13))] [2])
 (.ret))),
 14,[(2,none)],true⟩
theorem ok105:FunOK Tryd.prog 105 c105:= .code ⟨Tryd.f105,_,c105.code,Tryd.func105,rfl,by kernel_rfl,rfl,by kernel_rfl,by kernel_rfl⟩
/- math/bits.TrailingZeros64 -/
def c106:AFun:=⟨
 .seq (.ops [O1 2 (.mov (.const (.int .i64 0)))] [0])
 (.seq (.seq (.ops [O1 3 (.mov (.tmp 0)),
   O1 4 (.bin .eql (.tmp 3) (.const (.int .u64 0)))] [0,4])
 (.cond (.tmp 4)
  (.seq (.ops [O1 2 (.mov (.const (.int .i64 64)))] [2])
  (.ret))
  (.skip)))
 (.seq (.ops [O1 5 (.mov (.tmp 0)),
   O1 6 (.mov (.tmp 0)),
   O1 7 (.un .neg (.tmp 6)),
   O1 8 (.bin .and (.tmp 5) (.tmp 7)),
   O1 9 (.bin .mul (.tmp 8) (.const (.int .u64 285870213051353865))),
   O1 10 (.bin .shr (.tmp 9) (.const (.int .u64 58))),
   O1 11 (.idxA 64 1 (.global 7) (.tmp 10)),
   O1 12 (.load none (.tmp 11)),
   O1 13 (.convI .i64 (.tmp 12)),
   O1 2 (.mov (.tmp 13))] [2])
 (.ret))),
 14,[(2,none)],true⟩
theorem ok106:FunOK Tryd.prog 106 c106:= .code ⟨Tryd.f106,_,c106.code,Tryd.func106,rfl,by kernel_rfl,rfl,by kernel_rfl,by kernel_rfl⟩
/- internal/bytealg.hashStr[string] -/
def c108l0:AC:=
 .seq (.seq (.ops [O1 24 (.mov (.tmp 8)),
     O1 25 (.bin .gtr (.tmp 24) (.const (.int .i64 0)))] [4,6,7,8,25])
   (.cond (.tmp 25)
    (.skip)
    (.exit 2)))
   (.seq (.block 3
    (.seq (.seq (.ops [O1 28 (.mov (.tmp 8)),
      O1 29 (.bin .and (.tmp 28) (.const (.int .i64 1))),
      O1 30 (.bin .neq (.tmp 29) (.const (.int .i64 0)))] [4,6,7,8,30])
    (.cond (.tmp 30)
     (.ops [O1 31 (.mov (.tmp 6)),
       O1 32 (.mov (.tmp 7)),
       O1 33 (.bin .mul (.tmp 31) (.tmp 32)),
       O1 6 (.mov (.tmp 33))] [4,6,7,8])
     (.skip)))
    (.ops [O1 34 (.mov (.tmp 7)),
      O1 35 (.mov (.tmp 7)),
      O1 36 (.bin .mul (.tmp 34) (.tmp 35)),
      O1 7 (.mov (.tmp 36))] [4,6,7,8])))
   (.ops [O1 26 (.mov (.tmp 8)),
     O1 27 (.bin .shr (.tmp 26) (.const (.int .u64 1))),
     O1 8 (.mov (.tmp 27))] [4,6,7,8]))
def c108l1:AC:=
 .seq (.seq (.ops [O1 9 (.mov (.tmp 5)),
     O1 10 (.mov (.tmp 0)),
     O1 11 (.len true (.tmp 10)),
     O1 12 (.bin .lss (.tmp 9) (.tmp 11))] [0,4,5,12])
   (.cond (.tmp 12)
    (.skip)
    (.exit 0)))
   (.seq (.block 1
    (.ops [O1 15 (.mov (.tmp 4)),
      O1 16 (.bin .mul (.tmp 15) (.const (.int .u32 16777619))),
      O1 17 (.mov (.tmp 0)),
      O1 18 (.mov (.tmp 5)),
      O1 19 (.idxStr (.tmp 17) (.tmp 18)),
      O1 20 (.convI .u32 (.tmp 19)),
      O1 21 (.bin .add (.tmp 16) (.tmp 20)),
      O1 4 (.mov (.tmp 21))] [0,4,5]))
   (.ops [O1 13 (.mov (.tmp 5)),
     O1 14 (.bin .add (.tmp 13) (.const (.int .i64 1))),
     O1 5 (.mov (.tmp 14))] [0,4,5]))
def c108:AFun:=⟨
 .seq (.ops [O1 2 (.mov (.const (.int .u32 0))),
   O1 3 (.mov (.const (.int .u32 0)))] [0])
 (.seq (.ops [O1 4 (.mov (.const (.int .u32 0)))] [0,4])
 (.seq (.seq (.ops [O1 5 (.mov (.const (.int .i64 0)))] [0,4,5])
 (.block 0
  (.loop [0,4,5]
   c108l1)))
 (.seq (.ops [O1 6 (.mov (.const (.int .u32 1))),
   O1 7 (.mov (.const (.int .u32 16777619)))] [0,4,6,7])
 (.seq (.seq (.ops [O1 22 (.mov (.tmp 0)),
   O1 23 (.len true (.tmp 22)),
   O1 8 (.mov (.tmp 23))] [4,6,7,8])
 (.block 2
  (.loop [4,6,7,8]
   c108l0)))
 (.seq (.ops [O1 37 (.mov (.tmp 4)),
   O1 38 (.mov (.tmp 6)),
   O1 2 (.mov (.tmp 37)),
   O1 3 (.mov (.tmp 38))] [2,3])
 (.ret)))))),
 39,[(2,none),(3,none)],true⟩
theorem ok108:FunOK Tryd.prog 108 c108:= .code ⟨Tryd.f108,_,c108.code,Tryd.func108,rfl,by kernel_rfl,rfl,by kernel_rfl,by kernel_rfl⟩
def fns:FuncId→Option AFun
 |8=>some c8
 |11=>some c11
 |13=>some c13
 |15=>some c15
 |18=>some c18
 |19=>some c19
 |21=>some c21
 |23=>some c23
 |24=>some c24
 |25=>some c25
 |27=>some c27
 |29=>some c29
 |30=>some c30
 |31=>some c31
 |32=>some c32
 |33=>some c33
 |34=>some c34
 |35=>some c35
 |38=>some c38
 |39=>some c39
 |40=>some c40
 |43=>some c43
 |45=>some c45
 |46=>some c46
 |47=>some c47
 |48=>some c48
 |49=>some c49
 |52=>some c52
 |53=>some c53
 |54=>some c54
 |55=>some c55
 |56=>some c56
 |57=>some c57
 |58=>some c58
 |59=>some c59
 |60=>some c60
 |61=>some c61
 |65=>some c65
 |66=>some c66
 |67=>some c67
 |69=>some c69
 |70=>some c70
 |71=>some c71
 |72=>some c72
 |73=>some c73
 |74=>some c74
 |75=>some c75
 |81=>some c81
 |82=>some c82
 |83=>some c83
 |84=>some c84
 |85=>some c85
 |87=>some c87
 |89=>some c89
 |90=>some c90
 |94=>some c94
 |95=>some c95
 |96=>some c96
 |97=>some c97
 |98=>some c98
 |99=>some c99
 |101=>some c101
 |102=>some c102
 |105=>some c105
 |106=>some c106
 |108=>some c108
 |_=>none
theorem fns_ok:FunsOK Tryd.prog fns:=by
 intro f af h
 unfold fns at h
 split at h
 ·cases h;exact ok8
 ·cases h;exact ok11
 ·cases h;exact ok13
 ·cases h;exact ok15
 ·cases h;exact ok18
 ·cases h;exact ok19
 ·cases h;exact ok21
 ·cases h;exact ok23
 ·cases h;exact ok24
 ·cases h;exact ok25
 ·cases h;exact ok27
 ·cases h;exact ok29
 ·cases h;exact ok30
 ·cases h;exact ok31
 ·cases h;exact ok32
 ·cases h;exact ok33
 ·cases h;exact ok34
 ·cases h;exact ok35
 ·cases h;exact ok38
 ·cases h;exact ok39
 ·cases h;exact ok40
 ·cases h;exact ok43
 ·cases h;exact ok45
 ·cases h;exact ok46
 ·cases h;exact ok47
 ·cases h;exact ok48
 ·cases h;exact ok49
 ·cases h;exact ok52
 ·cases h;exact ok53
 ·cases h;exact ok54
 ·cases h;exact ok55
 ·cases h;exact ok56
 ·cases h;exact ok57
 ·cases h;exact ok58
 ·cases h;exact ok59
 ·cases h;exact ok60
 ·cases h;exact ok61
 ·cases h;exact ok65
 ·cases h;exact ok66
 ·cases h;exact ok67
 ·cases h;exact ok69
 ·cases h;exact ok70
 ·cases h;exact ok71
 ·cases h;exact ok72
 ·cases h;exact ok73
 ·cases h;exact ok74
 ·cases h;exact ok75
 ·cases h;exact ok81
 ·cases h;exact ok82
 ·cases h;exact ok83
 ·cases h;exact ok84
 ·cases h;exact ok85
 ·cases h;exact ok87
 ·cases h;exact ok89
 ·cases h;exact ok90
 ·cases h;exact ok94
 ·cases h;exact ok95
 ·cases h;exact ok96
 ·cases h;exact ok97
 ·cases h;exact ok98
 ·cases h;exact ok99
 ·cases h;exact ok101
 ·cases h;exact ok102
 ·cases h;exact ok105
 ·cases h;exact ok106
 ·cases h;exact ok108
 ·cases h
end Go.Proofs.YtepdkmdcainddaaDoor
namespace Go.Proofs.YtepdkmdcainddaaDoor
open Go Go.Itp
set_option maxRecDepth 100000
def prims0:List (FuncId × Prim × TypeId):= [(68,.same,0),(107,.indexByte,0),(88,.count,0),(86,.makeNoZero,5)]
theorem prims_all:AllPrims Tryd.prog prims0:=
 ⟨⟨⟨Tryd.f68,Tryd.func68,by kernel_rfl,by kernel_rfl,by kernel_rfl,rfl⟩⟩,⟨⟨Tryd.f107,Tryd.func107,by kernel_rfl,by kernel_rfl,by kernel_rfl,rfl⟩⟩,⟨⟨Tryd.f88,Tryd.func88,by kernel_rfl,by kernel_rfl,by kernel_rfl,rfl⟩⟩,
  ⟨⟨Tryd.f86,Tryd.func86,by kernel_rfl,by kernel_rfl,#[3],67,by kernel_rfl,rfl,Tryd.underlying67⟩⟩,trivial⟩
theorem run_alive:runsTo true (body (callP (fun _ _=>none) many fns (primsOf prims0) 40) c19 [] St.empty)=true:=by kernel_rfl
end Go.Proofs.YtepdkmdcainddaaDoor
namespace Go.Proofs
open Go.Shelf
def Tryd.lays156_ren:Go.Shelf.Ren:=⟨fun|156=>34|165=>58|166=>33|169=>35|240=>57|241=>69|276=>68|277=>86|n=>n,fun|31=>65|9=>9|3=>3|4=>4|0=>0|20=>20|72=>69|76=>73|70=>66|37=>67|75=>72|127=>94|164=>103|5=>5|80=>76|n=>n,fun|n=>n⟩
theorem Tryd.lays156:Go.Proofs.Lays.n156 Tryd.prog Tryd.lays156_ren:={
 mixed:=by kernel_rfl
 f156:=Tryd.func34.trans (congrArg some (by kernel_rfl))
 f165:=Tryd.func58.trans (congrArg some (by kernel_rfl))
 f166:=Tryd.func33.trans (congrArg some (by kernel_rfl))
 f169:=Tryd.func35.trans (congrArg some (by kernel_rfl))
 f240:=Tryd.func57.trans (congrArg some (by kernel_rfl))
 f241:=Tryd.func69.trans (congrArg some (by kernel_rfl))
 f276:=Tryd.func68.trans (congrArg some (by kernel_rfl))
 f277:=Tryd.func86.trans (congrArg some (by kernel_rfl))
 t0:=Tryd.underlying0
 a0:=Tryd.isAgg0
 z0:=Tryd.sizeOf0
 v0:=Tryd.zeroValue0
 t3:=Tryd.underlying3
 a3:=Tryd.isAgg3
 z3:=Tryd.sizeOf3
 v3:=Tryd.zeroValue3
 t4:=Tryd.underlying4
 a4:=Tryd.isAgg4
 z4:=Tryd.sizeOf4
 v4:=Tryd.zeroValue4
 t9:=Tryd.underlying9
 a9:=Tryd.isAgg9
 z9:=Tryd.sizeOf9
 v9:=Tryd.zeroValue9
 t20:=Tryd.underlying20
 a20:=Tryd.isAgg20
 z20:=Tryd.sizeOf20
 v20:=Tryd.zeroValue20
 t31:=Tryd.underlying65
 a31:=Tryd.isAgg65
 z31:=Tryd.sizeOf65
 v31:=Tryd.zeroValue65
 t37:=Tryd.underlying67
 a37:=Tryd.isAgg67
 z37:=Tryd.sizeOf67
 v37:=Tryd.zeroValue67
 t70:=Tryd.underlying66
 a70:=Tryd.isAgg66
 z70:=Tryd.sizeOf66
 v70:=Tryd.zeroValue66
 t72:=Tryd.underlying69
 a72:=Tryd.isAgg69
 z72:=Tryd.sizeOf69
 v72:=Tryd.zeroValue69
 t75:=Tryd.underlying72
 a75:=Tryd.isAgg72
 z75:=Tryd.sizeOf72
 v75:=Tryd.zeroValue72
 t76:=Tryd.underlying73
 a76:=Tryd.isAgg73
 z76:=Tryd.sizeOf73
 v76:=Tryd.zeroValue73
 t127:=Tryd.underlying94
 a127:=Tryd.isAgg94
 z127:=Tryd.sizeOf94
 v127:=Tryd.zeroValue94
 t164:=Tryd.underlying103
 a164:=Tryd.isAgg103
 z164:=Tryd.sizeOf103
 v164:=Tryd.zeroValue103}
theorem Tryd.Builder_Extra_156:Builder.Extra Tryd.prog Tryd.lays156_ren:={
 sizeBuilder:=by kernel_rfl
 liesBuilder:=by kernel_rfl
 t5:=Tryd.underlying5
 a5:=Tryd.isAgg5
 z5:=Tryd.sizeOf5
 v5:=Tryd.zeroValue5
 infoByte:=by kernel_rfl
 cellsByte:=by kernel_rfl
 sizeByte:=by kernel_rfl
 neB5:=by decide}
open Go.RowKit in
theorem Tryd.strings_Join_none (a:Option Addr) (c:Nat) (sep:ByteArray) (w:World):
  Calls Tryd.prog 34 #[.slice a 0 c,.string sep] w fun e w'=>e= .returned (.string ⟨#[]⟩)∧w'=w:=Any.strings_Join_none Tryd.lays156 Tryd.Builder_Extra_156 a c sep w
open Go.RowKit in
theorem Tryd.strings_Join (bk o c:Nat) (xs:List ByteArray) (sep:ByteArray) (w:World) (hcells:∀ (j:Nat) x,xs[j]? =some x→w.cell? ⟨bk,o+j,none⟩=some (.string x)) (hbk:bk<w.heap.size) (hN:xs.length≤140737488355328) (hcap:xs.length≤c) (hlen:(Lib.join (xs.map (·.data.toList)) sep.data.toList).length≤140737488355328):
  Calls Tryd.prog 34 #[.slice (some ⟨bk,o,none⟩) xs.length c,.string sep] w fun e w'=>e= .returned (.string ⟨(Lib.join (xs.map (·.data.toList)) sep.data.toList).toArray⟩)∧Below w.heap.size w w':=Any.strings_Join Tryd.lays156 Tryd.Builder_Extra_156 bk o c xs sep w hcells hbk hN hcap hlen
def Tryd.laysM171_ren:Go.Shelf.Ren:=⟨fun|171=>32|243=>56|246=>67|283=>82|284=>83|285=>84|286=>85|129=>95|317=>94|318=>96|319=>97|320=>98|337=>105|338=>106|n=>n,fun|3=>3|9=>9|2=>2|4=>4|171=>118|0=>0|53=>119|37=>67|5=>5|173=>122|212=>136|51=>137|20=>20|213=>138|46=>129|232=>151|233=>152|n=>n,fun|17=>2|18=>6|19=>7|n=>n⟩
theorem Tryd.laysM171:Go.Proofs.LaysM.n171 Tryd.prog Tryd.laysM171_ren:={
 mixed:=by kernel_rfl
 f129:=Tryd.func95.trans (congrArg some (by kernel_rfl))
 f171:=Tryd.func32.trans (congrArg some (by kernel_rfl))
 f243:=Tryd.func56.trans (congrArg some (by kernel_rfl))
 f246:=Tryd.func67.trans (congrArg some (by kernel_rfl))
 f283:=Tryd.func82.trans (congrArg some (by kernel_rfl))
 f284:=Tryd.func83.trans (congrArg some (by kernel_rfl))
 f285:=Tryd.func84.trans (congrArg some (by kernel_rfl))
 f286:=Tryd.func85.trans (congrArg some (by kernel_rfl))
 f317:=Tryd.func94.trans (congrArg some (by kernel_rfl))
 f318:=Tryd.func96.trans (congrArg some (by kernel_rfl))
 f319:=Tryd.func97.trans (congrArg some (by kernel_rfl))
 f320:=Tryd.func98.trans (congrArg some (by kernel_rfl))
 f337:=Tryd.func105.trans (congrArg some (by kernel_rfl))
 f338:=Tryd.func106.trans (congrArg some (by kernel_rfl))
 t0:=Tryd.underlying0
 a0:=Tryd.isAgg0
 z0:=Tryd.sizeOf0
 v0:=Tryd.zeroValue0
 t2:=Tryd.underlying2
 a2:=Tryd.isAgg2
 z2:=Tryd.sizeOf2
 v2:=Tryd.zeroValue2
 t3:=Tryd.underlying3
 a3:=Tryd.isAgg3
 z3:=Tryd.sizeOf3
 v3:=Tryd.zeroValue3
 t4:=Tryd.underlying4
 a4:=Tryd.isAgg4
 z4:=Tryd.sizeOf4
 v4:=Tryd.zeroValue4
 t5:=Tryd.underlying5
 a5:=Tryd.isAgg5
 z5:=Tryd.sizeOf5
 v5:=Tryd.zeroValue5
 t9:=Tryd.underlying9
 a9:=Tryd.isAgg9
 z9:=Tryd.sizeOf9
 v9:=Tryd.zeroValue9
 t20:=Tryd.underlying20
 a20:=Tryd.isAgg20
 z20:=Tryd.sizeOf20
 v20:=Tryd.zeroValue20
 t37:=Tryd.underlying67
 a37:=Tryd.isAgg67
 z37:=Tryd.sizeOf67
 v37:=Tryd.zeroValue67
 t46:=Tryd.underlying129
 a46:=Tryd.isAgg129
 z46:=Tryd.sizeOf129
 v46:=Tryd.zeroValue129
 t51:=Tryd.underlying137
 a51:=Tryd.isAgg137
 z51:=Tryd.sizeOf137
 v51:=Tryd.zeroValue137
 t53:=Tryd.underlying119
 a53:=Tryd.isAgg119
 z53:=Tryd.sizeOf119
 v53:=Tryd.zeroValue119
 t171:=Tryd.underlying118
 a171:=Tryd.isAgg118
 z171:=Tryd.sizeOf118
 v171:=Tryd.zeroValue118
 t173:=Tryd.underlying122
 a173:=Tryd.isAgg122
 z173:=Tryd.sizeOf122
 v173:=Tryd.zeroValue122
 t212:=Tryd.underlying136
 a212:=Tryd.isAgg136
 z212:=Tryd.sizeOf136
 v212:=Tryd.zeroValue136
 t213:=Tryd.underlying138
 a213:=Tryd.isAgg138
 z213:=Tryd.sizeOf138
 t232:=Tryd.underlying151
 a232:=Tryd.isAgg151
 z232:=Tryd.sizeOf151
 v232:=Tryd.zeroValue151
 t233:=Tryd.underlying152
 a233:=Tryd.isAgg152
 z233:=Tryd.sizeOf152
 v233:=Tryd.zeroValue152
 g17:=by kernel_rfl
 g18:=by kernel_rfl
 g19:=by kernel_rfl
 i0:=by kernel_rfl
 i2:=by kernel_rfl
 i3:=by kernel_rfl
 i4:=by kernel_rfl
 i5:=by kernel_rfl
 i9:=by kernel_rfl
 i20:=by kernel_rfl
 i37:=by kernel_rfl
 i46:=by kernel_rfl
 i51:=by kernel_rfl
 i53:=by kernel_rfl
 i171:=by kernel_rfl
 i173:=by kernel_rfl
 i212:=by kernel_rfl
 i232:=by kernel_rfl
 i233:=by kernel_rfl
 m17:=by kernel_rfl
 m18:=by kernel_rfl
 m19:=by kernel_rfl}
open Go.RowKit Go.Sort Go.Lib in
theorem Tryd.strconv_Itoa (n:Int) (h0: -9223372036854775808≤n) (h1:n≤9223372036854775807) (w:World) (htab:Lib.TabIs Tryd.prog w "internal/strconv.uint64pow10" .u64 Lib.pow10Tab):
  Calls Tryd.prog 32 #[.int .i64 n] w fun e w'=>e= .returned (.string ⟨(Lib.itoa n).toArray⟩)∧∃ k os,w'=grow (w.drewN k) os:=Any.strconv_Itoa Tryd.laysM171 n h0 h1 w htab
def Tryd.laysC172_ren:Go.Shelf.Ren:=⟨fun|172=>50|244=>62|245=>63|247=>76|279=>77|280=>78|281=>79|282=>80|287=>91|316=>92|171=>32|205=>93|321=>103|322=>104|243=>56|246=>67|283=>82|284=>83|285=>84|286=>85|129=>95|317=>94|318=>96|319=>97|320=>98|337=>105|338=>106|n=>n,fun|9=>9|3=>3|75=>72|76=>73|4=>4|5=>5|167=>111|37=>67|0=>0|85=>112|2=>2|168=>114|53=>119|175=>127|46=>129|210=>132|127=>94|145=>147|143=>145|21=>21|171=>118|173=>122|212=>136|51=>137|20=>20|213=>138|232=>151|233=>152|80=>76|n=>n,fun|15=>0|16=>1|17=>2|18=>6|19=>7|n=>n⟩
theorem Tryd.laysC172:Go.Proofs.LaysC.n172 Tryd.prog Tryd.laysC172_ren:={
 mixed:=by kernel_rfl
 f129:=Tryd.func95.trans (congrArg some (by kernel_rfl))
 f171:=Tryd.func32.trans (congrArg some (by kernel_rfl))
 f172:=Tryd.func50.trans (congrArg some (by kernel_rfl))
 f205:=Tryd.func93.trans (congrArg some (by kernel_rfl))
 f243:=Tryd.func56.trans (congrArg some (by kernel_rfl))
 f244:=Tryd.func62.trans (congrArg some (by kernel_rfl))
 f245:=Tryd.func63.trans (congrArg some (by kernel_rfl))
 f246:=Tryd.func67.trans (congrArg some (by kernel_rfl))
 f247:=Tryd.func76.trans (congrArg some (by kernel_rfl))
 f279:=Tryd.func77.trans (congrArg some (by kernel_rfl))
 f280:=Tryd.func78.trans (congrArg some (by kernel_rfl))
 f281:=Tryd.func79.trans (congrArg some (by kernel_rfl))
 f282:=Tryd.func80.trans (congrArg some (by kernel_rfl))
 f283:=Tryd.func82.trans (congrArg some (by kernel_rfl))
 f284:=Tryd.func83.trans (congrArg some (by kernel_rfl))
 f285:=Tryd.func84.trans (congrArg some (by kernel_rfl))
 f286:=Tryd.func85.trans (congrArg some (by kernel_rfl))
 f287:=Tryd.func91.trans (congrArg some (by kernel_rfl))
 f316:=Tryd.func92.trans (congrArg some (by kernel_rfl))
 f317:=Tryd.func94.trans (congrArg some (by kernel_rfl))
 f318:=Tryd.func96.trans (congrArg some (by kernel_rfl))
 f319:=Tryd.func97.trans (congrArg some (by kernel_rfl))
 f320:=Tryd.func98.trans (congrArg some (by kernel_rfl))
 f321:=Tryd.func103.trans (congrArg some (by kernel_rfl))
 f322:=Tryd.func104.trans (congrArg some (by kernel_rfl))
 f337:=Tryd.func105.trans (congrArg some (by kernel_rfl))
 f338:=Tryd.func106.trans (congrArg some (by kernel_rfl))
 t0:=Tryd.underlying0
 a0:=Tryd.isAgg0
 z0:=Tryd.sizeOf0
 v0:=Tryd.zeroValue0
 t2:=Tryd.underlying2
 a2:=Tryd.isAgg2
 z2:=Tryd.sizeOf2
 v2:=Tryd.zeroValue2
 t3:=Tryd.underlying3
 a3:=Tryd.isAgg3
 z3:=Tryd.sizeOf3
 v3:=Tryd.zeroValue3
 t4:=Tryd.underlying4
 a4:=Tryd.isAgg4
 z4:=Tryd.sizeOf4
 v4:=Tryd.zeroValue4
 t5:=Tryd.underlying5
 a5:=Tryd.isAgg5
 z5:=Tryd.sizeOf5
 v5:=Tryd.zeroValue5
 t9:=Tryd.underlying9
 a9:=Tryd.isAgg9
 z9:=Tryd.sizeOf9
 v9:=Tryd.zeroValue9
 t20:=Tryd.underlying20
 a20:=Tryd.isAgg20
 z20:=Tryd.sizeOf20
 v20:=Tryd.zeroValue20
 t21:=Tryd.underlying21
 a21:=Tryd.isAgg21
 z21:=Tryd.sizeOf21
 v21:=Tryd.zeroValue21
 t37:=Tryd.underlying67
 a37:=Tryd.isAgg67
 z37:=Tryd.sizeOf67
 v37:=Tryd.zeroValue67
 t46:=Tryd.underlying129
 a46:=Tryd.isAgg129
 z46:=Tryd.sizeOf129
 v46:=Tryd.zeroValue129
 t51:=Tryd.underlying137
 a51:=Tryd.isAgg137
 z51:=Tryd.sizeOf137
 v51:=Tryd.zeroValue137
 t53:=Tryd.underlying119
 a53:=Tryd.isAgg119
 z53:=Tryd.sizeOf119
 v53:=Tryd.zeroValue119
 t75:=Tryd.underlying72
 a75:=Tryd.isAgg72
 z75:=Tryd.sizeOf72
 v75:=Tryd.zeroValue72
 t76:=Tryd.underlying73
 a76:=Tryd.isAgg73
 z76:=Tryd.sizeOf73
 v76:=Tryd.zeroValue73
 t85:=Tryd.underlying112
 a85:=Tryd.isAgg112
 z85:=Tryd.sizeOf112
 v85:=Tryd.zeroValue112
 t127:=Tryd.underlying94
 a127:=Tryd.isAgg94
 z127:=Tryd.sizeOf94
 v127:=Tryd.zeroValue94
 t143:=Tryd.underlying145
 a143:=Tryd.isAgg145
 z143:=Tryd.sizeOf145
 v143:=Tryd.zeroValue145
 t145:=Tryd.underlying147
 a145:=Tryd.isAgg147
 z145:=Tryd.sizeOf147
 v145:=Tryd.zeroValue147
 t167:=Tryd.underlying111
 a167:=Tryd.isAgg111
 z167:=Tryd.sizeOf111
 v167:=Tryd.zeroValue111
 t168:=Tryd.underlying114
 a168:=Tryd.isAgg114
 z168:=Tryd.sizeOf114
 v168:=Tryd.zeroValue114
 t171:=Tryd.underlying118
 a171:=Tryd.isAgg118
 z171:=Tryd.sizeOf118
 v171:=Tryd.zeroValue118
 t173:=Tryd.underlying122
 a173:=Tryd.isAgg122
 z173:=Tryd.sizeOf122
 v173:=Tryd.zeroValue122
 t175:=Tryd.underlying127
 a175:=Tryd.isAgg127
 z175:=Tryd.sizeOf127
 v175:=Tryd.zeroValue127
 t210:=Tryd.underlying132
 a210:=Tryd.isAgg132
 z210:=Tryd.sizeOf132
 v210:=Tryd.zeroValue132
 t212:=Tryd.underlying136
 a212:=Tryd.isAgg136
 z212:=Tryd.sizeOf136
 v212:=Tryd.zeroValue136
 t213:=Tryd.underlying138
 a213:=Tryd.isAgg138
 z213:=Tryd.sizeOf138
 t232:=Tryd.underlying151
 a232:=Tryd.isAgg151
 z232:=Tryd.sizeOf151
 v232:=Tryd.zeroValue151
 t233:=Tryd.underlying152
 a233:=Tryd.isAgg152
 z233:=Tryd.sizeOf152
 v233:=Tryd.zeroValue152
 g15:=by kernel_rfl
 g16:=by kernel_rfl
 g17:=by kernel_rfl
 g18:=by kernel_rfl
 g19:=by kernel_rfl
 t80:=Tryd.underlying76
 a80:=Tryd.isAgg76
 z80:=Tryd.sizeOf76
 v80:=Tryd.zeroValue76
 i0:=by kernel_rfl
 i2:=by kernel_rfl
 i3:=by kernel_rfl
 i4:=by kernel_rfl
 i5:=by kernel_rfl
 i9:=by kernel_rfl
 i20:=by kernel_rfl
 i21:=by kernel_rfl
 i37:=by kernel_rfl
 i46:=by kernel_rfl
 i51:=by kernel_rfl
 i53:=by kernel_rfl
 i75:=by kernel_rfl
 i76:=by kernel_rfl
 i80:=by kernel_rfl
 i85:=by kernel_rfl
 i127:=by kernel_rfl
 i143:=by kernel_rfl
 i145:=by kernel_rfl
 i167:=by kernel_rfl
 i168:=by kernel_rfl
 i171:=by kernel_rfl
 i173:=by kernel_rfl
 i175:=by kernel_rfl
 i210:=by kernel_rfl
 i212:=by kernel_rfl
 i232:=by kernel_rfl
 i233:=by kernel_rfl
 m15:=by kernel_rfl
 m16:=by kernel_rfl
 m17:=by kernel_rfl
 m18:=by kernel_rfl
 m19:=by kernel_rfl
 c0:=by kernel_rfl
 c2:=by kernel_rfl
 c3:=by kernel_rfl
 c4:=by kernel_rfl
 c5:=by kernel_rfl
 c9:=by kernel_rfl
 c20:=by kernel_rfl
 c21:=by kernel_rfl
 c37:=by kernel_rfl
 c46:=by kernel_rfl
 c51:=by kernel_rfl
 c53:=by kernel_rfl
 c75:=by kernel_rfl
 c76:=by kernel_rfl
 c80:=by kernel_rfl
 c85:=by kernel_rfl
 c127:=by kernel_rfl
 c143:=by kernel_rfl
 c145:=by kernel_rfl
 c167:=by kernel_rfl
 c168:=by kernel_rfl
 c171:=by kernel_rfl
 c173:=by kernel_rfl
 c175:=by kernel_rfl
 c210:=by kernel_rfl
 c212:=by kernel_rfl
 c213:=by kernel_rfl
 c232:=by kernel_rfl
 c233:=by kernel_rfl}
open Go.RowKit in
theorem Tryd.strconv_Atoi_ok (s:ByteArray) (hmax:s.size≤9223372036854775806) (v:Int) (h:Lib.atoiAll s.data.toList= .ok v) (w:World):
  Calls Tryd.prog 50 #[.string s] w fun e w'=>e= .returned (.tuple #[.int .i64 v,.nilIface])∧(w'=w∨∃ t,w'=Lib.bytesWorld w 5 t):=Any.strconv_Atoi_ok Tryd.laysC172 s hmax v h w
open Go.RowKit in
theorem Tryd.strconv_Atoi_syntax_var (s:ByteArray) (hlim:s.size≤281474976710656) (h:Lib.atoiAll s.data.toList=Lib.atoiAll []) (tp:TypeId) (p:Value) (w:World) (hvar:w.var? Tryd.prog "strconv.ErrSyntax"=some #[.iface tp p]):
  Calls Tryd.prog 50 #[.string s] w fun e w'=>∃ N,e= .returned (.tuple #[.int .i64 0,.iface 114 (.pointer (some ⟨N,0,none⟩))])∧w.heap.size≤N∧w'.heap[N]? =some (.cells #[.string ⟨#[65,116,111,105]⟩,.string s,.iface tp p] 132 (0,0))∧Below w.heap.size w w':=Any.strconv_Atoi_syntax_var Tryd.laysC172 s hlim h tp p w hvar
open Go.RowKit in
theorem Tryd.strconv_Atoi_range_var (s:ByteArray) (hlim:s.size≤281474976710656) (h:Lib.atoiAll s.data.toList= .range) (tp:TypeId) (p:Value) (w:World) (hvar:w.var? Tryd.prog "strconv.ErrRange"=some #[.iface tp p]):
  Calls Tryd.prog 50 #[.string s] w fun e w'=>∃ N,e= .returned (.tuple #[.int .i64 (Lib.atoiSat s.data.toList),.iface 114 (.pointer (some ⟨N,0,none⟩))])∧w.heap.size≤N∧w'.heap[N]? =some (.cells #[.string ⟨#[65,116,111,105]⟩,.string s,.iface tp p] 132 (0,0))∧Below w.heap.size w w':=Any.strconv_Atoi_range_var Tryd.laysC172 s hlim h tp p w hvar
end Go.Proofs
namespace Go.Proofs.YtepdkmdcainddaaDoor
open Go Go.Itp
open Go.RowKit (Below)
set_option linter.unusedVariables false
set_option maxRecDepth 100000
theorem own:ownKnob Tryd.prog.godebug=none:=by kernel_rfl
theorem mixed:Tryd.prog.follows .mixedOrders=true:=by kernel_rfl
def known:List (FuncId × List Value × Bool):= [(19,[],true)]
theorem has_alive:∃ fn c,Tryd.prog.funcs[(19:Nat)]? =some fn∧fn.body=some c∧(fn.name== "runtime.NumGoroutine")=false:=⟨Tryd.f19,_,Tryd.func19,rfl,by kernel_rfl⟩
def noOld:Nat→Nat→Option Value:=fun _ _=>none
theorem old_none (W:World):OldIs noOld W:=fun b o v e=>by cases e
theorem known_ok:Answers Tryd.prog noOld known:=
 ⟨answer_of mixed fns_ok (fun w _=>primsOf_ok prims0 prims_all w) (f:=19) (af:=c19) rfl rfl run_alive,has_alive,trivial⟩
noncomputable abbrev PR (w:World):FuncId→List Value→St→Option (Value × List Blk):=
 orElseP (primT known) (orElseP (primsOf prims0) (orElseP (itoaP 32) (orElseP (joinP (oldOf w) 34)
  (atoiP 50 114 132 (errO Tryd.prog w "strconv.ErrSyntax") (errO Tryd.prog w "strconv.ErrRange")))))
noncomputable abbrev EN (w:World) (n:Nat):Env:=callP (oldOf w) many fns (PR w) n
abbrev Tab (w:World):Prop:=Lib.TabIs Tryd.prog w "internal/strconv.uint64pow10" .u64 Lib.pow10Tab
theorem prims_ok (W:World) (ht:Tab W):PrimsOK Tryd.prog (PR W) W:=
 orElse_ok (primT_ok (old_none W) known known_ok) (orElse_ok (primsOf_ok prims0 prims_all W) (orElse_ok
  (itoaP_ok ⟨Tryd.f32,_,Tryd.func32,rfl,by kernel_rfl⟩ ht Tryd.strconv_Itoa) (orElse_ok
  (joinP_ok ⟨Tryd.f34,_,Tryd.func34,rfl,by kernel_rfl⟩ (oldOf_ok W) Tryd.strings_Join_none Tryd.strings_Join)
  (atoiP_ok (u8:=5) ⟨Tryd.f50,_,Tryd.func50,rfl,by kernel_rfl⟩ Tryd.strconv_Atoi_ok Tryd.strconv_Atoi_syntax_var Tryd.strconv_Atoi_range_var))))
theorem law_of {W:World} (ht:Tab W) {f:FuncId} {af:AFun} (hf:fns f=some af) {xs:List Value} (hxs:idsL 0 xs= []) (n:Nat) {v:Value} {s':St} (hb:body (EN W n) af xs St.empty=some (v,s')) (hv:ids 0 v= []):
  Calls Tryd.prog f xs.toArray W fun e w'=>e= .returned v∧Below W.heap.size W w':=
 law_at mixed fns_ok (oldOf_ok W) (prims_ok W ht) hf hxs n hb hv
theorem alive_o (w:World) (n:Nat) (st:VSt):VSpecO (EN w (n+1)) 19 st [] (.sc (.bool true)):=by
 intro s μ F xsI w0 hsr hx
 have:xsI= []:=by simpa [VRepL] using hx
 subst this
 exact ⟨.bool true,rfl,fun w=> .mksc rfl⟩
theorem itoa_s (w:World) (n:Nat) (st:VSt) (k:Int) (h0: -9223372036854775808≤k) (h1:k≤9223372036854775807):VSpecO (EN w (n+1)) 32 st [.sc (.int .i64 k)] (.sc (.string ⟨(Lib.itoa k).toArray⟩)):=
 itoa_o h0 h1 fun xs s r h=>orElse_right rfl (orElse_right rfl (orElse_left h))
theorem join_s (w:World) (n:Nat) (st:VSt) (s:Nat) (hs:s ≠ 1) (ls:List (List UInt8)) (sep:List UInt8) (hl:ls.length≤1099511627776) (hlen:(Lib.join ls sep).length≤140737488355328):
  VSpecO (EN w (n+1)) 34 st [.sl s ls.length (ls.map sD),.sc (.string ⟨sep.toArray⟩)] (.sc (.string ⟨(Lib.join ls sep).toArray⟩)):=
 join_o s hs ls sep hl hlen fun xs s r h=>orElse_right rfl (orElse_right rfl (orElse_right rfl (orElse_left h)))
theorem atoi_s (w:World) (n:Nat) (st:VSt) (b:ByteArray) (v:Int) (hb:b.size≤281474976710656) (h:Lib.atoiAll b.data.toList= .ok v):VSpecO (EN w (n+1)) 50 st [.sc (.string b)] (.tup [.sc (.int .i64 v),.sc .nilIface]):=
 atoi_o hb h fun xs s r h=>orElse_right rfl (orElse_right rfl (orElse_right rfl (orElse_right rfl h)))
theorem atoi_f (w:World) (n:Nat) (b:ByteArray) (hb:b.size≤281474976710656) (hes:(errO Tryd.prog w "strconv.ErrSyntax").isSome=true) (her:(errO Tryd.prog w "strconv.ErrRange").isSome=true) (h:∀ v,Lib.atoiAll b.data.toList ≠ .ok v):
  ∃ (k:Int) (cs:List Value),VSpec (EN w (n+1)) 50 [.sc (.string b)] (.tup [.sc (.int .i64 k),.ifc 114 (.ptr 0 0)]) ⟨[(0,.box 132 1 (cs.map V.sc))],1,0⟩:=
 atoi_e hb (errO_ok hes) (errO_ok her) h fun xs s r h=>orElse_right rfl (orElse_right rfl (orElse_right rfl (orElse_right rfl h)))
end Go.Proofs.YtepdkmdcainddaaDoor
namespace Go.Proofs.YtepdkmdcainddaaDoor
open Go Go.Itp
set_option maxRecDepth 100000
set_option linter.unusedSimpArgs false
def bD (b:Bool):D:= .sc (.bool b)
theorem bD_dv (b:Bool):dv (bD b)= .sc (.bool b):=(rfl)
end Go.Proofs.YtepdkmdcainddaaDoor
namespace Go.Proofs.YtepdkmdcainddaaDoor
open Go Go.Itp
set_option maxRecDepth 100000
set_option linter.unusedSimpArgs false
def rowD (s:Nat) (r:List Bool):D:= .sl s r.length (r.map bD)
theorem rowD_dv (s:Nat) (r:List Bool):dv (rowD s r)= .sl s r.length (r.map bD):=(rfl)
end Go.Proofs.YtepdkmdcainddaaDoor
namespace Go.Proofs.YtepdkmdcainddaaDoor
open Go Go.Itp
set_option maxRecDepth 100000
set_option maxHeartbeats 1000000
set_option linter.unusedSimpArgs false
def chkG (a b:Int) (L:Nat):Int:=if 64<a∨64<b then 4 else if a<1∨b<1 then 8 else if (L:Int)=a*b then 0 else 8
def chkE (a b:Int) (L:Nat):Int:=if chkG a b L=0 then (if 40<a then 8 else 0) else chkG a b L
theorem prod_le {a b:Int} (h1:1≤a) (h2:a≤64) (h3:1≤b) (h4:b≤64):1≤a*b∧a*b≤4096:=by
 have e1:a*b≤64*64:=Int.mul_le_mul h2 h4 (by omega) (by omega)
 have e2:1*1≤a*b:=Int.mul_le_mul h1 h3 (by omega) (by omega)
 omega
abbrev gridV (s:Nat) (a b:Int) (B:List Bool):V:= .agg [.sc (.int .i64 a),.sc (.int .i64 b),.sl s B.length (B.map bD)]
section
variable (w:World) (n:Nat)
end
end Go.Proofs.YtepdkmdcainddaaDoor
namespace Go.Proofs.YtepdkmdcainddaaDoor
open Go Go.Itp
set_option maxRecDepth 100000
set_option maxHeartbeats 1000000
set_option linter.unusedSimpArgs false
def oddTo (p:Nat→Bool):Nat→Bool
 |0=>false
 |n+1=>oddTo p n !=p n
section
variable (w:World) (n:Nat)
theorem odd_p (st:VSt) (N:Nat) (hN:N≤140737488351232) (f:FuncId) (caps:List V) (F:Nat→Bool) (h:∀ i:Nat,i<N→VSpecO (EN w n) f st (.sc (.int .i64 i)::caps) (.sc (.bool (F i)))):
  VSpecO (EN w (n+1)) 38 st [.sc (.int .i64 N),.fn f [] caps] (.sc (.bool (oddTo F N))):=by
 refine vspecO_g rfl rfl (fun _ _=>rfl) (Nat.le_of_ble_eq_true rfl) rfl fun C hC h0=>⟨⟨st.own,st.next,st.next⟩,?_⟩
 simp (disch:=first|omega|assumption|exact bd (by with_unfolding_all rfl)|exact Or.inl rfl|exact Or.inl trivial|exact okL_map _ (fun _=>rfl) _|(simp only[VVlen]<;>omega)|fail) only[O1,VV0,VV1,VV2,VV3,VV4,VV5,VV6,VV7,VV8,VV9,mkFnV,vargs,slotsL,opdsA,Nat.reduceEqDiff,Nat.reduceLT,Nat.reduceAdd,Nat.reduceBEq,Int.reduceAdd,Int.reduceSub,Int.reduceLT,Int.reduceLE,Int.reduceEq,Int.reduceNeg,↓reduceIte,reduceCtorEq,scL,scD,expand,List.replicate,c38]
 refine g_while (fun m fr t=>∃ k:Nat,m=N - k∧k≤N∧fr= [(1,.fn f [] caps),(5,.sc (.bool (oddTo F k))),(7,.sc (.int .i64 N)),(8,.sc (.int .i64 k))]∧t=⟨st.own,st.next,st.next⟩) N ?_ ⟨_,_,.refl _ _,0,?_⟩ ?_
 ·rw[hC,callP_rounds];unfold many;omega
 ·exact ⟨by omega,by omega,rfl,rfl⟩
 ·rintro m fr t ⟨k,rfl,hk,rfl,rfl⟩
  by_cases hlt:k<N
  ·repeat' (first|(simp (disch:=first|omega|assumption|exact bd (by with_unfolding_all rfl)|exact Or.inl rfl|exact Or.inl trivial|exact okL_map _ (fun _=>rfl) _|(simp only[VVlen]<;>omega)|fail) only[O1,VV0,VV1,VV2,VV3,VV4,VV5,VV6,VV7,VV8,VV9,mkFnV,vargs,slotsL,opdsA,Nat.reduceEqDiff,Nat.reduceLT,Nat.reduceAdd,Nat.reduceBEq,Int.reduceAdd,Int.reduceSub,Int.reduceLT,Int.reduceLE,Int.reduceEq,Int.reduceNeg,↓reduceIte,reduceCtorEq,scL,scD,expand,List.replicate,c38l0])|((first|apply gI_dec|apply gG_dec|apply gPG_dec|apply gI_var|apply gG_var|apply gPG_var)<;>intro _))
   refine callV_flat (v:= .sc (.bool (F k))) (by rw[hC];exact h k hlt) ?_
   repeat' (first|(simp (disch:=first|omega|assumption|exact bd (by with_unfolding_all rfl)|exact Or.inl rfl|exact Or.inl trivial|exact okL_map _ (fun _=>rfl) _|(simp only[VVlen]<;>omega)|fail) only[O1,VV0,VV1,VV2,VV3,VV4,VV5,VV6,VV7,VV8,VV9,mkFnV,vargs,slotsL,opdsA,Nat.reduceEqDiff,Nat.reduceLT,Nat.reduceAdd,Nat.reduceBEq,Int.reduceAdd,Int.reduceSub,Int.reduceLT,Int.reduceLE,Int.reduceEq,Int.reduceNeg,↓reduceIte,reduceCtorEq,scL,scD,expand,List.replicate,eqBV])|((first|apply gI_dec|apply gG_dec|apply gPG_dec|apply gI_var|apply gG_var|apply gPG_var)<;>intro _))
   exact ⟨_,_,_,by omega,.refl _ _,k+1,rfl,hlt,by simp[oddTo,bne],rfl⟩
  ·have:k=N:=by omega
   subst this
   repeat' (first|(simp (disch:=first|omega|assumption|exact bd (by with_unfolding_all rfl)|exact Or.inl rfl|exact Or.inl trivial|exact okL_map _ (fun _=>rfl) _|(simp only[VVlen]<;>omega)|fail) only[O1,VV0,VV1,VV2,VV3,VV4,VV5,VV6,VV7,VV8,VV9,mkFnV,vargs,slotsL,opdsA,Nat.reduceEqDiff,Nat.reduceLT,Nat.reduceAdd,Nat.reduceBEq,Int.reduceAdd,Int.reduceSub,Int.reduceLT,Int.reduceLE,Int.reduceEq,Int.reduceNeg,↓reduceIte,reduceCtorEq,scL,scD,expand,List.replicate,c38l0])|((first|apply gI_dec|apply gG_dec|apply gPG_dec|apply gI_var|apply gG_var|apply gPG_var)<;>intro _))
   exact .refl _ _
end
end Go.Proofs.YtepdkmdcainddaaDoor
namespace Go.Proofs.YtepdkmdcainddaaDoor
open Go Go.Itp
set_option maxRecDepth 100000
set_option maxHeartbeats 1000000
set_option linter.unusedSimpArgs false
section
variable (w:World) (n:Nat)
theorem gcheck_p (s:Nat) (a b:Int) (B:List Bool) (_hB:B.length≤140737488351232):VSpec (EN w (n+1)) 43 [gridV s a b B] (.sc (.int .i64 (chkG a b B.length))) ⟨[],0,0⟩:=by
 refine vspec_flat rfl rfl (fun _ _=>rfl) (Nat.le_of_ble_eq_true rfl) (oldVals w) rfl fun C hC h0=>?_
 by_cases h1:64<a∨64<b
 ·have e:chkG a b B.length=4:=if_pos h1
  rw[e]
  repeat' (first|(simp (disch:=first|omega|assumption|exact bd (by with_unfolding_all rfl)|exact Or.inl rfl|exact Or.inl trivial|exact okL_map _ (fun _=>rfl) _|(simp only[VVlen]<;>omega)|fail) only[O1,VV0,VV1,VV2,VV3,VV4,VV5,VV6,VV7,VV8,VV9,mkFnV,vargs,slotsL,opdsA,Nat.reduceEqDiff,Nat.reduceLT,Nat.reduceAdd,Nat.reduceBEq,Int.reduceAdd,Int.reduceSub,Int.reduceLT,Int.reduceLE,Int.reduceEq,Int.reduceNeg,↓reduceIte,reduceCtorEq,scL,scD,expand,List.replicate,c43])|((first|apply gI_dec|apply gG_dec|apply gPG_dec|apply gI_var|apply gG_var|apply gPG_var)<;>intro _))
  exact weak_flat rfl h0 rfl
 by_cases h2:a<1∨b<1
 ·have e:chkG a b B.length=8:=by unfold chkG;rw[if_neg h1,if_pos h2]
  rw[e]
  repeat' (first|(simp (disch:=first|omega|assumption|exact bd (by with_unfolding_all rfl)|exact Or.inl rfl|exact Or.inl trivial|exact okL_map _ (fun _=>rfl) _|(simp only[VVlen]<;>omega)|fail) only[O1,VV0,VV1,VV2,VV3,VV4,VV5,VV6,VV7,VV8,VV9,mkFnV,vargs,slotsL,opdsA,Nat.reduceEqDiff,Nat.reduceLT,Nat.reduceAdd,Nat.reduceBEq,Int.reduceAdd,Int.reduceSub,Int.reduceLT,Int.reduceLE,Int.reduceEq,Int.reduceNeg,↓reduceIte,reduceCtorEq,scL,scD,expand,List.replicate,c43])|((first|apply gI_dec|apply gG_dec|apply gPG_dec|apply gI_var|apply gG_var|apply gPG_var)<;>intro _))
  exact weak_flat rfl h0 rfl
 have hp:=prod_le (a:=a) (b:=b) (by omega) (by omega) (by omega) (by omega)
 have e:chkG a b B.length=if (B.length:Int)=a*b then 0 else 8:=by unfold chkG;rw[if_neg h1,if_neg h2]
 rw[e]
 by_cases h5:(B.length:Int)=a*b
 ·rw[if_pos h5]
  repeat' (first|(simp (disch:=first|omega|assumption|exact bd (by with_unfolding_all rfl)|exact Or.inl rfl|exact Or.inl trivial|exact okL_map _ (fun _=>rfl) _|(simp only[VVlen]<;>omega)|fail) only[O1,VV0,VV1,VV2,VV3,VV4,VV5,VV6,VV7,VV8,VV9,mkFnV,vargs,slotsL,opdsA,Nat.reduceEqDiff,Nat.reduceLT,Nat.reduceAdd,Nat.reduceBEq,Int.reduceAdd,Int.reduceSub,Int.reduceLT,Int.reduceLE,Int.reduceEq,Int.reduceNeg,↓reduceIte,reduceCtorEq,scL,scD,expand,List.replicate,c43])|((first|apply gI_dec|apply gG_dec|apply gPG_dec|apply gI_var|apply gG_var|apply gPG_var)<;>intro _))
  exact weak_flat rfl h0 rfl
 ·rw[if_neg h5]
  repeat' (first|(simp (disch:=first|omega|assumption|exact bd (by with_unfolding_all rfl)|exact Or.inl rfl|exact Or.inl trivial|exact okL_map _ (fun _=>rfl) _|(simp only[VVlen]<;>omega)|fail) only[O1,VV0,VV1,VV2,VV3,VV4,VV5,VV6,VV7,VV8,VV9,mkFnV,vargs,slotsL,opdsA,Nat.reduceEqDiff,Nat.reduceLT,Nat.reduceAdd,Nat.reduceBEq,Int.reduceAdd,Int.reduceSub,Int.reduceLT,Int.reduceLE,Int.reduceEq,Int.reduceNeg,↓reduceIte,reduceCtorEq,scL,scD,expand,List.replicate,c43])|((first|apply gI_dec|apply gG_dec|apply gPG_dec|apply gI_var|apply gG_var|apply gPG_var)<;>intro _))
  exact weak_flat rfl h0 rfl
theorem pcheck_p (s:Nat) (a b:Int) (B:List Bool) (hB:B.length≤140737488351232):VSpec (EN w (n+2)) 15 [gridV s a b B] (.sc (.int .i64 (chkE a b B.length))) ⟨[],0,0⟩:=by
 refine vspec_flat rfl rfl (fun _ _=>rfl) (Nat.le_of_ble_eq_true rfl) (oldVals w) rfl fun C hC h0=>?_
 have hc:=fun st=>(gcheck_p w n s a b B hB).of hC rfl st rfl
 repeat' (first|(simp (disch:=first|omega|assumption|exact bd (by with_unfolding_all rfl)|exact Or.inl rfl|exact Or.inl trivial|exact okL_map _ (fun _=>rfl) _|(simp only[VVlen]<;>omega)|fail) only[O1,VV0,VV1,VV2,VV3,VV4,VV5,VV6,VV7,VV8,VV9,mkFnV,vargs,slotsL,opdsA,Nat.reduceEqDiff,Nat.reduceLT,Nat.reduceAdd,Nat.reduceBEq,Int.reduceAdd,Int.reduceSub,Int.reduceLT,Int.reduceLE,Int.reduceEq,Int.reduceNeg,↓reduceIte,reduceCtorEq,scL,scD,expand,List.replicate,c15])|((first|apply gI_dec|apply gG_dec|apply gPG_dec|apply gI_var|apply gG_var|apply gPG_var)<;>intro _))
 refine callV_flat (hc _) ?_
 have key:chkE a b B.length=if chkG a b B.length=0 then (if 40<a then 8 else 0) else chkG a b B.length:=rfl
 repeat' (first|(simp (disch:=first|omega|assumption|exact bd (by with_unfolding_all rfl)|exact Or.inl rfl|exact Or.inl trivial|exact okL_map _ (fun _=>rfl) _|(simp only[VVlen]<;>omega)|fail) only[O1,VV0,VV1,VV2,VV3,VV4,VV5,VV6,VV7,VV8,VV9,mkFnV,vargs,slotsL,opdsA,Nat.reduceEqDiff,Nat.reduceLT,Nat.reduceAdd,Nat.reduceBEq,Int.reduceAdd,Int.reduceSub,Int.reduceLT,Int.reduceLE,Int.reduceEq,Int.reduceNeg,↓reduceIte,reduceCtorEq,scL,scD,expand,List.replicate])|((first|apply gI_dec|apply gG_dec|apply gPG_dec|apply gI_var|apply gG_var|apply gPG_var)<;>intro _))
 ·rename_i h1
  rw[if_neg h1] at key
  rw[key]
  exact weak_flat rfl h0 rfl
 ·rename_i h1 h2
  rw[if_pos (Classical.not_not.1 h1),if_pos h2] at key
  rw[key]
  exact weak_flat rfl h0 rfl
 ·rename_i h1 h2
  rw[if_pos (Classical.not_not.1 h1),if_neg h2] at key
  rw[key]
  exact weak_flat rfl h0 rfl
end
end Go.Proofs.YtepdkmdcainddaaDoor
namespace Go.Proofs.YtepdkmdcainddaaDoor
open Go Go.Itp
set_option maxRecDepth 100000
set_option maxHeartbeats 1000000
set_option linter.unusedSimpArgs false
def bitsRow (B:List Bool) (Q k:Nat):List Bool:=(List.range Q).map fun x=>B[k*Q+x]!
theorem bitsRow_len (B:List Bool) (Q k:Nat):(bitsRow B Q k).length=Q:=by simp[bitsRow]
theorem part_row (B:List Bool) (Q k:Nat) (h:(k+1)*Q≤B.length):(B.drop (k*Q)).take Q=bitsRow B Q k:=by
 have hm:(k+1)*Q=k*Q+Q:=Nat.succ_mul k Q
 refine List.ext_getElem ?_ fun i h1 h2=>?_
 ·rw[List.length_take,List.length_drop,bitsRow_len];omega
 ·rw[bitsRow_len] at h2
  simp only[bitsRow,List.getElem_drop,List.getElem_take,List.getElem_map,List.getElem_range]
  rw[getElem!_pos B (k*Q+i) (by omega)]
section
variable (w:World) (n:Nat)
end
end Go.Proofs.YtepdkmdcainddaaDoor
namespace Go.Proofs.YtepdkmdcainddaaDoor
open Go Go.Itp
set_option maxRecDepth 100000
set_option linter.unusedSimpArgs false
abbrev strV (l:List UInt8):V:= .sc (.string ⟨l.toArray⟩)
def wordsTo (r:Nat→Bool):Nat→List (List UInt8)
 |0=> []
 |k+1=>wordsTo r k++(if r k then [Lib.itoa ((k:Int)+1)] else [])
def lineTo (r:Nat→Bool):Nat→List UInt8
 |0=> []
 |k+1=>if r k then (if lineTo r k= [] then [] else lineTo r k++ [32])++Lib.itoa ((k:Int)+1) else lineTo r k
theorem dec_ne (x:Nat):Lib.decDigits x ≠ []:=by
 rw[Lib.decDigits]
 split<;>simp
theorem itoa_ne (k:Nat):Lib.itoa ((k:Int)+1) ≠ []:=by
 rw[show ((k:Int)+1)=((k+1:Nat):Int) by omega,Lib.itoa_nonneg]
 exact dec_ne _
theorem line_nil (r:Nat→Bool):∀ k,lineTo r k= []↔wordsTo r k= []
 |0=>by simp[lineTo,wordsTo]
 |k+1=>by
  have:=itoa_ne k
  by_cases h:r k=true
  ·simp[lineTo,wordsTo,h,this]
  ·simp[lineTo,wordsTo,h,line_nil r k]
theorem line_join (r:Nat→Bool):∀ k,Lib.join (wordsTo r k) [32]=lineTo r k
 |0=>rfl
 |k+1=>by
  by_cases h:r k=true
  ·rw[wordsTo,lineTo,if_pos h,if_pos h]
   by_cases h0:lineTo r k= []
   ·rw[if_pos h0,(line_nil r k).1 h0]
    simp[Lib.join_one]
   ·rw[if_neg h0,join_one,join_snoc _ _ (fun e=>h0 ((line_nil r k).2 e)),← join_one,line_join r k]
    simp
  ·rw[wordsTo,lineTo,if_neg h,if_neg h,List.append_nil,line_join r k]
theorem line_len (r:Nat→Bool):∀ k,k≤1000→(lineTo r k).length≤22*k
 |0,_=>Nat.le_refl _
 |k+1,h=>by
  have ih:=line_len r k (by omega)
  have h1:=Lib.itoa_length_le ((k:Int)+1) (by omega) (by omega)
  rw[lineTo]
  split
  ·split
   ·simp;omega
   ·simp;omega
  ·omega
theorem words_len (r:Nat→Bool):∀ k,(wordsTo r k).length≤k
 |0=>Nat.le_refl _
 |k+1=>by
  have:=words_len r k
  rw[wordsTo]
  split<;>simp<;>omega
def rowOf (B:List Bool) (Q y:Nat):Nat→Bool:=fun x=>B[y*Q+x]!
def rowText (r:Nat→Bool) (Q:Nat):List UInt8:=(if lineTo r Q= [] then [45] else lineTo r Q)++ [10]
def planTo (B:List Bool) (Q:Nat):Nat→List UInt8
 |0=> []
 |y+1=>planTo B Q y++rowText (rowOf B Q y) Q
theorem rowText_len (r:Nat→Bool) (Q:Nat) (hQ:Q≤40):(rowText r Q).length≤900:=by
 have:=line_len r Q (by omega)
 unfold rowText
 split<;>simp<;>omega
theorem plan_len (B:List Bool) (Q:Nat) (hQ:Q≤40):∀ k,(planTo B Q k).length≤900*k
 |0=>Nat.le_refl _
 |k+1=>by
  have h1:=plan_len B Q hQ k
  have h2:=rowText_len (rowOf B Q k) Q hQ
  rw[planTo,List.length_append]
  omega
end Go.Proofs.YtepdkmdcainddaaDoor
namespace Go.Proofs.YtepdkmdcainddaaDoor
open Go Go.Itp
set_option maxRecDepth 100000
set_option maxHeartbeats 1000000
set_option linter.unusedSimpArgs false
theorem eqB_b (a b:Bool):eqBV false (.sc (.bool a)) (.sc (.bool b))=some (.sc (.bool (a==b))):=(rfl)
theorem eqB_nb (a b:Bool):eqBV true (.sc (.bool a)) (.sc (.bool b))=some (.sc (.bool (!(a==b)))):=(rfl)
theorem beqB (b:Bool):(b==b)=true:=by cases b<;>rfl
section
variable (w:World) (n:Nat)
theorem same01_p (s s':Nat) (a b:Int) (B:List Bool) (hB:B.length≤5000):VSpec (EN w (n+1)) 18 [gridV s a b B,gridV s' a b B] (.sc (.bool true)) ⟨[],0,0⟩:=by
 refine vspec_flat rfl rfl (fun _ _=>rfl) (Nat.le_of_ble_eq_true rfl) (oldVals w) rfl fun C hC h0=>?_
 repeat' (first|(simp (disch:=first|omega|assumption|exact bd (by with_unfolding_all rfl)|exact Or.inl rfl|exact Or.inl trivial|exact okL_map _ (fun _=>rfl) _|(simp only[VVlen]<;>omega)|fail) only[O1,VV0,VV1,VV2,VV3,VV4,VV5,VV6,VV7,VV8,VV9,mkFnV,vargs,slotsL,opdsA,Nat.reduceEqDiff,Nat.reduceLT,Nat.reduceAdd,Nat.reduceBEq,Int.reduceAdd,Int.reduceSub,Int.reduceLT,Int.reduceLE,Int.reduceEq,Int.reduceNeg,↓reduceIte,reduceCtorEq,scL,scD,expand,List.replicate,c18,bD_dv])|((first|apply gI_dec|apply gG_dec|apply gPG_dec|apply gI_var|apply gG_var|apply gPG_var)<;>intro _))
 refine g_while (fun m fr st=>∃ k:Nat,m=B.length - k∧k≤B.length∧fr= [(2,.ptr 0 0),(3,.ptr 1 0),(5,.sc (.int .i64 k))]∧st=⟨[(1,.box 24 1 [.sc (.int .i64 a),.sc (.int .i64 b),.sl s' B.length (B.map bD)]),(0,.box 24 1 [.sc (.int .i64 a),.sc (.int .i64 b),.sl s B.length (B.map bD)])],2,0⟩) B.length ?_ ⟨_,_,.refl _ _,0,?_⟩ ?_
 ·rw[hC,callP_rounds];unfold many;omega
 ·exact ⟨by omega,by omega,rfl,rfl⟩
 ·rintro m fr st ⟨k,rfl,hk,rfl,rfl⟩
  by_cases hlt:k<B.length
  ·generalize hb:B[k]! =bb at*
   repeat' (first|(simp (disch:=first|omega|assumption|exact bd (by with_unfolding_all rfl)|exact Or.inl rfl|exact Or.inl trivial|exact okL_map _ (fun _=>rfl) _|(simp only[VVlen]<;>omega)|fail) only[O1,VV0,VV1,VV2,VV3,VV4,VV5,VV6,VV7,VV8,VV9,mkFnV,vargs,slotsL,opdsA,Nat.reduceEqDiff,Nat.reduceLT,Nat.reduceAdd,Nat.reduceBEq,Int.reduceAdd,Int.reduceSub,Int.reduceLT,Int.reduceLE,Int.reduceEq,Int.reduceNeg,↓reduceIte,reduceCtorEq,scL,scD,expand,List.replicate,c18l0,bD_dv,hb,eqB_b,eqB_nb,beqB,Bool.not_true])|((first|apply gI_dec|apply gG_dec|apply gPG_dec|apply gI_var|apply gG_var|apply gPG_var)<;>intro _))
   exact ⟨_,_,_,by omega,.refl _ _,k+1,rfl,hlt,rfl,rfl⟩
  ·have:k=B.length:=by omega
   subst this
   repeat' (first|(simp (disch:=first|omega|assumption|exact bd (by with_unfolding_all rfl)|exact Or.inl rfl|exact Or.inl trivial|exact okL_map _ (fun _=>rfl) _|(simp only[VVlen]<;>omega)|fail) only[O1,VV0,VV1,VV2,VV3,VV4,VV5,VV6,VV7,VV8,VV9,mkFnV,vargs,slotsL,opdsA,Nat.reduceEqDiff,Nat.reduceLT,Nat.reduceAdd,Nat.reduceBEq,Int.reduceAdd,Int.reduceSub,Int.reduceLT,Int.reduceLE,Int.reduceEq,Int.reduceNeg,↓reduceIte,reduceCtorEq,scL,scD,expand,List.replicate,c18l0,bD_dv])|((first|apply gI_dec|apply gG_dec|apply gPG_dec|apply gI_var|apply gG_var|apply gPG_var)<;>intro _))
   exact weak_flat rfl h0 rfl
end
end Go.Proofs.YtepdkmdcainddaaDoor
namespace Go.Proofs.YtepdkmdcainddaaDoor
open Go Go.Itp
set_option maxRecDepth 100000
set_option maxHeartbeats 1000000
set_option linter.unusedSimpArgs false
abbrev chainV (s s':Nat) (q:Int) (L:List (List Bool)):V:= .agg [.sc (.int .i64 q),.sl s L.length (L.map (rowD s'))]
section
variable (w:World) (n:Nat)
end
end Go.Proofs.YtepdkmdcainddaaDoor
namespace Go.Proofs.YtepdkmdcainddaaDoor
open Go Go.Itp
set_option maxRecDepth 100000
set_option maxHeartbeats 1000000
set_option linter.unusedSimpArgs false
section
variable (w:World) (n:Nat)
end
end Go.Proofs.YtepdkmdcainddaaDoor
namespace Go.Proofs.YtepdkmdcainddaaDoor
open Go Go.Itp
set_option maxRecDepth 100000
set_option maxHeartbeats 1000000
set_option linter.unusedSimpArgs false
section
variable (w:World) (n:Nat)
def selfP (b:Nat) (p:V):Prop:=p= .sc (.pointer none)∨p= .ptr b 0
theorem copyCheck_w {C:Ctx} {st:VSt} {Q:V→VSt→Prop} (hC:C.E=EN w (n+2)) (b e:Nat) (p g:V) (hb:aget st.own b=some (.box 69 e [p,g])) (hp:selfP b p) (hro:st.ro≤b)
  (hq:Q (.tup []) ⟨aset st.own b (.box 69 e [.ptr b 0,g]),st.next,st.ro⟩):CallV C 57 [.ptr b 0] st Q:=by
 refine callV_w hC rfl rfl (fun _ _=>rfl) (Nat.le_of_ble_eq_true rfl) hq fun C' hC' hn=>?_
 obtain ⟨H,nx,ro⟩:=st
 have h2:(2:Nat)≤ [p,g].length:=Nat.le_refl _
 rcases hp with rfl|rfl
 ·repeat' (first|(simp (disch:=first|omega|assumption|exact bd (by with_unfolding_all rfl)|exact Or.inl rfl|exact Or.inl trivial|exact okL_map _ (fun _=>rfl) _|(simp only[VVlen]<;>omega)|fail) only[O1,VV0,VV1,VV2,VV3,VV4,VV5,VV6,VV7,VV8,VV9,mkFnV,vargs,slotsL,opdsA,Nat.reduceEqDiff,Nat.reduceLT,Nat.reduceAdd,Nat.reduceBEq,Int.reduceAdd,Int.reduceSub,Int.reduceLT,Int.reduceLE,Int.reduceEq,Int.reduceNeg,↓reduceIte,reduceCtorEq,scL,scD,expand,List.replicate,c57,hb,eqNilP_ptr,eqNilP_nil])|((first|apply gI_dec|apply gG_dec|apply gPG_dec|apply gI_var|apply gG_var|apply gPG_var)<;>intro _))
  refine callV_same hC' (fun x s=>?_) ?_
  ·show PR w _ [x] s=some (x,[])
   rfl
  repeat' (first|(simp (disch:=first|omega|assumption|exact bd (by with_unfolding_all rfl)|exact Or.inl rfl|exact Or.inl trivial|exact okL_map _ (fun _=>rfl) _|(simp only[VVlen]<;>omega)|fail) only[O1,VV0,VV1,VV2,VV3,VV4,VV5,VV6,VV7,VV8,VV9,mkFnV,vargs,slotsL,opdsA,Nat.reduceEqDiff,Nat.reduceLT,Nat.reduceAdd,Nat.reduceBEq,Int.reduceAdd,Int.reduceSub,Int.reduceLT,Int.reduceLE,Int.reduceEq,Int.reduceNeg,↓reduceIte,reduceCtorEq,scL,scD,expand,List.replicate,hb,eqNilP_ptr])|((first|apply gI_dec|apply gG_dec|apply gPG_dec|apply gI_var|apply gG_var|apply gPG_var)<;>intro _))
  exact .refl _ _
 ·have hs:aset H b (.box 69 e [.ptr b 0,g])=H:=aset_self _ _ _ hb
  repeat' (first|(simp (disch:=first|omega|assumption|exact bd (by with_unfolding_all rfl)|exact Or.inl rfl|exact Or.inl trivial|exact okL_map _ (fun _=>rfl) _|(simp only[VVlen]<;>omega)|fail) only[O1,VV0,VV1,VV2,VV3,VV4,VV5,VV6,VV7,VV8,VV9,mkFnV,vargs,slotsL,opdsA,Nat.reduceEqDiff,Nat.reduceLT,Nat.reduceAdd,Nat.reduceBEq,Int.reduceAdd,Int.reduceSub,Int.reduceLT,Int.reduceLE,Int.reduceEq,Int.reduceNeg,↓reduceIte,reduceCtorEq,scL,scD,expand,List.replicate,c57,hb,eqPtrV_same,eqNilP_ptr,eqNilP_nil])|((first|apply gI_dec|apply gG_dec|apply gPG_dec|apply gI_var|apply gG_var|apply gPG_var)<;>intro _))
  rw[hs]
  exact .refl _ _
theorem writeString_w {C:Ctx} {st:VSt} {Q:V→VSt→Prop} (hC:C.E=EN w (n+3)) (b r:Nat) (p:V) (acc s:ByteArray) (hb:aget st.own b=some (.box 69 1 [p,.gr 2 r acc.size])) (hr:aget st.own r=some (.gro 5 1 false (strD acc))) (hp:selfP b p) (hro:st.ro≤b) (hro2:st.ro≤r) (hrb:r ≠ b) (hlt:b ≠ st.next)
  (hsz:acc.size+s.size≤1099511627776) (hq:Q (.tup [.sc (.int .i64 s.size),.sc .nilIface]) ⟨(st.next,.gro 5 1 false (strD (acc++s)))::aset (adel r st.own) b (.box 69 1 [.ptr b 0,.gr 2 st.next (acc.size+s.size)]),st.next+1,st.ro⟩):
  CallV C 33 [.ptr b 0,.sc (.string s)] st Q:=by
 refine callV_w hC rfl rfl (fun _ _=>rfl) (Nat.le_of_ble_eq_true rfl) hq fun C' hC' hn=>?_
 obtain ⟨H,nx,ro⟩:=st
 have h1:=strD_len acc
 have h2:=strD_ok s
 have a1:aget (aset H b (.box 69 1 [.ptr b 0,.gr 2 r acc.size])) b=some (.box 69 1 [.ptr b 0,.gr 2 r acc.size]):=aget_aset_eq hb
 have a2:aget (aset H b (.box 69 1 [.ptr b 0,.gr 2 r acc.size])) r=some (.gro 5 1 false (strD acc)):=by rw[aget_aset _ _ _ _ _ hb,if_neg hrb];exact hr
 have hbr:¬ b=r:=fun e=>hrb e.symm
 have a3:aget (adel r (aset H b (.box 69 1 [.ptr b 0,.gr 2 r acc.size]))) b=some (.box 69 1 [.ptr b 0,.gr 2 r acc.size]):=by rw[aget_adel,if_neg hbr];exact a1
 repeat' (first|(simp (disch:=first|omega|assumption|exact bd (by with_unfolding_all rfl)|exact Or.inl rfl|exact Or.inl trivial|exact okL_map _ (fun _=>rfl) _|(simp only[VVlen]<;>omega)|fail) only[O1,VV0,VV1,VV2,VV3,VV4,VV5,VV6,VV7,VV8,VV9,mkFnV,vargs,slotsL,opdsA,Nat.reduceEqDiff,Nat.reduceLT,Nat.reduceAdd,Nat.reduceBEq,Int.reduceAdd,Int.reduceSub,Int.reduceLT,Int.reduceLE,Int.reduceEq,Int.reduceNeg,↓reduceIte,reduceCtorEq,scL,scD,expand,List.replicate,c33])|((first|apply gI_dec|apply gG_dec|apply gPG_dec|apply gI_var|apply gG_var|apply gPG_var)<;>intro _))
 refine copyCheck_w w n hC' b 1 p _ hb hp hro ?_
 repeat' (first|(simp (disch:=first|omega|assumption|exact bd (by with_unfolding_all rfl)|exact Or.inl rfl|exact Or.inl trivial|exact okL_map _ (fun _=>rfl) _|(simp only[VVlen]<;>omega)|fail) only[O1,VV0,VV1,VV2,VV3,VV4,VV5,VV6,VV7,VV8,VV9,mkFnV,vargs,slotsL,opdsA,Nat.reduceEqDiff,Nat.reduceLT,Nat.reduceAdd,Nat.reduceBEq,Int.reduceAdd,Int.reduceSub,Int.reduceLT,Int.reduceLE,Int.reduceEq,Int.reduceNeg,↓reduceIte,reduceCtorEq,scL,scD,expand,List.replicate,a1,a2,a3,srcOf_str,strD_eq,hbr,hlt,strD_append,frozA_none])|((first|apply gI_dec|apply gG_dec|apply gPG_dec|apply gI_var|apply gG_var|apply gPG_var)<;>intro _))
 rw[adel_aset _ _ _ _ hrb,aset_aset]
 exact .refl _ _
theorem string_w {C:Ctx} {st:VSt} {Q:V→VSt→Prop} (hC:C.E=EN w (n+1)) (b r:Nat) (p:V) (acc:ByteArray) (hb:aget st.own b=some (.box 69 1 [p,.gr 2 r acc.size])) (hr:aget st.own r=some (.gro 5 1 false (strD acc))) (hro:st.ro≤b) (hro2:st.ro≤r)
  (hsz:acc.size≤1099511627776) (hq:∀ st',st'.ro=st.ro→Q (.sc (.string acc)) st'):CallV C 35 [.ptr b 0] st Q:=by
 obtain ⟨H,nx,ro⟩:=st
 by_cases h0:acc.size=0
 ·rw[h0] at hb
  have hs:acc=ByteArray.empty:=by
   apply ByteArray.ext;apply Array.ext'
   rw[List.eq_nil_of_length_eq_zero (show acc.data.toList.length=0 by simpa using h0)]
   rfl
  refine callV_wW (st':=⟨aset H b (.box 69 1 [p,.sc (.slice none 0 0)]),nx,ro⟩) hC rfl rfl (fun _ _=>rfl) (Nat.le_of_ble_eq_true rfl) (hq ⟨aset H b (.box 69 1 [p,.sc (.slice none 0 0)]),nx,ro⟩ rfl) (fun C' hn=>?_) fun C' hC' hn=>?_
  ·exact weak_cell (C:=C') (st:=⟨H,nx,ro⟩) (k:=1) hb rfl same_gr0
  have a1:aget (aset H b (.box 69 1 [p,.sc (.slice none 0 0)])) b=some (.box 69 1 [p,.sc (.slice none 0 0)]):=aget_aset_eq hb
  rw[hs]
  repeat' (first|(simp (disch:=first|omega|assumption|exact bd (by with_unfolding_all rfl)|exact Or.inl rfl|exact Or.inl trivial|exact okL_map _ (fun _=>rfl) _|(simp only[VVlen]<;>omega)|fail) only[O1,VV0,VV1,VV2,VV3,VV4,VV5,VV6,VV7,VV8,VV9,mkFnV,vargs,slotsL,opdsA,Nat.reduceEqDiff,Nat.reduceLT,Nat.reduceAdd,Nat.reduceBEq,Int.reduceAdd,Int.reduceSub,Int.reduceLT,Int.reduceLE,Int.reduceEq,Int.reduceNeg,↓reduceIte,reduceCtorEq,scL,scD,expand,List.replicate,c35,a1,vustr_nil])|((first|apply gI_dec|apply gG_dec|apply gPG_dec|apply gI_var|apply gG_var|apply gPG_var)<;>intro _))
  exact .refl _ _
 ·refine callV_w hC rfl rfl (fun _ _=>rfl) (Nat.le_of_ble_eq_true rfl) (hq ⟨adel r H,nx,ro⟩ rfl) fun C' hC' hn=>?_
  have hv:=vustr_gro ⟨H,nx,ro⟩ 5 1 r acc hr hro2 (by omega) hsz
  repeat' (first|(simp (disch:=first|omega|assumption|exact bd (by with_unfolding_all rfl)|exact Or.inl rfl|exact Or.inl trivial|exact okL_map _ (fun _=>rfl) _|(simp only[VVlen]<;>omega)|fail) only[O1,VV0,VV1,VV2,VV3,VV4,VV5,VV6,VV7,VV8,VV9,mkFnV,vargs,slotsL,opdsA,Nat.reduceEqDiff,Nat.reduceLT,Nat.reduceAdd,Nat.reduceBEq,Int.reduceAdd,Int.reduceSub,Int.reduceLT,Int.reduceLE,Int.reduceEq,Int.reduceNeg,↓reduceIte,reduceCtorEq,scL,scD,expand,List.replicate,c35,hb,h0,hv])|((first|apply gI_dec|apply gG_dec|apply gPG_dec|apply gI_var|apply gG_var|apply gPG_var)<;>intro _))
  exact .refl _ _
end
end Go.Proofs.YtepdkmdcainddaaDoor
namespace Go.Proofs.YtepdkmdcainddaaDoor
open Go Go.Itp
set_option maxRecDepth 100000
set_option maxHeartbeats 1000000
set_option linter.unusedSimpArgs false
theorem eqNilS_nil (g:Bool):eqNilV 1 g (.sc (.slice none 0 0)) (.sc (.slice none 0 0))=some (.sc (.bool (!g))):=by cases g<;>rfl
theorem eqNilS_gr (g:Bool) (o n:Nat) (hn:n ≠ 0):eqNilV 1 g (.gr 2 o n) (.sc (.slice none 0 0))=some (.sc (.bool g)):=by
 rw[eqNilV_nil g _ (Nat.beq n 0) rfl,nbf.2 hn]
 cases g<;>rfl
theorem row_of (B:List Bool) (Q y x:Nat) (hx:x<Q):(bitsRow B Q y)[x]! =rowOf B Q y x:=by
 rw[getElem!_pos _ x (by rw[bitsRow_len];exact hx)]
 simp[bitsRow,rowOf]
theorem words_map (r:Nat→Bool) (k:Nat) (h:r k=true):(wordsTo r (k+1)).map sD=(wordsTo r k).map sD++ [sD (Lib.itoa ((k:Int)+1))]:=by
 simp[wordsTo,h]
section
variable (w:World) (n:Nat)
theorem plan_p (s Q K:Nat) (B:List Bool) (hfit:chkE Q K B.length=0) (hQ:1≤Q∧Q≤40) (hK:1≤K∧K≤64) (hL:B.length=Q*K):
  VSpec (EN w (n+5)) 11 [gridV s Q K B] (.tup [strV (planTo B Q K),.sc (.int .i64 0)]) ⟨[],0,0⟩:=by
 refine vspec_flat rfl rfl (fun _ _=>rfl) (Nat.le_of_ble_eq_true rfl) (oldVals w) rfl fun C hC h0=>?_
 have hB1:B.length≤2560:=by rw[hL];exact Nat.mul_le_mul hQ.2 hK.2
 have hc:=fun st=>(pcheck_p w (n+2) s Q K B (by omega)).of hC rfl st rfl
 rw[hfit] at hc
 repeat' (first|(simp (disch:=first|omega|assumption|exact bd (by with_unfolding_all rfl)|exact Or.inl rfl|exact Or.inl trivial|exact okL_map _ (fun _=>rfl) _|(simp only[VVlen]<;>omega)|fail) only[O1,VV0,VV1,VV2,VV3,VV4,VV5,VV6,VV7,VV8,VV9,mkFnV,vargs,slotsL,opdsA,Nat.reduceEqDiff,Nat.reduceLT,Nat.reduceAdd,Nat.reduceBEq,Int.reduceAdd,Int.reduceSub,Int.reduceLT,Int.reduceLE,Int.reduceEq,Int.reduceNeg,↓reduceIte,reduceCtorEq,scL,scD,expand,List.replicate,c11])|((first|apply gI_dec|apply gG_dec|apply gPG_dec|apply gI_var|apply gG_var|apply gPG_var)<;>intro _))
 refine callV_flat (hc _) ?_
 repeat' (first|(simp (disch:=first|omega|assumption|exact bd (by with_unfolding_all rfl)|exact Or.inl rfl|exact Or.inl trivial|exact okL_map _ (fun _=>rfl) _|(simp only[VVlen]<;>omega)|fail) only[O1,VV0,VV1,VV2,VV3,VV4,VV5,VV6,VV7,VV8,VV9,mkFnV,vargs,slotsL,opdsA,Nat.reduceEqDiff,Nat.reduceLT,Nat.reduceAdd,Nat.reduceBEq,Int.reduceAdd,Int.reduceSub,Int.reduceLT,Int.reduceLE,Int.reduceEq,Int.reduceNeg,↓reduceIte,reduceCtorEq,scL,scD,expand,List.replicate])|((first|apply gI_dec|apply gG_dec|apply gPG_dec|apply gI_var|apply gG_var|apply gPG_var)<;>intro _))
 refine g_while (fun m fr st=>∃ (y:Nat) (p:V) (acc:ByteArray),m=K - y∧y≤K∧selfP 1 p∧acc.data.toList=planTo B Q y∧fr= [(1,.ptr 0 0),(5,.ptr 1 0),(16,.sc (.int .i64 K)),(17,.sc (.int .i64 y))]∧
  st=⟨[(2,.gro 5 1 false (strD acc)),(1,.box 69 1 [p,.gr 2 2 acc.size]),(0,.box 24 1 [.sc (.int .i64 Q),.sc (.int .i64 K),.sl s B.length (B.map bD)])],3,0⟩) K ?_
  ⟨_,_,weak_nilCell (C:=C) (l:= [.sc (.pointer none),.sc (.slice none 0 0)]) 1 69 1 1 5 1 rfl rfl (fun h=>absurd (show (1:Nat)=2 from h) (by decide)),0,.sc (.pointer none),⟨#[]⟩,rfl,Nat.zero_le _,.inl rfl,rfl,rfl,rfl⟩ ?_
 ·rw[hC,callP_rounds];unfold many;omega
 rintro m fr st ⟨y,p,acc,rfl,hy,hp,ha,rfl,rfl⟩
 have hpl:=plan_len B Q hQ.2 y
 have hasz:acc.size=(planTo B Q y).length:=by rw[← ha];simp
 by_cases hlt:y<K
 case neg=>
  have:y=K:=by omega
  subst this
  have hacc:acc=⟨(planTo B Q y).toArray⟩:=by
   apply ByteArray.ext;apply Array.ext';rw[ha]
  repeat' (first|(simp (disch:=first|omega|assumption|exact bd (by with_unfolding_all rfl)|exact Or.inl rfl|exact Or.inl trivial|exact okL_map _ (fun _=>rfl) _|(simp only[VVlen]<;>omega)|fail) only[O1,VV0,VV1,VV2,VV3,VV4,VV5,VV6,VV7,VV8,VV9,mkFnV,vargs,slotsL,opdsA,Nat.reduceEqDiff,Nat.reduceLT,Nat.reduceAdd,Nat.reduceBEq,Int.reduceAdd,Int.reduceSub,Int.reduceLT,Int.reduceLE,Int.reduceEq,Int.reduceNeg,↓reduceIte,reduceCtorEq,scL,scD,expand,List.replicate,c11l1])|((first|apply gI_dec|apply gG_dec|apply gPG_dec|apply gI_var|apply gG_var|apply gPG_var)<;>intro _))
  refine string_w w (n+3) hC 1 2 p acc rfl rfl (Nat.zero_le _) (Nat.zero_le _) (by omega) fun st' hst=>?_
  rw[hacc]
  repeat' (first|(simp (disch:=first|omega|assumption|exact bd (by with_unfolding_all rfl)|exact Or.inl rfl|exact Or.inl trivial|exact okL_map _ (fun _=>rfl) _|(simp only[VVlen]<;>omega)|fail) only[O1,VV0,VV1,VV2,VV3,VV4,VV5,VV6,VV7,VV8,VV9,mkFnV,vargs,slotsL,opdsA,Nat.reduceEqDiff,Nat.reduceLT,Nat.reduceAdd,Nat.reduceBEq,Int.reduceAdd,Int.reduceSub,Int.reduceLT,Int.reduceLE,Int.reduceEq,Int.reduceNeg,↓reduceIte,reduceCtorEq,scL,scD,expand,List.replicate])|((first|apply gI_dec|apply gG_dec|apply gPG_dec|apply gI_var|apply gG_var|apply gPG_var)<;>intro _))
  exact weak_flat rfl h0 hst
 have hnext:planTo B Q (y+1)=planTo B Q y++rowText (rowOf B Q y) Q:=rfl
 generalize planTo B Q y=T at*
 have hkQ:y*Q+Q≤B.length:=by
  rw[hL,Nat.mul_comm Q K,← Nat.succ_mul];exact Nat.mul_le_mul_right Q hlt
 obtain ⟨P,hP⟩:∃ P,P=y*Q:=⟨_,rfl⟩
 have hP1:(y:Int)*(Q:Int)=(P:Int):=by rw[hP];simp
 have hP2:((y:Int)+1)*(Q:Int)=((P+Q:Nat):Int):=by rw[hP,Int.add_mul];simp
 have hPB:P+Q≤B.length:=by omega
 have e1:P+Q - P=Q:=by omega
 have e2:List.take Q (List.drop P B)=bitsRow B Q y:=by rw[hP];exact part_row B Q y (by rw[Nat.succ_mul];exact hkQ)
 have e3:=bitsRow_len B Q y
 repeat' (first|(simp (disch:=first|omega|assumption|exact bd (by with_unfolding_all rfl)|exact Or.inl rfl|exact Or.inl trivial|exact okL_map _ (fun _=>rfl) _|(simp only[VVlen]<;>omega)|fail) only[O1,VV0,VV1,VV2,VV3,VV4,VV5,VV6,VV7,VV8,VV9,mkFnV,vargs,slotsL,opdsA,Nat.reduceEqDiff,Nat.reduceLT,Nat.reduceAdd,Nat.reduceBEq,Int.reduceAdd,Int.reduceSub,Int.reduceLT,Int.reduceLE,Int.reduceEq,Int.reduceNeg,↓reduceIte,reduceCtorEq,scL,scD,expand,List.replicate,c11l1,hP1,hP2,bD_dv,e1])|((first|apply gI_dec|apply gG_dec|apply gPG_dec|apply gI_var|apply gG_var|apply gPG_var)<;>intro _))
 rw[e2]
 generalize hsk:kindS s=s3 at*
 have hrow:∀ x,x<Q→(bitsRow B Q y)[x]! =rowOf B Q y x:=fun x hx=>row_of B Q y x hx
 generalize bitsRow B Q y=R at*
 generalize rowOf B Q y=r at*
 generalize hG:(0,Obj.box 24 1 [V.sc (.int .i64 Q),V.sc (.int .i64 K),V.sl s B.length (B.map bD)])=G0 at*
 refine g_while (fun m fr st=>∃ x:Nat,m=Q - x∧x≤Q∧∃ lv,fr= [(1,.ptr 0 0),(5,.ptr 1 0),(7,lv),(16,.sc (.int .i64 K)),(17,.sc (.int .i64 y)),(31,.sl s3 Q (R.map bD)),(32,.sc (.int .i64 Q)),(33,.sc (.int .i64 x))]∧
  ((wordsTo r x= []∧lv= .sc (.slice none 0 0)∧st=⟨[(2,.gro 5 1 false (strD acc)),(1,.box 69 1 [p,.gr 2 2 acc.size]),G0],3,0⟩)∨
   (wordsTo r x ≠ []∧lv= .gr 2 3 (wordsTo r x).length∧st=⟨[(3,.gro 9 1 false ((wordsTo r x).map sD)),(2,.gro 5 1 false (strD acc)),(1,.box 69 1 [p,.gr 2 2 acc.size]),G0],4,0⟩))) Q ?_ ⟨_,_,.refl _ _,0,?_⟩ ?_
 ·rw[hC,callP_rounds];unfold many;omega
 ·exact ⟨by omega,by omega,_,rfl,.inl ⟨rfl,rfl,rfl⟩⟩
 rintro m fr st ⟨x,rfl,hx,lv,rfl,hst⟩
 have hll:=line_len r x (by omega)
 have hwl:=words_len r x
 by_cases hlx:x<Q
 ·have hrx:=hrow x hlx
  have hwm:=words_map r x
  have hw0:¬ r x=true→wordsTo r (x+1)=wordsTo r x:=fun h=>by simp[wordsTo,h]
  have hw1:r x=true→(wordsTo r (x+1)).length=(wordsTo r x).length+1:=fun h=>by simp[wordsTo,h]
  have hwn:r x=true→wordsTo r (x+1) ≠ []:=fun h=>by simp[wordsTo,h]
  generalize hW:wordsTo r x=W at*
  generalize hW1:wordsTo r (x+1)=W1 at*
  have hit:∀ st:VSt,VSpecO C.E 32 st [.sc (.int .i64 ((x:Int)+1))] (strV (Lib.itoa ((x:Int)+1))):=fun st=>by rw[hC];exact itoa_s w (n+3) st _ (by omega) (by omega)
  by_cases hb:r x=true
  ·rw[hb] at hrx
   have hwm:=hwm hb
   have hw1:=hw1 hb
   have hwn:=hwn hb
   rcases hst with ⟨hn,rfl,rfl⟩|⟨hn,rfl,rfl⟩
   ·subst hG
    subst hn
    repeat' (first|(simp (disch:=first|omega|assumption|exact bd (by with_unfolding_all rfl)|exact Or.inl rfl|exact Or.inl trivial|exact okL_map _ (fun _=>rfl) _|(simp only[VVlen]<;>omega)|fail) only[O1,VV0,VV1,VV2,VV3,VV4,VV5,VV6,VV7,VV8,VV9,mkFnV,vargs,slotsL,opdsA,Nat.reduceEqDiff,Nat.reduceLT,Nat.reduceAdd,Nat.reduceBEq,Int.reduceAdd,Int.reduceSub,Int.reduceLT,Int.reduceLE,Int.reduceEq,Int.reduceNeg,↓reduceIte,reduceCtorEq,scL,scD,expand,List.replicate,c11l0,bD_dv,hrx])|((first|apply gI_dec|apply gG_dec|apply gPG_dec|apply gI_var|apply gG_var|apply gPG_var)<;>intro _))
    refine callV_flat (hit _) ?_
    repeat' (first|(simp (disch:=first|omega|assumption|exact bd (by with_unfolding_all rfl)|exact Or.inl rfl|exact Or.inl trivial|exact okL_map _ (fun _=>rfl) _|(simp only[VVlen]<;>omega)|fail) only[O1,VV0,VV1,VV2,VV3,VV4,VV5,VV6,VV7,VV8,VV9,mkFnV,vargs,slotsL,opdsA,Nat.reduceEqDiff,Nat.reduceLT,Nat.reduceAdd,Nat.reduceBEq,Int.reduceAdd,Int.reduceSub,Int.reduceLT,Int.reduceLE,Int.reduceEq,Int.reduceNeg,↓reduceIte,reduceCtorEq,scL,scD,expand,List.replicate,sD_dv])|((first|apply gI_dec|apply gG_dec|apply gPG_dec|apply gI_var|apply gG_var|apply gPG_var)<;>intro _))
    refine ⟨_,_,_,by omega,weak_to [(4,3),(2,2),(1,1),(0,0)] 4 h0 rfl rfl rfl rfl,x+1,rfl,hlx,_,rfl,.inr ⟨by rw[hW1];exact hwn,by rw[hW1,hw1];rfl,by rw[hW1,hwm];rcases hp with rfl|rfl<;>rfl⟩⟩
   ·have hwl0:W.length ≠ 0:=fun h=>hn (List.eq_nil_of_length_eq_zero h)
    have hml:(W.map sD).length=W.length:=by rw[List.length_map]
    subst hG
    repeat' (first|(simp (disch:=first|omega|assumption|exact bd (by with_unfolding_all rfl)|exact Or.inl rfl|exact Or.inl trivial|exact okL_map _ (fun _=>rfl) _|(simp only[VVlen]<;>omega)|fail) only[O1,VV0,VV1,VV2,VV3,VV4,VV5,VV6,VV7,VV8,VV9,mkFnV,vargs,slotsL,opdsA,Nat.reduceEqDiff,Nat.reduceLT,Nat.reduceAdd,Nat.reduceBEq,Int.reduceAdd,Int.reduceSub,Int.reduceLT,Int.reduceLE,Int.reduceEq,Int.reduceNeg,↓reduceIte,reduceCtorEq,scL,scD,expand,List.replicate,c11l0,bD_dv,hrx])|((first|apply gI_dec|apply gG_dec|apply gPG_dec|apply gI_var|apply gG_var|apply gPG_var)<;>intro _))
    refine callV_flat (hit _) ?_
    repeat' (first|(simp (disch:=first|omega|assumption|exact bd (by with_unfolding_all rfl)|exact Or.inl rfl|exact Or.inl trivial|exact okL_map _ (fun _=>rfl) _|(simp only[VVlen]<;>omega)|fail) only[O1,VV0,VV1,VV2,VV3,VV4,VV5,VV6,VV7,VV8,VV9,mkFnV,vargs,slotsL,opdsA,Nat.reduceEqDiff,Nat.reduceLT,Nat.reduceAdd,Nat.reduceBEq,Int.reduceAdd,Int.reduceSub,Int.reduceLT,Int.reduceLE,Int.reduceEq,Int.reduceNeg,↓reduceIte,reduceCtorEq,scL,scD,expand,List.replicate,sD_dv])|((first|apply gI_dec|apply gG_dec|apply gPG_dec|apply gI_var|apply gG_var|apply gPG_var)<;>intro _))
    refine ⟨_,_,_,by omega,weak_to [(5,3),(2,2),(1,1),(0,0)] 4 h0 rfl rfl rfl rfl,x+1,rfl,hlx,_,rfl,.inr ⟨by rw[hW1];exact hwn,by rw[hW1,hw1];rfl,by rw[hW1,hwm];rcases hp with rfl|rfl<;>rfl⟩⟩
  ·have hw0:=hw0 hb
   have hb:=Bool.eq_false_iff.2 hb
   rw[hb] at hrx
   subst hG
   rcases hst with ⟨hn,rfl,rfl⟩|⟨hn,rfl,rfl⟩
   ·repeat' (first|(simp (disch:=first|omega|assumption|exact bd (by with_unfolding_all rfl)|exact Or.inl rfl|exact Or.inl trivial|exact okL_map _ (fun _=>rfl) _|(simp only[VVlen]<;>omega)|fail) only[O1,VV0,VV1,VV2,VV3,VV4,VV5,VV6,VV7,VV8,VV9,mkFnV,vargs,slotsL,opdsA,Nat.reduceEqDiff,Nat.reduceLT,Nat.reduceAdd,Nat.reduceBEq,Int.reduceAdd,Int.reduceSub,Int.reduceLT,Int.reduceLE,Int.reduceEq,Int.reduceNeg,↓reduceIte,reduceCtorEq,scL,scD,expand,List.replicate,c11l0,bD_dv,hrx])|((first|apply gI_dec|apply gG_dec|apply gPG_dec|apply gI_var|apply gG_var|apply gPG_var)<;>intro _))
    refine ⟨_,_,_,by omega,.refl _ _,x+1,rfl,hlx,_,rfl,.inl ⟨by rw[hW1,hw0];exact hn,rfl,rfl⟩⟩
   ·repeat' (first|(simp (disch:=first|omega|assumption|exact bd (by with_unfolding_all rfl)|exact Or.inl rfl|exact Or.inl trivial|exact okL_map _ (fun _=>rfl) _|(simp only[VVlen]<;>omega)|fail) only[O1,VV0,VV1,VV2,VV3,VV4,VV5,VV6,VV7,VV8,VV9,mkFnV,vargs,slotsL,opdsA,Nat.reduceEqDiff,Nat.reduceLT,Nat.reduceAdd,Nat.reduceBEq,Int.reduceAdd,Int.reduceSub,Int.reduceLT,Int.reduceLE,Int.reduceEq,Int.reduceNeg,↓reduceIte,reduceCtorEq,scL,scD,expand,List.replicate,c11l0,bD_dv,hrx])|((first|apply gI_dec|apply gG_dec|apply gPG_dec|apply gI_var|apply gG_var|apply gPG_var)<;>intro _))
    refine ⟨_,_,_,by omega,.refl _ _,x+1,rfl,hlx,_,rfl,.inr ⟨by rw[hW1,hw0];exact hn,by rw[hW1,hw0],by rw[hW1,hw0]⟩⟩
 ·have:x=Q:=by omega
  subst this
  have hjl:=line_join r x
  have hln:=line_nil r x
  unfold rowText at hnext
  generalize wordsTo r x=W at*
  generalize lineTo r x=L at*
  rcases hst with ⟨hn,rfl,rfl⟩|⟨hn,rfl,rfl⟩
  ·rw[if_pos (hln.2 hn)] at hnext
   have hj:∀ (st:VSt) (xs:List V),snapL st.own xs=some [.sl 0 1 ([[45]].map sD),.sc (.string ⟨#[32]⟩)]→VSpecO C.E 34 st xs (strV [45]):=fun st xs h1=>by
    rw[hC]
    exact (VSpec.ofO (join_s w (n+3) ⟨[],0,0⟩ 0 (by decide) [[45]] [32] (by decide) (by decide))).flat rfl h1
   have e5:=cat_l [45] [10] (by decide)
   have hsz:(⟨#[45,10]⟩:ByteArray).size=2:=rfl
   subst hG
   repeat' (first|(simp (disch:=first|omega|assumption|exact bd (by with_unfolding_all rfl)|exact Or.inl rfl|exact Or.inl trivial|exact okL_map _ (fun _=>rfl) _|(simp only[VVlen]<;>omega)|fail) only[O1,VV0,VV1,VV2,VV3,VV4,VV5,VV6,VV7,VV8,VV9,mkFnV,vargs,slotsL,opdsA,Nat.reduceEqDiff,Nat.reduceLT,Nat.reduceAdd,Nat.reduceBEq,Int.reduceAdd,Int.reduceSub,Int.reduceLT,Int.reduceLE,Int.reduceEq,Int.reduceNeg,↓reduceIte,reduceCtorEq,scL,scD,expand,List.replicate,c11l0,sD_dv,eqNilS_nil])|((first|apply gI_dec|apply gG_dec|apply gPG_dec|apply gI_var|apply gG_var|apply gPG_var)<;>intro _))
   refine callV_flat (hj _ _ rfl) ?_
   repeat' (first|(simp (disch:=first|omega|assumption|exact bd (by with_unfolding_all rfl)|exact Or.inl rfl|exact Or.inl trivial|exact okL_map _ (fun _=>rfl) _|(simp only[VVlen]<;>omega)|fail) only[O1,VV0,VV1,VV2,VV3,VV4,VV5,VV6,VV7,VV8,VV9,mkFnV,vargs,slotsL,opdsA,Nat.reduceEqDiff,Nat.reduceLT,Nat.reduceAdd,Nat.reduceBEq,Int.reduceAdd,Int.reduceSub,Int.reduceLT,Int.reduceLE,Int.reduceEq,Int.reduceNeg,↓reduceIte,reduceCtorEq,scL,scD,expand,List.replicate,e5])|((first|apply gI_dec|apply gG_dec|apply gPG_dec|apply gI_var|apply gG_var|apply gPG_var)<;>intro _))
   refine writeString_w w (n+1) hC 1 2 p acc _ rfl rfl hp (Nat.zero_le _) (Nat.zero_le _) (by decide) (Nat.ne_of_beq_eq_false rfl) (by rw[hsz];omega) ?_
   repeat' (first|(simp (disch:=first|omega|assumption|exact bd (by with_unfolding_all rfl)|exact Or.inl rfl|exact Or.inl trivial|exact okL_map _ (fun _=>rfl) _|(simp only[VVlen]<;>omega)|fail) only[O1,VV0,VV1,VV2,VV3,VV4,VV5,VV6,VV7,VV8,VV9,mkFnV,vargs,slotsL,opdsA,Nat.reduceEqDiff,Nat.reduceLT,Nat.reduceAdd,Nat.reduceBEq,Int.reduceAdd,Int.reduceSub,Int.reduceLT,Int.reduceLE,Int.reduceEq,Int.reduceNeg,↓reduceIte,reduceCtorEq,scL,scD,expand,List.replicate])|((first|apply gI_dec|apply gG_dec|apply gPG_dec|apply gI_var|apply gG_var|apply gPG_var)<;>intro _))
   refine ⟨_,_,_,by omega,weak_to [(4,2),(1,1),(0,0)] 3 h0 rfl rfl rfl rfl,y+1,.ptr 1 0,acc++⟨#[45,10]⟩,rfl,hlt,.inr rfl,?_,rfl,?_⟩
   ·rw[ByteArray.data_append,Array.toList_append,ha,hnext];rfl
   ·rw[ByteArray.size_append];rfl
  ·rw[if_neg (fun e=>hn (hln.1 e))] at hnext
   have hj:∀ (st:VSt) (xs:List V),snapL st.own xs=some [.sl 2 W.length (W.map sD),.sc (.string ⟨#[32]⟩)]→VSpecO C.E 34 st xs (strV L):=fun st xs h1=>by
    rw[hC,← hjl]
    exact (VSpec.ofO (join_s w (n+3) ⟨[],0,0⟩ 2 (by decide) W [32] (by omega) (by rw[hjl];omega))).flat rfl h1
   have e5:=cat_l L [10] (by simp;omega)
   have hsz:(⟨(L++ [10]).toArray⟩:ByteArray).size=L.length+1:=by simp[ByteArray.size]
   have hwl0:W.length ≠ 0:=fun h=>hn (List.eq_nil_of_length_eq_zero h)
   have hml:(W.map sD).length=W.length:=by rw[List.length_map]
   subst hG
   repeat' (first|(simp (disch:=first|omega|assumption|exact bd (by with_unfolding_all rfl)|exact Or.inl rfl|exact Or.inl trivial|exact okL_map _ (fun _=>rfl) _|(simp only[VVlen]<;>omega)|fail) only[O1,VV0,VV1,VV2,VV3,VV4,VV5,VV6,VV7,VV8,VV9,mkFnV,vargs,slotsL,opdsA,Nat.reduceEqDiff,Nat.reduceLT,Nat.reduceAdd,Nat.reduceBEq,Int.reduceAdd,Int.reduceSub,Int.reduceLT,Int.reduceLE,Int.reduceEq,Int.reduceNeg,↓reduceIte,reduceCtorEq,scL,scD,expand,List.replicate,c11l0,sD_dv,eqNilS_gr])|((first|apply gI_dec|apply gG_dec|apply gPG_dec|apply gI_var|apply gG_var|apply gPG_var)<;>intro _))
   refine callV_flat (hj _ _ ?hs) ?_
   case hs=>
    show (snapV _ (.gr 2 3 W.length)).bind _=_
    rw[snap_grD (o:=3) (t:=9) (z:=false) (l:=W.map sD) rfl hml]
    rfl
   repeat' (first|(simp (disch:=first|omega|assumption|exact bd (by with_unfolding_all rfl)|exact Or.inl rfl|exact Or.inl trivial|exact okL_map _ (fun _=>rfl) _|(simp only[VVlen]<;>omega)|fail) only[O1,VV0,VV1,VV2,VV3,VV4,VV5,VV6,VV7,VV8,VV9,mkFnV,vargs,slotsL,opdsA,Nat.reduceEqDiff,Nat.reduceLT,Nat.reduceAdd,Nat.reduceBEq,Int.reduceAdd,Int.reduceSub,Int.reduceLT,Int.reduceLE,Int.reduceEq,Int.reduceNeg,↓reduceIte,reduceCtorEq,scL,scD,expand,List.replicate,e5])|((first|apply gI_dec|apply gG_dec|apply gPG_dec|apply gI_var|apply gG_var|apply gPG_var)<;>intro _))
   refine writeString_w w (n+1) hC 1 2 p acc _ rfl rfl hp (Nat.zero_le _) (Nat.zero_le _) (by decide) (Nat.ne_of_beq_eq_false rfl) (by rw[hsz];omega) ?_
   repeat' (first|(simp (disch:=first|omega|assumption|exact bd (by with_unfolding_all rfl)|exact Or.inl rfl|exact Or.inl trivial|exact okL_map _ (fun _=>rfl) _|(simp only[VVlen]<;>omega)|fail) only[O1,VV0,VV1,VV2,VV3,VV4,VV5,VV6,VV7,VV8,VV9,mkFnV,vargs,slotsL,opdsA,Nat.reduceEqDiff,Nat.reduceLT,Nat.reduceAdd,Nat.reduceBEq,Int.reduceAdd,Int.reduceSub,Int.reduceLT,Int.reduceLE,Int.reduceEq,Int.reduceNeg,↓reduceIte,reduceCtorEq,scL,scD,expand,List.replicate])|((first|apply gI_dec|apply gG_dec|apply gPG_dec|apply gI_var|apply gG_var|apply gPG_var)<;>intro _))
   refine ⟨_,_,_,by omega,weak_to [(4,2),(1,1),(0,0)] 3 h0 rfl rfl rfl rfl,y+1,.ptr 1 0,acc++⟨(L++ [10]).toArray⟩,rfl,hlt,.inr rfl,?_,rfl,?_⟩
   ·rw[ByteArray.data_append,Array.toList_append,ha,hnext]
   ·rw[ByteArray.size_append];rfl
end
end Go.Proofs.YtepdkmdcainddaaDoor
namespace Go.Proofs.YtepdkmdcainddaaDoor
open Go Go.Itp
set_option maxRecDepth 100000
set_option maxHeartbeats 1000000
set_option linter.unusedSimpArgs false
section
variable (w:World) (n:Nat)
end
end Go.Proofs.YtepdkmdcainddaaDoor
namespace Go.Proofs.YtepdkmdcainddaaDoor
open Go Go.Itp
set_option maxRecDepth 100000
set_option maxHeartbeats 1000000
set_option linter.unusedSimpArgs false
theorem callV_fin {C:Ctx} {st:VSt} {f:FuncId} {xs:List V} {v:V} {Q:V→VSt→Prop} (h:VSpec C.E f xs v ⟨[],0,0⟩) (hs:snapL st.own xs=some xs) (hz:fzSL xs= []) (hv:∀ k,vsh k v=v) (hq:Q v st):CallV C f xs st Q:=by
 refine callV_of h hs (by rw[hz];rfl) rfl ?_
 rw[hz,hv,frozA_none]
 exact hq
end Go.Proofs.YtepdkmdcainddaaDoor
namespace Go.Proofs.YtepdkmdcainddaaDoor
open Go Go.Itp
set_option maxRecDepth 100000
def numA (l:List UInt8):Option Int:=match Lib.atoiAll l with
 | .ok v=>some v
 |_=>none
theorem numA_ok {l:List UInt8} {v:Int} (h:numA l=some v):Lib.atoiAll l= .ok v:=by
 unfold numA at h
 split at h
 ·rename_i u hu;cases h;exact hu
 ·cases h
theorem numA_none {l:List UInt8} (h:numA l=none) (v:Int):Lib.atoiAll l ≠ .ok v:=by
 intro e
 unfold numA at h
 rw[e] at h
 cases h
def setA (n:Nat) (out:List Bool) (x:List UInt8):List Bool:=match numA x with
 |some v=>if 1≤v∧v≤n then out.set (v.toNat - 1) true else out
 |none=>out
def rowP (n:Nat) (x:List UInt8):List Bool:=(words 32 x).foldl (setA n) (List.replicate n false)
def wf (r:Nat→Bool):Nat→Nat→List (List UInt8)
 |_,0=> []
 |k,m+1=>(if r k then [Lib.itoa ((k:Int)+1)] else [])++wf r (k+1) m
end Go.Proofs.YtepdkmdcainddaaDoor
namespace Go.Proofs.YtepdkmdcainddaaDoor
open Go Go.Itp
set_option maxRecDepth 100000
def bitsP (n:Nat) (ls:List (List UInt8)):List Bool:=(ls.map (rowP n)).flatten
def preadF (n:Nat) (s:List UInt8):Option (List Bool × Nat):=
 if s ≠ []∧s.getLast? =some 10∧(words 10 s.dropLast).length≤64∧planTo (bitsP n (words 10 s.dropLast)) n (words 10 s.dropLast).length=s then some (bitsP n (words 10 s.dropLast),(words 10 s.dropLast).length) else none
theorem setA_len (n:Nat) (out:List Bool) (x:List UInt8):(setA n out x).length=out.length:=by
 unfold setA
 split
 ·split<;>simp
 ·rfl
theorem fold_len (n:Nat):∀ (ws:List (List UInt8)) (out:List Bool),(ws.foldl (setA n) out).length=out.length
 | [],_=>rfl
 |x::ws,out=>by rw[List.foldl_cons,fold_len n ws,setA_len]
theorem rowP_len (n:Nat) (x:List UInt8):(rowP n x).length=n:=by unfold rowP;rw[fold_len];simp
theorem flat_len {n:Nat}:∀ (Rs:List (List Bool)),(∀ R ∈ Rs,R.length=n)→Rs.flatten.length=Rs.length*n
 | [],_=>by simp
 |R::Rs,h=>by
  rw[List.flatten_cons,List.length_append,h R (by simp),flat_len Rs fun x hx=>h x (List.mem_cons_of_mem _ hx),List.length_cons,Nat.succ_mul,Nat.add_comm]
end Go.Proofs.YtepdkmdcainddaaDoor
namespace Go.Proofs.YtepdkmdcainddaaDoor
open Go Go.Itp
set_option maxRecDepth 100000
set_option maxHeartbeats 1000000
set_option linter.unusedSimpArgs false
section
variable (w:World) (n:Nat)
theorem indexByteString_o (st:VSt) (l:List UInt8) (c:UInt8):VSpecO (EN w (n+1)) 107 st [strV l,.sc (.int .u8 c.toNat)] (.sc (.int .i64 (idxB c l))):=by
 refine prim_o (ys:= [.string ⟨l.toArray⟩,.int .u8 c.toNat]) (fun s=>?_) rfl
 refine orElse_right rfl (orElse_left ?_)
 show primA .indexByte 0 [.string ⟨l.toArray⟩,.int .u8 c.toNat] s=_
 unfold primA
 simp only[Int.toNat_natCast]
 rw[show c.toNat.toUInt8=c by simp,firstIdxA_l]
theorem indexByte_p (l:List UInt8) (c:UInt8):VSpec (EN w (n+2)) 99 [strV l,.sc (.int .u8 c.toNat)] (.sc (.int .i64 (idxB c l))) ⟨[],0,0⟩:=by
 refine vspec_flat rfl rfl (fun _ _=>rfl) (Nat.le_of_ble_eq_true rfl) (oldVals w) rfl fun C hC h0=>?_
 repeat' (first|(simp (disch:=first|omega|assumption|exact bd (by with_unfolding_all rfl)|exact Or.inl rfl|exact Or.inl trivial|exact okL_map _ (fun _=>rfl) _|(simp only[VVlen]<;>omega)|fail) only[O1,VV0,VV1,VV2,VV3,VV4,VV5,VV6,VV7,VV8,VV9,mkFnV,vargs,slotsL,opdsA,Nat.reduceEqDiff,Nat.reduceLT,Nat.reduceAdd,Nat.reduceBEq,Int.reduceAdd,Int.reduceSub,Int.reduceLT,Int.reduceLE,Int.reduceEq,Int.reduceNeg,↓reduceIte,reduceCtorEq,scL,scD,expand,List.replicate,c99])|((first|apply gI_dec|apply gG_dec|apply gPG_dec|apply gI_var|apply gG_var|apply gPG_var)<;>intro _))
 refine callV_flat (by rw[hC];exact indexByteString_o w n _ l c) ?_
 repeat' (first|(simp (disch:=first|omega|assumption|exact bd (by with_unfolding_all rfl)|exact Or.inl rfl|exact Or.inl trivial|exact okL_map _ (fun _=>rfl) _|(simp only[VVlen]<;>omega)|fail) only[O1,VV0,VV1,VV2,VV3,VV4,VV5,VV6,VV7,VV8,VV9,mkFnV,vargs,slotsL,opdsA,Nat.reduceEqDiff,Nat.reduceLT,Nat.reduceAdd,Nat.reduceBEq,Int.reduceAdd,Int.reduceSub,Int.reduceLT,Int.reduceLE,Int.reduceEq,Int.reduceNeg,↓reduceIte,reduceCtorEq,scL,scD,expand,List.replicate])|((first|apply gI_dec|apply gG_dec|apply gPG_dec|apply gI_var|apply gG_var|apply gPG_var)<;>intro _))
 exact weak_flat rfl h0 rfl
theorem index1_p (l:List UInt8) (c:UInt8) (hl:l.length≤1000000000):VSpec (EN w (n+3)) 89 [strV l,strV [c]] (.sc (.int .i64 (idxB c l))) ⟨[],0,0⟩:=by
 refine vspec_flat rfl rfl (fun _ _=>rfl) (Nat.le_of_ble_eq_true rfl) (oldVals w) rfl fun C hC h0=>?_
 have h1:(ByteArray.mk [c].toArray).size=1:=rfl
 have hlc:((ByteArray.mk [c].toArray)=ByteArray.mk l.toArray)↔l= [c]:=by
  constructor
  ·intro h
   have:=congrArg (fun b:ByteArray=>b.data.toList) h
   simpa using this.symm
  ·rintro rfl;rfl
 by_cases hc:l= [c]
 ·subst hc
  have hi:idxB c [c]=0:=idxB_app (a:= []) [] (by simp)
  rw[hi]
  repeat' (first|(simp (disch:=first|omega|assumption|exact bd (by with_unfolding_all rfl)|exact Or.inl rfl|exact Or.inl trivial|exact okL_map _ (fun _=>rfl) _|(simp only[VVlen]<;>omega)|fail) only[O1,VV0,VV1,VV2,VV3,VV4,VV5,VV6,VV7,VV8,VV9,mkFnV,vargs,slotsL,opdsA,Nat.reduceEqDiff,Nat.reduceLT,Nat.reduceAdd,Nat.reduceBEq,Int.reduceAdd,Int.reduceSub,Int.reduceLT,Int.reduceLE,Int.reduceEq,Int.reduceNeg,↓reduceIte,reduceCtorEq,scL,scD,expand,List.replicate,c89,h1])|((first|apply gI_dec|apply gG_dec|apply gPG_dec|apply gI_var|apply gG_var|apply gPG_var)<;>intro _))
  exact weak_flat rfl h0 rfl
 ·have hb:idxStrV (strV [c]) (.sc (.int .i64 0))=some (.sc (.int .u8 c.toNat)):=by
   rw[idxStr_l _ _ _ (by omega) (by simp)]
   rfl
  repeat' (first|(simp (disch:=first|omega|assumption|exact bd (by with_unfolding_all rfl)|exact Or.inl rfl|exact Or.inl trivial|exact okL_map _ (fun _=>rfl) _|(simp only[VVlen]<;>omega)|fail) only[O1,VV0,VV1,VV2,VV3,VV4,VV5,VV6,VV7,VV8,VV9,mkFnV,vargs,slotsL,opdsA,Nat.reduceEqDiff,Nat.reduceLT,Nat.reduceAdd,Nat.reduceBEq,Int.reduceAdd,Int.reduceSub,Int.reduceLT,Int.reduceLE,Int.reduceEq,Int.reduceNeg,↓reduceIte,reduceCtorEq,scL,scD,expand,List.replicate,c89,h1,hlc,hc,hb])|((first|apply gI_dec|apply gG_dec|apply gPG_dec|apply gI_var|apply gG_var|apply gPG_var)<;>intro _))
  refine callV_flat ((indexByte_p w n l c).of hC rfl _ rfl) ?_
  repeat' (first|(simp (disch:=first|omega|assumption|exact bd (by with_unfolding_all rfl)|exact Or.inl rfl|exact Or.inl trivial|exact okL_map _ (fun _=>rfl) _|(simp only[VVlen]<;>omega)|fail) only[O1,VV0,VV1,VV2,VV3,VV4,VV5,VV6,VV7,VV8,VV9,mkFnV,vargs,slotsL,opdsA,Nat.reduceEqDiff,Nat.reduceLT,Nat.reduceAdd,Nat.reduceBEq,Int.reduceAdd,Int.reduceSub,Int.reduceLT,Int.reduceLE,Int.reduceEq,Int.reduceNeg,↓reduceIte,reduceCtorEq,scL,scD,expand,List.replicate])|((first|apply gI_dec|apply gG_dec|apply gPG_dec|apply gI_var|apply gG_var|apply gPG_var)<;>intro _))
  exact weak_flat rfl h0 rfl
theorem index_p (l:List UInt8) (c:UInt8) (hl:l.length≤1000000000):VSpec (EN w (n+4)) 73 [strV l,strV [c]] (.sc (.int .i64 (idxB c l))) ⟨[],0,0⟩:=by
 refine vspec_flat rfl rfl (fun _ _=>rfl) (Nat.le_of_ble_eq_true rfl) (oldVals w) rfl fun C hC h0=>?_
 repeat' (first|(simp (disch:=first|omega|assumption|exact bd (by with_unfolding_all rfl)|exact Or.inl rfl|exact Or.inl trivial|exact okL_map _ (fun _=>rfl) _|(simp only[VVlen]<;>omega)|fail) only[O1,VV0,VV1,VV2,VV3,VV4,VV5,VV6,VV7,VV8,VV9,mkFnV,vargs,slotsL,opdsA,Nat.reduceEqDiff,Nat.reduceLT,Nat.reduceAdd,Nat.reduceBEq,Int.reduceAdd,Int.reduceSub,Int.reduceLT,Int.reduceLE,Int.reduceEq,Int.reduceNeg,↓reduceIte,reduceCtorEq,scL,scD,expand,List.replicate,c73])|((first|apply gI_dec|apply gG_dec|apply gPG_dec|apply gI_var|apply gG_var|apply gPG_var)<;>intro _))
 refine callV_flat ((index1_p w n l c hl).of hC rfl _ rfl) ?_
 repeat' (first|(simp (disch:=first|omega|assumption|exact bd (by with_unfolding_all rfl)|exact Or.inl rfl|exact Or.inl trivial|exact okL_map _ (fun _=>rfl) _|(simp only[VVlen]<;>omega)|fail) only[O1,VV0,VV1,VV2,VV3,VV4,VV5,VV6,VV7,VV8,VV9,mkFnV,vargs,slotsL,opdsA,Nat.reduceEqDiff,Nat.reduceLT,Nat.reduceAdd,Nat.reduceBEq,Int.reduceAdd,Int.reduceSub,Int.reduceLT,Int.reduceLE,Int.reduceEq,Int.reduceNeg,↓reduceIte,reduceCtorEq,scL,scD,expand,List.replicate])|((first|apply gI_dec|apply gG_dec|apply gPG_dec|apply gI_var|apply gG_var|apply gPG_var)<;>intro _))
 exact weak_flat rfl h0 rfl
end
end Go.Proofs.YtepdkmdcainddaaDoor
namespace Go.Proofs.YtepdkmdcainddaaDoor
open Go Go.Itp
set_option maxRecDepth 100000
set_option maxHeartbeats 1000000
set_option linter.unusedSimpArgs false
abbrev sBox (l:List UInt8):Itp.Obj:= .box 9 1 [strV l]
theorem split_ret (l:List UInt8) (c:UInt8):RetOK [(2,.box 3 1 [.sc (.int .i64 0)]),(1,sBox [c]),(0,sBox l)] (.fn 74 [] [.ptr 1 0,.ptr 0 0,.ptr 2 0]):=by
 refine ⟨?_,fun o t e L h=>?_,fun o ob h=>?_⟩
 ·simp only[Cl,ClL,and_true,true_and]
  exact ⟨⟨_,rfl,rfl⟩,⟨_,rfl,rfl⟩,⟨_,rfl,rfl⟩⟩
 ·simp only[aget_cons,aget_nil] at h
  split at h
  ·cases h;exact ⟨trivial,trivial⟩
  split at h
  ·cases h;exact ⟨trivial,trivial⟩
  split at h
  ·cases h;exact ⟨trivial,trivial⟩
  ·cases h
 ·intro _
  refine VR.root o ?_
  simp only[aget_cons,aget_nil] at h
  simp only[vids,vidsL,List.mem_append,List.mem_cons,List.not_mem_nil,or_false,false_or]
  split at h
  ·omega
  split at h
  ·omega
  split at h
  ·omega
  ·cases h
section
variable (w:World) (n:Nat)
theorem splitSeq0_p (l:List UInt8) (c:UInt8):VSpec (EN w (n+1)) 61 [strV l,strV [c],.sc (.int .i64 0)] (.fn 74 [] [.ptr 1 0,.ptr 0 0,.ptr 2 0]) ⟨[(2,.box 3 1 [.sc (.int .i64 0)]),(1,sBox [c]),(0,sBox l)],3,0⟩:=by
 refine vspec_g rfl rfl (fun _ _=>rfl) (Nat.le_of_ble_eq_true rfl) (oldVals w) (split_ret l c) rfl fun C hC hn=>?_
 repeat' (first|(simp (disch:=first|omega|assumption|exact bd (by with_unfolding_all rfl)|exact Or.inl rfl|exact Or.inl trivial|exact okL_map _ (fun _=>rfl) _|(simp only[VVlen]<;>omega)|fail) only[O1,VV0,VV1,VV2,VV3,VV4,VV5,VV6,VV7,VV8,VV9,mkFnV,vargs,slotsL,opdsA,Nat.reduceEqDiff,Nat.reduceLT,Nat.reduceAdd,Nat.reduceBEq,Int.reduceAdd,Int.reduceSub,Int.reduceLT,Int.reduceLE,Int.reduceEq,Int.reduceNeg,↓reduceIte,reduceCtorEq,scL,scD,expand,List.replicate,c61])|((first|apply gI_dec|apply gG_dec|apply gPG_dec|apply gI_var|apply gG_var|apply gPG_var)<;>intro _))
 exact weak_to [(2,2),(1,1),(0,0)] 3 hn rfl rfl rfl rfl
theorem splitSeq_p (l:List UInt8) (c:UInt8):VSpec (EN w (n+2)) 49 [strV l,strV [c]] (.fn 74 [] [.ptr 1 0,.ptr 0 0,.ptr 2 0]) ⟨[(2,.box 3 1 [.sc (.int .i64 0)]),(1,sBox [c]),(0,sBox l)],3,0⟩:=by
 refine vspec_g rfl rfl (fun _ _=>rfl) (Nat.le_of_ble_eq_true rfl) (oldVals w) (split_ret l c) rfl fun C hC hn=>?_
 repeat' (first|(simp (disch:=first|omega|assumption|exact bd (by with_unfolding_all rfl)|exact Or.inl rfl|exact Or.inl trivial|exact okL_map _ (fun _=>rfl) _|(simp only[VVlen]<;>omega)|fail) only[O1,VV0,VV1,VV2,VV3,VV4,VV5,VV6,VV7,VV8,VV9,mkFnV,vargs,slotsL,opdsA,Nat.reduceEqDiff,Nat.reduceLT,Nat.reduceAdd,Nat.reduceBEq,Int.reduceAdd,Int.reduceSub,Int.reduceLT,Int.reduceLE,Int.reduceEq,Int.reduceNeg,↓reduceIte,reduceCtorEq,scL,scD,expand,List.replicate,c49])|((first|apply gI_dec|apply gG_dec|apply gPG_dec|apply gI_var|apply gG_var|apply gPG_var)<;>intro _))
 refine callV_of (by rw[hC];exact splitSeq0_p w n l c) rfl rfl rfl ?_
 repeat' (first|(simp (disch:=first|omega|assumption|exact bd (by with_unfolding_all rfl)|exact Or.inl rfl|exact Or.inl trivial|exact okL_map _ (fun _=>rfl) _|(simp only[VVlen]<;>omega)|fail) only[O1,VV0,VV1,VV2,VV3,VV4,VV5,VV6,VV7,VV8,VV9,mkFnV,vargs,slotsL,opdsA,Nat.reduceEqDiff,Nat.reduceLT,Nat.reduceAdd,Nat.reduceBEq,Int.reduceAdd,Int.reduceSub,Int.reduceLT,Int.reduceLE,Int.reduceEq,Int.reduceNeg,↓reduceIte,reduceCtorEq,scL,scD,expand,List.replicate,vsh,vshL,shH,shO,fzSL,fzS])|((first|apply gI_dec|apply gG_dec|apply gPG_dec|apply gI_var|apply gG_var|apply gPG_var)<;>intro _))
 exact weak_to [(2,2),(1,1),(0,0)] 3 hn rfl rfl rfl rfl
end
theorem split_iter {C':Ctx} {E:Env} {a b:AC} {fr:VFr} {ps:List Nat} {d oP oS oV:Nat} {c:UInt8} {s:List UInt8} (w:World) (n:Nat) (J:List (List UInt8)→List UInt8→VSt→Prop) (S:VSt→Prop) {P:VPost}
  (hE:C'.E.pcall=(EN w (n+4)).pcall) (hO:C'.E.old=oldOf w) (hr:C'.E.rounds=many) (hl:s.length≤1000000) (hT:∀ xs st Q,RoundV E a b fr ps d xs st Q→CallT C' d xs st Q)
  (hbox:∀ dn r st,J dn r st→aget st.own oS=some (sBox r)∧aget st.own oP=some (sBox [c])∧aget st.own oV=some (.box 3 1 [.sc (.int .i64 0)])∧st.ro≤oS)
  (hround:∀ dn r x ws st (Q:V→VSt→Prop),words c s=dn++words c r→words c r=x::ws→J dn r st→(∀ st',J (dn++ [x]) r st'→Q (.sc (.bool true)) st')→(∀ st',S st'→Q (.sc (.bool false)) st')→RoundV E a b fr ps d [strV x] st Q)
  (hset:∀ dn r r' st,J dn r st→J dn r' ⟨aset st.own oS (sBox r'),st.next,st.ro⟩)
  (hend:∀ fr st r,J (words c s) r st→P .normal fr st) (hstop:∀ ex fr st,(∀ i,ex ≠ .exit i)→S st→P ex fr st) (st0:VSt) (h0:J [] s st0):
  gC C' c74.code [] (vargs 0 [.tok d,.ptr oP 0,.ptr oS 0,.ptr oV 0]) st0 P:=by
 obtain ⟨k1,k2,k3,k4⟩:=hbox _ _ _ h0
 have h1:(ByteArray.mk [c].toArray).size=1:=rfl
 have h1i:((1:Nat):Int)=1:=rfl
 have hidx:∀ (st:VSt) (r:List UInt8),r.length≤1000000→VSpecO C'.E 73 st [strV r,strV [c]] (.sc (.int .i64 (idxB c r))):=fun st r hr=>((index_p w n r c (by omega)).flat rfl rfl).env hE hO
 repeat' (first|(simp (disch:=first|omega|assumption|exact bd (by with_unfolding_all rfl)|exact Or.inl rfl|exact Or.inl trivial|exact okL_map _ (fun _=>rfl) _|(simp only[VVlen]<;>omega)|fail) only[O1,VV0,VV1,VV2,VV3,VV4,VV5,VV6,VV7,VV8,VV9,mkFnV,vargs,slotsL,opdsA,Nat.reduceEqDiff,Nat.reduceLT,Nat.reduceAdd,Nat.reduceBEq,Int.reduceAdd,Int.reduceSub,Int.reduceLT,Int.reduceLE,Int.reduceEq,Int.reduceNeg,↓reduceIte,reduceCtorEq,scL,scD,expand,List.replicate,c74,k2,h1,h1i])|((first|apply gI_dec|apply gG_dec|apply gPG_dec|apply gI_var|apply gG_var|apply gPG_var)<;>intro _))
 all_goals try (exfalso;omega)
 refine g_while (fun m fr st=>∃ dn r,m=r.length∧r.length≤1000000∧words c s=dn++words c r∧J dn r st∧fr= [(0,.tok d),(1,.ptr oP 0),(2,.ptr oS 0),(3,.ptr oV 0)]) s.length ?_ ⟨_,_,weak_akeep [0,1,2,3] rfl,[],s,rfl,hl,rfl,h0,rfl⟩ ?_
 ·rw[hr];unfold many;omega
 rintro _ fr1 st ⟨dn,r,rfl,hrl,hw,hJ,rfl⟩
 obtain ⟨k1,k2,k3,k4⟩:=hbox _ _ _ hJ
 rcases byte_split c r with hf|⟨x,r',rfl,hf⟩
 ·have hi:=idxB_free hf
  repeat' (first|(simp (disch:=first|omega|assumption|exact bd (by with_unfolding_all rfl)|exact Or.inl rfl|exact Or.inl trivial|exact okL_map _ (fun _=>rfl) _|(simp only[VVlen]<;>omega)|fail) only[O1,VV0,VV1,VV2,VV3,VV4,VV5,VV6,VV7,VV8,VV9,mkFnV,vargs,slotsL,opdsA,Nat.reduceEqDiff,Nat.reduceLT,Nat.reduceAdd,Nat.reduceBEq,Int.reduceAdd,Int.reduceSub,Int.reduceLT,Int.reduceLE,Int.reduceEq,Int.reduceNeg,↓reduceIte,reduceCtorEq,scL,scD,expand,List.replicate,c74l0,k1,k2,k3])|((first|apply gI_dec|apply gG_dec|apply gPG_dec|apply gI_var|apply gG_var|apply gPG_var)<;>intro _))
  refine callV_flat (hidx _ r hrl) ?_
  rw[hi]
  repeat' (first|(simp (disch:=first|omega|assumption|exact bd (by with_unfolding_all rfl)|exact Or.inl rfl|exact Or.inl trivial|exact okL_map _ (fun _=>rfl) _|(simp only[VVlen]<;>omega)|fail) only[O1,VV0,VV1,VV2,VV3,VV4,VV5,VV6,VV7,VV8,VV9,mkFnV,vargs,slotsL,opdsA,Nat.reduceEqDiff,Nat.reduceLT,Nat.reduceAdd,Nat.reduceBEq,Int.reduceAdd,Int.reduceSub,Int.reduceLT,Int.reduceLE,Int.reduceEq,Int.reduceNeg,↓reduceIte,reduceCtorEq,scL,scD,expand,List.replicate,k1,k2,k3])|((first|apply gI_dec|apply gG_dec|apply gPG_dec|apply gI_var|apply gG_var|apply gPG_var)<;>intro _))
  all_goals try (exfalso;omega)
  have hwr:=words_free hf
  refine hT _ _ _ (hround dn r r [] st _ hw hwr hJ (fun st' hJ'=>?_) (fun st' hS=>?_))
  ·repeat' (first|(simp (disch:=first|omega|assumption|exact bd (by with_unfolding_all rfl)|exact Or.inl rfl|exact Or.inl trivial|exact okL_map _ (fun _=>rfl) _|(simp only[VVlen]<;>omega)|fail) only[O1,VV0,VV1,VV2,VV3,VV4,VV5,VV6,VV7,VV8,VV9,mkFnV,vargs,slotsL,opdsA,Nat.reduceEqDiff,Nat.reduceLT,Nat.reduceAdd,Nat.reduceBEq,Int.reduceAdd,Int.reduceSub,Int.reduceLT,Int.reduceLE,Int.reduceEq,Int.reduceNeg,↓reduceIte,reduceCtorEq,scL,scD,expand,List.replicate])|((first|apply gI_dec|apply gG_dec|apply gPG_dec|apply gI_var|apply gG_var|apply gPG_var)<;>intro _))
   exact hend _ _ r (by rw[hw,hwr];exact hJ')
  ·repeat' (first|(simp (disch:=first|omega|assumption|exact bd (by with_unfolding_all rfl)|exact Or.inl rfl|exact Or.inl trivial|exact okL_map _ (fun _=>rfl) _|(simp only[VVlen]<;>omega)|fail) only[O1,VV0,VV1,VV2,VV3,VV4,VV5,VV6,VV7,VV8,VV9,mkFnV,vargs,slotsL,opdsA,Nat.reduceEqDiff,Nat.reduceLT,Nat.reduceAdd,Nat.reduceBEq,Int.reduceAdd,Int.reduceSub,Int.reduceLT,Int.reduceLE,Int.reduceEq,Int.reduceNeg,↓reduceIte,reduceCtorEq,scL,scD,expand,List.replicate])|((first|apply gI_dec|apply gG_dec|apply gPG_dec|apply gI_var|apply gG_var|apply gPG_var)<;>intro _))
   exact hstop _ _ _ (fun i h=>by cases h) hS
 ·have hi:=idxB_app r' hf
  have hlen:(x++c::r').length=x.length+r'.length+1:=by simp;omega
  have hwr:=words_app r' hf
  have e1:=slcS_hi (x++c::r') .i64 x.length (by omega) (by rw[hlen];omega)
  have e2:=slcS_lo (x++c::r') .i64 ((x.length:Int)+1) (by omega) (by rw[hlen];omega)
  rw[Int.toNat_natCast,List.take_left] at e1
  rw[show ((x.length:Int)+1).toNat=x.length+1 by omega,show (x++c::r').drop (x.length+1)=r' by rw[← List.drop_drop];simp] at e2
  repeat' (first|(simp (disch:=first|omega|assumption|exact bd (by with_unfolding_all rfl)|exact Or.inl rfl|exact Or.inl trivial|exact okL_map _ (fun _=>rfl) _|(simp only[VVlen]<;>omega)|fail) only[O1,VV0,VV1,VV2,VV3,VV4,VV5,VV6,VV7,VV8,VV9,mkFnV,vargs,slotsL,opdsA,Nat.reduceEqDiff,Nat.reduceLT,Nat.reduceAdd,Nat.reduceBEq,Int.reduceAdd,Int.reduceSub,Int.reduceLT,Int.reduceLE,Int.reduceEq,Int.reduceNeg,↓reduceIte,reduceCtorEq,scL,scD,expand,List.replicate,c74l0,k1,k2,k3])|((first|apply gI_dec|apply gG_dec|apply gPG_dec|apply gI_var|apply gG_var|apply gPG_var)<;>intro _))
  refine callV_flat (hidx _ _ hrl) ?_
  rw[hi]
  repeat' (first|(simp (disch:=first|omega|assumption|exact bd (by with_unfolding_all rfl)|exact Or.inl rfl|exact Or.inl trivial|exact okL_map _ (fun _=>rfl) _|(simp only[VVlen]<;>omega)|fail) only[O1,VV0,VV1,VV2,VV3,VV4,VV5,VV6,VV7,VV8,VV9,mkFnV,vargs,slotsL,opdsA,Nat.reduceEqDiff,Nat.reduceLT,Nat.reduceAdd,Nat.reduceBEq,Int.reduceAdd,Int.reduceSub,Int.reduceLT,Int.reduceLE,Int.reduceEq,Int.reduceNeg,↓reduceIte,reduceCtorEq,scL,scD,expand,List.replicate,k1,k2,k3,e1,Int.add_zero])|((first|apply gI_dec|apply gG_dec|apply gPG_dec|apply gI_var|apply gG_var|apply gPG_var)<;>intro _))
  all_goals try (exfalso;omega)
  refine hT _ _ _ (hround dn _ x (words c r') _ _ hw hwr hJ (fun st' hJ'=>?_) (fun st' hS=>?_))
  ·obtain ⟨k1,k2,k3,k4⟩:=hbox _ _ _ hJ'
   repeat' (first|(simp (disch:=first|omega|assumption|exact bd (by with_unfolding_all rfl)|exact Or.inl rfl|exact Or.inl trivial|exact okL_map _ (fun _=>rfl) _|(simp only[VVlen]<;>omega)|fail) only[O1,VV0,VV1,VV2,VV3,VV4,VV5,VV6,VV7,VV8,VV9,mkFnV,vargs,slotsL,opdsA,Nat.reduceEqDiff,Nat.reduceLT,Nat.reduceAdd,Nat.reduceBEq,Int.reduceAdd,Int.reduceSub,Int.reduceLT,Int.reduceLE,Int.reduceEq,Int.reduceNeg,↓reduceIte,reduceCtorEq,scL,scD,expand,List.replicate,k1,k2,k3,h1,h1i,e2])|((first|apply gI_dec|apply gG_dec|apply gPG_dec|apply gI_var|apply gG_var|apply gPG_var)<;>intro _))
   refine ⟨_,_,_,?_,.refl _ _,dn++ [x],r',rfl,by omega,?_,hset _ _ r' _ hJ',rfl⟩
   ·rw[hlen];omega
   ·rw[hw,hwr];simp
  ·repeat' (first|(simp (disch:=first|omega|assumption|exact bd (by with_unfolding_all rfl)|exact Or.inl rfl|exact Or.inl trivial|exact okL_map _ (fun _=>rfl) _|(simp only[VVlen]<;>omega)|fail) only[O1,VV0,VV1,VV2,VV3,VV4,VV5,VV6,VV7,VV8,VV9,mkFnV,vargs,slotsL,opdsA,Nat.reduceEqDiff,Nat.reduceLT,Nat.reduceAdd,Nat.reduceBEq,Int.reduceAdd,Int.reduceSub,Int.reduceLT,Int.reduceLE,Int.reduceEq,Int.reduceNeg,↓reduceIte,reduceCtorEq,scL,scD,expand,List.replicate])|((first|apply gI_dec|apply gG_dec|apply gPG_dec|apply gI_var|apply gG_var|apply gPG_var)<;>intro _))
   exact hstop _ _ _ (fun i h=>by cases h) hS
end Go.Proofs.YtepdkmdcainddaaDoor
namespace Go.Proofs.YtepdkmdcainddaaDoor
open Go Go.Itp
set_option maxRecDepth 100000
set_option maxHeartbeats 1000000
set_option linter.unusedSimpArgs false
set_option linter.unusedVariables false
section
variable (w:World) (n:Nat)
end
end Go.Proofs.YtepdkmdcainddaaDoor
namespace Go.Proofs.YtepdkmdcainddaaDoor
open Go Go.Itp
set_option maxRecDepth 100000
set_option maxHeartbeats 1000000
set_option linter.unusedSimpArgs false
set_option linter.unusedVariables false
theorem retOK_fin0 {n:Nat} {l:List D}:RetOK [] (.sl 3 n l):=retOK_nil rfl
theorem weak_fin0 {C:Ctx} {st:VSt} {v:V} {s n:Nat} {l:List D} (hs:snapV st.own v=some (.sl s n l)) (hrow:rowsB st.ro st.own (fzS v)=true) (hk:s ≠ 1∨n ≠ 0) (h0:C.w0.nx=0) (hro:st.ro=0):Weak C [(0,v)] st [(0,.sl 3 n l)] ⟨[],0,0⟩:=
 (weak_snap (t:=0) (v:=v) rfl hs hrow).trans ((weak_slot (t:=0) (v:= .sl s n l) (v':= .sl 3 n l) rfl (same_sl3 hk)).trans (weak_to [] 0 h0 hro rfl rfl rfl))
theorem count_words (c:UInt8):∀ (m:Nat) (l:List UInt8),l.length≤m→(words c l).length=Lib.countByte l c+1
 |m,l,hm=>by
  rcases byte_split c l with h|⟨a,r,rfl,h⟩
  ·rw[words_free h]
   unfold Lib.countByte
   rw[List.count_eq_zero_of_not_mem h]
   rfl
  ·rw[words_app r h]
   cases m with
   |zero=>simp at hm
   |succ m=>
    have ih:=count_words c m r (by simp at hm;omega)
    unfold Lib.countByte at ih ⊢
    rw[List.length_cons,ih,List.count_append,List.count_eq_zero_of_not_mem h,List.count_cons_self]
    omega
theorem vslc_hiR (e o k n c:Nat) (j:IntKind) (b:Int) (h0:0≤b) (h1:b≤c) (hc:c<1000000000000) (hc0:c ≠ 0):vslc e none (some (.int j b)) none (.ref o k n c)=some (.ref o k b.toNat c):=by
 have h2:Nat.blt c big=true:=by rw[Nat.blt_eq];unfold big;omega
 have h3:Nat.beq c 0=false:=nbf.2 hc0
 have h4:slcN n c none (some (.int j b)) none=some (0,b.toNat,c,false):=by
  simp only[slcN,knownCap,h2,if_true,bndNat]
  rw[if_pos ⟨h0,h1⟩]
  simp[h3,h2]
 simp only[vslc,h4,Option.map_some]
 simp
def fillS (dn:List (List UInt8)) (N:Nat):List D:=dn.map sD++List.replicate (N - dn.length) (sD [])
theorem fillS_len (dn:List (List UInt8)) (N:Nat) (h:dn.length≤N):(fillS dn N).length=N:=by simp[fillS];omega
theorem fillS_set (dn:List (List UInt8)) (x:List UInt8) (N:Nat) (h:dn.length<N):(fillS dn N).set dn.length (sD x)=fillS (dn++ [x]) N:=by
 unfold fillS
 rw[List.set_append_right _ _ (by simp),List.length_map,Nat.sub_self,show N - dn.length=(N - (dn.length+1))+1 by omega,List.replicate_succ,List.length_append]
 simp
theorem fillS_all (dn:List (List UInt8)) (N:Nat) (h:dn.length=N):fillS dn N=dn.map sD:=by simp[fillS,h]
section
variable (w:World) (n:Nat)
theorem countString_o (st:VSt) (l:List UInt8) (c:UInt8):VSpecO (EN w (n+1)) 88 st [strV l,.sc (.int .u8 c.toNat)] (.sc (.int .i64 (Lib.countByte l c))):=by
 refine prim_o (ys:= [.string ⟨l.toArray⟩,.int .u8 c.toNat]) (fun s=>?_) rfl
 refine orElse_right rfl (orElse_left ?_)
 show primA .count 0 [.string ⟨l.toArray⟩,.int .u8 c.toNat] s=_
 unfold primA
 simp only[Int.toNat_natCast]
 have e:c.toNat.toUInt8=c:=by simp
 rw[Lib.foldl_data,Lib.count_foldl,e]
 simp
theorem count_p (l:List UInt8) (c:UInt8) (hl:l.length≤1000000000):VSpec (EN w (n+2)) 72 [strV l,strV [c]] (.sc (.int .i64 (Lib.countByte l c))) ⟨[],0,0⟩:=by
 refine vspec_flat rfl rfl (fun _ _=>rfl) (Nat.le_of_ble_eq_true rfl) (oldVals w) rfl fun C hC h0=>?_
 have h1:(ByteArray.mk [c].toArray).size=1:=rfl
 have hb:idxStrV (strV [c]) (.sc (.int .i64 0))=some (.sc (.int .u8 c.toNat)):=by
  rw[idxStr_l _ _ _ (by omega) (by simp)]
  rfl
 repeat' (first|(simp (disch:=first|omega|assumption|exact bd (by with_unfolding_all rfl)|exact Or.inl rfl|exact Or.inl trivial|exact okL_map _ (fun _=>rfl) _|(simp only[VVlen]<;>omega)|fail) only[O1,VV0,VV1,VV2,VV3,VV4,VV5,VV6,VV7,VV8,VV9,mkFnV,vargs,slotsL,opdsA,Nat.reduceEqDiff,Nat.reduceLT,Nat.reduceAdd,Nat.reduceBEq,Int.reduceAdd,Int.reduceSub,Int.reduceLT,Int.reduceLE,Int.reduceEq,Int.reduceNeg,↓reduceIte,reduceCtorEq,scL,scD,expand,List.replicate,c72,h1,hb])|((first|apply gI_dec|apply gG_dec|apply gPG_dec|apply gI_var|apply gG_var|apply gPG_var)<;>intro _))
 refine callV_flat (by rw[hC];exact countString_o w n _ l c) ?_
 repeat' (first|(simp (disch:=first|omega|assumption|exact bd (by with_unfolding_all rfl)|exact Or.inl rfl|exact Or.inl trivial|exact okL_map _ (fun _=>rfl) _|(simp only[VVlen]<;>omega)|fail) only[O1,VV0,VV1,VV2,VV3,VV4,VV5,VV6,VV7,VV8,VV9,mkFnV,vargs,slotsL,opdsA,Nat.reduceEqDiff,Nat.reduceLT,Nat.reduceAdd,Nat.reduceBEq,Int.reduceAdd,Int.reduceSub,Int.reduceLT,Int.reduceLE,Int.reduceEq,Int.reduceNeg,↓reduceIte,reduceCtorEq,scL,scD,expand,List.replicate])|((first|apply gI_dec|apply gG_dec|apply gPG_dec|apply gI_var|apply gG_var|apply gPG_var)<;>intro _))
 exact weak_flat rfl h0 rfl
theorem gsplit_p (l:List UInt8) (c:UInt8) (hl:l.length≤1000000):VSpec (EN w (n+5)) 60 [strV l,strV [c],.sc (.int .i64 0),.sc (.int .i64 (-1))] (.sl 3 (words c l).length ((words c l).map sD)) ⟨[],0,0⟩:=by
 refine vspec_g rfl rfl (fun _ _=>rfl) (Nat.le_of_ble_eq_true rfl) (oldVals w) retOK_fin0 rfl fun C hC h0=>?_
 have h1:(ByteArray.mk [c].toArray).size=1:=rfl
 have hne:¬ (ByteArray.mk [c].toArray=ByteArray.mk #[]):=fun h=>by
  have:=congrArg (fun b:ByteArray=>b.data.toList) h
  simp at this
 have hsz:=mk_size l
 have hcw:=count_words c l.length l (Nat.le_refl _)
 have hwl:=(Go.Itp.words_len (c:=c) l.length (s:=l) (Nat.le_refl _)).1
 repeat' (first|(simp (disch:=first|omega|assumption|exact bd (by with_unfolding_all rfl)|exact Or.inl rfl|exact Or.inl trivial|exact okL_map _ (fun _=>rfl) _|(simp only[VVlen]<;>omega)|fail) only[O1,VV0,VV1,VV2,VV3,VV4,VV5,VV6,VV7,VV8,VV9,mkFnV,vargs,slotsL,opdsA,Nat.reduceEqDiff,Nat.reduceLT,Nat.reduceAdd,Nat.reduceBEq,Int.reduceAdd,Int.reduceSub,Int.reduceLT,Int.reduceLE,Int.reduceEq,Int.reduceNeg,↓reduceIte,reduceCtorEq,scL,scD,expand,List.replicate,c60,hne])|((first|apply gI_dec|apply gG_dec|apply gPG_dec|apply gI_var|apply gG_var|apply gPG_var)<;>intro _))
 refine callV_flat ((count_p w (n+2) l c (by omega)).of hC rfl _ rfl) ?_
 generalize hN:Lib.countByte l c=N at*
 have hmin:min ((N:Int)+1) (((ByteArray.mk l.toArray).size:Int)+1)=((N+1:Nat):Int):=by rw[hsz];omega
 have hNs:((N+1:Nat):Int) - 1=(N:Int):=by omega
 have hN1:(((N+1:Nat):Int)).toNat=N+1:=by omega
 have hr0:D.sc (Value.string ⟨#[]⟩)::List.replicate N (D.sc (Value.string ⟨#[]⟩))=fillS [] (N+1):=by simp[fillS,sD,List.replicate_succ]
 repeat' (first|(simp (disch:=first|omega|assumption|exact bd (by with_unfolding_all rfl)|exact Or.inl rfl|exact Or.inl trivial|exact okL_map _ (fun _=>rfl) _|(simp only[VVlen]<;>omega)|fail) only[O1,VV0,VV1,VV2,VV3,VV4,VV5,VV6,VV7,VV8,VV9,mkFnV,vargs,slotsL,opdsA,Nat.reduceEqDiff,Nat.reduceLT,Nat.reduceAdd,Nat.reduceBEq,Int.reduceAdd,Int.reduceSub,Int.reduceLT,Int.reduceLE,Int.reduceEq,Int.reduceNeg,↓reduceIte,reduceCtorEq,scL,scD,expand,List.replicate,mmV_min,hmin,hN1,hNs])|((first|apply gI_dec|apply gG_dec|apply gPG_dec|apply gI_var|apply gG_var|apply gPG_var)<;>intro _))
 rw[hr0]
 refine g_while (fun m fr st=>∃ (dn:List (List UInt8)) (r:List UInt8),m=r.length∧r.length≤1000000∧words c l=dn++words c r∧fr= [(0,strV r),(1,strV [c]),(2,.sc (.int .i64 0)),(3,.sc (.int .i64 N)),(9,.ref 0 0 (N+1) (N+1)),(10,.sc (.int .i64 dn.length))]∧st=⟨[(0,.row 9 1 false false (fillS dn (N+1)))],1,0⟩) l.length ?_ ⟨_,_,.refl _ _,[],l,rfl,hl,rfl,?_,rfl⟩ ?_
 ·rw[hC,callP_rounds];unfold many;omega
 ·simp
 rintro m fr st ⟨dn,r,rfl,hrl,hw,rfl,rfl⟩
 have hdl:dn.length+(words c r).length=N+1:=by rw[← hcw,hw,List.length_append]
 have hfl:=fillS_len dn (N+1) (by omega)
 have hfs:=fillS_set dn r (N+1) (by have:=List.length_pos_iff.2 (words_ne c r);omega)
 rcases byte_split c r with hf|⟨x,r',rfl,hf⟩
 ·have hwr:=words_free hf
  rw[hwr] at hw hdl
  have hd:dn.length=N:=by simpa using hdl
  have hcw':(dn++ [r]).length=N+1:=by simp[hd]
  repeat' (first|(simp (disch:=first|omega|assumption|exact bd (by with_unfolding_all rfl)|exact Or.inl rfl|exact Or.inl trivial|exact okL_map _ (fun _=>rfl) _|(simp only[VVlen]<;>omega)|fail) only[O1,VV0,VV1,VV2,VV3,VV4,VV5,VV6,VV7,VV8,VV9,mkFnV,vargs,slotsL,opdsA,Nat.reduceEqDiff,Nat.reduceLT,Nat.reduceAdd,Nat.reduceBEq,Int.reduceAdd,Int.reduceSub,Int.reduceLT,Int.reduceLE,Int.reduceEq,Int.reduceNeg,↓reduceIte,reduceCtorEq,scL,scD,expand,List.replicate,c60l0])|((first|apply gI_dec|apply gG_dec|apply gPG_dec|apply gI_var|apply gG_var|apply gPG_var)<;>intro _))
  all_goals try (exfalso;omega)
  have hv:=vslc_hiR 1 0 0 (N+1) (N+1) .i64 ((dn.length:Int)+1) (by omega) (by omega) (by omega) (by omega)
  have hvN:((dn.length:Int)+1).toNat=N+1:=by omega
  rw[hvN] at hv
  repeat' (first|(simp (disch:=first|omega|assumption|exact bd (by with_unfolding_all rfl)|exact Or.inl rfl|exact Or.inl trivial|exact okL_map _ (fun _=>rfl) _|(simp only[VVlen]<;>omega)|fail) only[O1,VV0,VV1,VV2,VV3,VV4,VV5,VV6,VV7,VV8,VV9,mkFnV,vargs,slotsL,opdsA,Nat.reduceEqDiff,Nat.reduceLT,Nat.reduceAdd,Nat.reduceBEq,Int.reduceAdd,Int.reduceSub,Int.reduceLT,Int.reduceLE,Int.reduceEq,Int.reduceNeg,↓reduceIte,reduceCtorEq,scL,scD,expand,List.replicate,hv])|((first|apply gI_dec|apply gG_dec|apply gPG_dec|apply gI_var|apply gG_var|apply gPG_var)<;>intro _))
  refine weak_fin0 (s:=0) ?_ rfl (.inl (by decide)) h0 rfl
  rw[show D.sc (Value.string ⟨r.toArray⟩)=sD r from rfl,hfs,fillS_all _ _ (by simp;omega),hw,hcw']
  exact snap_refD rfl (by simp[hd])
 ·have hi:=idxB_app r' hf
  have hwr:=words_app r' hf
  have hlen:(x++c::r').length=x.length+r'.length+1:=by simp;omega
  have hwp:=List.length_pos_iff.2 (words_ne c r')
  have hdN:dn.length<N:=by rw[hwr] at hdl;simp at hdl;omega
  have e1:=slcS_hi (x++c::r') .i64 x.length (by omega) (by rw[hlen];omega)
  have e2:=slcS_lo (x++c::r') .i64 ((x.length:Int)+1) (by omega) (by rw[hlen];omega)
  rw[Int.toNat_natCast,List.take_left] at e1
  rw[show ((x.length:Int)+1).toNat=x.length+1 by omega,show (x++c::r').drop (x.length+1)=r' by rw[← List.drop_drop];simp] at e2
  have h1i:((1:Nat):Int)=1:=rfl
  have hfx:=fillS_set dn x (N+1) (by omega)
  repeat' (first|(simp (disch:=first|omega|assumption|exact bd (by with_unfolding_all rfl)|exact Or.inl rfl|exact Or.inl trivial|exact okL_map _ (fun _=>rfl) _|(simp only[VVlen]<;>omega)|fail) only[O1,VV0,VV1,VV2,VV3,VV4,VV5,VV6,VV7,VV8,VV9,mkFnV,vargs,slotsL,opdsA,Nat.reduceEqDiff,Nat.reduceLT,Nat.reduceAdd,Nat.reduceBEq,Int.reduceAdd,Int.reduceSub,Int.reduceLT,Int.reduceLE,Int.reduceEq,Int.reduceNeg,↓reduceIte,reduceCtorEq,scL,scD,expand,List.replicate,c60l0])|((first|apply gI_dec|apply gG_dec|apply gPG_dec|apply gI_var|apply gG_var|apply gPG_var)<;>intro _))
  refine callV_flat ((index_p w n _ c (by omega)).of hC rfl _ rfl) ?_
  rw[hi]
  repeat' (first|(simp (disch:=first|omega|assumption|exact bd (by with_unfolding_all rfl)|exact Or.inl rfl|exact Or.inl trivial|exact okL_map _ (fun _=>rfl) _|(simp only[VVlen]<;>omega)|fail) only[O1,VV0,VV1,VV2,VV3,VV4,VV5,VV6,VV7,VV8,VV9,mkFnV,vargs,slotsL,opdsA,Nat.reduceEqDiff,Nat.reduceLT,Nat.reduceAdd,Nat.reduceBEq,Int.reduceAdd,Int.reduceSub,Int.reduceLT,Int.reduceLE,Int.reduceEq,Int.reduceNeg,↓reduceIte,reduceCtorEq,scL,scD,expand,List.replicate,h1,h1i,e1,e2,Int.add_zero])|((first|apply gI_dec|apply gG_dec|apply gPG_dec|apply gI_var|apply gG_var|apply gPG_var)<;>intro _))
  all_goals try (exfalso;omega)
  refine ⟨_,_,_,?_,.refl _ _,dn++ [x],r',rfl,by omega,?_,?_,?_⟩
  ·rw[hlen];omega
  ·rw[hw,hwr];simp
  ·simp
  ·rw[← hfx];rfl
theorem split_p (l:List UInt8) (c:UInt8) (hl:l.length≤1000000):VSpec (EN w (n+6)) 48 [strV l,strV [c]] (.sl 3 (words c l).length ((words c l).map sD)) ⟨[],0,0⟩:=by
 refine vspec_g rfl rfl (fun _ _=>rfl) (Nat.le_of_ble_eq_true rfl) (oldVals w) retOK_fin0 rfl fun C hC h0=>?_
 repeat' (first|(simp (disch:=first|omega|assumption|exact bd (by with_unfolding_all rfl)|exact Or.inl rfl|exact Or.inl trivial|exact okL_map _ (fun _=>rfl) _|(simp only[VVlen]<;>omega)|fail) only[O1,VV0,VV1,VV2,VV3,VV4,VV5,VV6,VV7,VV8,VV9,mkFnV,vargs,slotsL,opdsA,Nat.reduceEqDiff,Nat.reduceLT,Nat.reduceAdd,Nat.reduceBEq,Int.reduceAdd,Int.reduceSub,Int.reduceLT,Int.reduceLE,Int.reduceEq,Int.reduceNeg,↓reduceIte,reduceCtorEq,scL,scD,expand,List.replicate,c48])|((first|apply gI_dec|apply gG_dec|apply gPG_dec|apply gI_var|apply gG_var|apply gPG_var)<;>intro _))
 refine callV_fin (by rw[hC];exact gsplit_p w n l c hl) rfl rfl (fun _=>rfl) ?_
 repeat' (first|(simp (disch:=first|omega|assumption|exact bd (by with_unfolding_all rfl)|exact Or.inl rfl|exact Or.inl trivial|exact okL_map _ (fun _=>rfl) _|(simp only[VVlen]<;>omega)|fail) only[O1,VV0,VV1,VV2,VV3,VV4,VV5,VV6,VV7,VV8,VV9,mkFnV,vargs,slotsL,opdsA,Nat.reduceEqDiff,Nat.reduceLT,Nat.reduceAdd,Nat.reduceBEq,Int.reduceAdd,Int.reduceSub,Int.reduceLT,Int.reduceLE,Int.reduceEq,Int.reduceNeg,↓reduceIte,reduceCtorEq,scL,scD,expand,List.replicate])|((first|apply gI_dec|apply gG_dec|apply gPG_dec|apply gI_var|apply gG_var|apply gPG_var)<;>intro _))
 exact weak_to [] 0 h0 rfl rfl rfl rfl
def cutSuf (c:UInt8) (l:List UInt8):List UInt8 × Bool:=if l.getLast? =some c then (l.dropLast,true) else (l,false)
theorem hasSuf_p (l:List UInt8) (c:UInt8) (hl:l.length≤1000000):VSpec (EN w (n+1)) 70 [strV l,strV [c]] (.sc (.bool (decide (l.getLast? =some c)))) ⟨[],0,0⟩:=by
 refine vspec_flat rfl rfl (fun _ _=>rfl) (Nat.le_of_ble_eq_true rfl) (oldVals w) rfl fun C hC h0=>?_
 have h1:(ByteArray.mk [c].toArray).size=1:=rfl
 have h1i:((1:Nat):Int)=1:=rfl
 have hsz:=mk_size l
 by_cases hn:l= []
 ·subst hn
  have h2:(ByteArray.mk ([]:List UInt8).toArray).size=0:=rfl
  repeat' (first|(simp (disch:=first|omega|assumption|exact bd (by with_unfolding_all rfl)|exact Or.inl rfl|exact Or.inl trivial|exact okL_map _ (fun _=>rfl) _|(simp only[VVlen]<;>omega)|fail) only[O1,VV0,VV1,VV2,VV3,VV4,VV5,VV6,VV7,VV8,VV9,mkFnV,vargs,slotsL,opdsA,Nat.reduceEqDiff,Nat.reduceLT,Nat.reduceAdd,Nat.reduceBEq,Int.reduceAdd,Int.reduceSub,Int.reduceLT,Int.reduceLE,Int.reduceEq,Int.reduceNeg,↓reduceIte,reduceCtorEq,scL,scD,expand,List.replicate,c70,h1,h1i,h2])|((first|apply gI_dec|apply gG_dec|apply gPG_dec|apply gI_var|apply gG_var|apply gPG_var)<;>intro _))
  all_goals try (exfalso;omega)
  exact weak_flat rfl h0 rfl
 ·obtain ⟨S,b,rfl⟩:∃ S p,l=S++ [p]:=⟨l.dropLast,l.getLast hn,(List.dropLast_concat_getLast hn).symm⟩
  have hsl:(S++ [b]).length=S.length+1:=by simp
  have e2:=slcS_lo (S++ [b]) .i64 (S.length:Int) (by omega) (by rw[hsl];omega)
  rw[Int.toNat_natCast,List.drop_left] at e2
  have e3:(((ByteArray.mk (S++ [b]).toArray).size:Nat):Int) - 1=(S.length:Int):=by rw[hsz,hsl];omega
  have e4:((S++ [b]).getLast? =some c)=([b]= [c]):=by simp
  rw[show decide ((S++ [b]).getLast? =some c)=decide ([b]= [c]) by congr 1]
  repeat' (first|(simp (disch:=first|omega|assumption|exact bd (by with_unfolding_all rfl)|exact Or.inl rfl|exact Or.inl trivial|exact okL_map _ (fun _=>rfl) _|(simp only[VVlen]<;>omega)|fail) only[O1,VV0,VV1,VV2,VV3,VV4,VV5,VV6,VV7,VV8,VV9,mkFnV,vargs,slotsL,opdsA,Nat.reduceEqDiff,Nat.reduceLT,Nat.reduceAdd,Nat.reduceBEq,Int.reduceAdd,Int.reduceSub,Int.reduceLT,Int.reduceLE,Int.reduceEq,Int.reduceNeg,↓reduceIte,reduceCtorEq,scL,scD,expand,List.replicate,c70,h1,h1i,e3,e2,mk_inj])|((first|apply gI_dec|apply gG_dec|apply gPG_dec|apply gI_var|apply gG_var|apply gPG_var)<;>intro _))
  all_goals try (exfalso;omega)
  exact weak_flat rfl h0 rfl
theorem cutSuf0_p (l:List UInt8) (c:UInt8) (hl:l.length≤1000000):VSpec (EN w (n+2)) 59 [strV l,strV [c]] (.tup [strV (cutSuf c l).1,.sc (.bool (cutSuf c l).2)]) ⟨[],0,0⟩:=by
 refine vspec_flat rfl rfl (fun _ _=>rfl) (Nat.le_of_ble_eq_true rfl) (oldVals w) rfl fun C hC h0=>?_
 have h1:(ByteArray.mk [c].toArray).size=1:=rfl
 have h1i:((1:Nat):Int)=1:=rfl
 have hsz:=mk_size l
 have hs:=(hasSuf_p w n l c hl).of hC rfl
 unfold cutSuf
 by_cases hg:l.getLast? =some c
 ·rw[decide_eq_true hg] at hs
  rw[if_pos hg]
  have hn:l ≠ []:=fun e=>by rw[e] at hg;cases hg
  have hp:=List.length_pos_iff.2 hn
  have e2:=slcS_hi l .i64 ((l.length:Int) - 1) (by omega) (by omega)
  rw[show ((l.length:Int) - 1).toNat=l.length - 1 by omega,← List.dropLast_eq_take] at e2
  have e3:(((ByteArray.mk l.toArray).size:Nat):Int) - 1=(l.length:Int) - 1:=by rw[hsz]
  repeat' (first|(simp (disch:=first|omega|assumption|exact bd (by with_unfolding_all rfl)|exact Or.inl rfl|exact Or.inl trivial|exact okL_map _ (fun _=>rfl) _|(simp only[VVlen]<;>omega)|fail) only[O1,VV0,VV1,VV2,VV3,VV4,VV5,VV6,VV7,VV8,VV9,mkFnV,vargs,slotsL,opdsA,Nat.reduceEqDiff,Nat.reduceLT,Nat.reduceAdd,Nat.reduceBEq,Int.reduceAdd,Int.reduceSub,Int.reduceLT,Int.reduceLE,Int.reduceEq,Int.reduceNeg,↓reduceIte,reduceCtorEq,scL,scD,expand,List.replicate,c59])|((first|apply gI_dec|apply gG_dec|apply gPG_dec|apply gI_var|apply gG_var|apply gPG_var)<;>intro _))
  refine callV_flat (hs _ rfl) ?_
  repeat' (first|(simp (disch:=first|omega|assumption|exact bd (by with_unfolding_all rfl)|exact Or.inl rfl|exact Or.inl trivial|exact okL_map _ (fun _=>rfl) _|(simp only[VVlen]<;>omega)|fail) only[O1,VV0,VV1,VV2,VV3,VV4,VV5,VV6,VV7,VV8,VV9,mkFnV,vargs,slotsL,opdsA,Nat.reduceEqDiff,Nat.reduceLT,Nat.reduceAdd,Nat.reduceBEq,Int.reduceAdd,Int.reduceSub,Int.reduceLT,Int.reduceLE,Int.reduceEq,Int.reduceNeg,↓reduceIte,reduceCtorEq,scL,scD,expand,List.replicate,h1,h1i,e3,e2])|((first|apply gI_dec|apply gG_dec|apply gPG_dec|apply gI_var|apply gG_var|apply gPG_var)<;>intro _))
  exact weak_flat rfl h0 rfl
 ·rw[decide_eq_false hg] at hs
  rw[if_neg hg]
  repeat' (first|(simp (disch:=first|omega|assumption|exact bd (by with_unfolding_all rfl)|exact Or.inl rfl|exact Or.inl trivial|exact okL_map _ (fun _=>rfl) _|(simp only[VVlen]<;>omega)|fail) only[O1,VV0,VV1,VV2,VV3,VV4,VV5,VV6,VV7,VV8,VV9,mkFnV,vargs,slotsL,opdsA,Nat.reduceEqDiff,Nat.reduceLT,Nat.reduceAdd,Nat.reduceBEq,Int.reduceAdd,Int.reduceSub,Int.reduceLT,Int.reduceLE,Int.reduceEq,Int.reduceNeg,↓reduceIte,reduceCtorEq,scL,scD,expand,List.replicate,c59])|((first|apply gI_dec|apply gG_dec|apply gPG_dec|apply gI_var|apply gG_var|apply gPG_var)<;>intro _))
  refine callV_flat (hs _ rfl) ?_
  repeat' (first|(simp (disch:=first|omega|assumption|exact bd (by with_unfolding_all rfl)|exact Or.inl rfl|exact Or.inl trivial|exact okL_map _ (fun _=>rfl) _|(simp only[VVlen]<;>omega)|fail) only[O1,VV0,VV1,VV2,VV3,VV4,VV5,VV6,VV7,VV8,VV9,mkFnV,vargs,slotsL,opdsA,Nat.reduceEqDiff,Nat.reduceLT,Nat.reduceAdd,Nat.reduceBEq,Int.reduceAdd,Int.reduceSub,Int.reduceLT,Int.reduceLE,Int.reduceEq,Int.reduceNeg,↓reduceIte,reduceCtorEq,scL,scD,expand,List.replicate])|((first|apply gI_dec|apply gG_dec|apply gPG_dec|apply gI_var|apply gG_var|apply gPG_var)<;>intro _))
  exact weak_flat rfl h0 rfl
theorem cutSuf_p (l:List UInt8) (c:UInt8) (hl:l.length≤1000000):VSpec (EN w (n+3)) 47 [strV l,strV [c]] (.tup [strV (cutSuf c l).1,.sc (.bool (cutSuf c l).2)]) ⟨[],0,0⟩:=by
 refine vspec_flat rfl rfl (fun _ _=>rfl) (Nat.le_of_ble_eq_true rfl) (oldVals w) rfl fun C hC h0=>?_
 repeat' (first|(simp (disch:=first|omega|assumption|exact bd (by with_unfolding_all rfl)|exact Or.inl rfl|exact Or.inl trivial|exact okL_map _ (fun _=>rfl) _|(simp only[VVlen]<;>omega)|fail) only[O1,VV0,VV1,VV2,VV3,VV4,VV5,VV6,VV7,VV8,VV9,mkFnV,vargs,slotsL,opdsA,Nat.reduceEqDiff,Nat.reduceLT,Nat.reduceAdd,Nat.reduceBEq,Int.reduceAdd,Int.reduceSub,Int.reduceLT,Int.reduceLE,Int.reduceEq,Int.reduceNeg,↓reduceIte,reduceCtorEq,scL,scD,expand,List.replicate,c47])|((first|apply gI_dec|apply gG_dec|apply gPG_dec|apply gI_var|apply gG_var|apply gPG_var)<;>intro _))
 refine callV_flat ((cutSuf0_p w n l c hl).of hC rfl _ rfl) ?_
 repeat' (first|(simp (disch:=first|omega|assumption|exact bd (by with_unfolding_all rfl)|exact Or.inl rfl|exact Or.inl trivial|exact okL_map _ (fun _=>rfl) _|(simp only[VVlen]<;>omega)|fail) only[O1,VV0,VV1,VV2,VV3,VV4,VV5,VV6,VV7,VV8,VV9,mkFnV,vargs,slotsL,opdsA,Nat.reduceEqDiff,Nat.reduceLT,Nat.reduceAdd,Nat.reduceBEq,Int.reduceAdd,Int.reduceSub,Int.reduceLT,Int.reduceLE,Int.reduceEq,Int.reduceNeg,↓reduceIte,reduceCtorEq,scL,scD,expand,List.replicate])|((first|apply gI_dec|apply gG_dec|apply gPG_dec|apply gI_var|apply gG_var|apply gPG_var)<;>intro _))
 exact weak_flat rfl h0 rfl
end
end Go.Proofs.YtepdkmdcainddaaDoor
namespace Go.Proofs.YtepdkmdcainddaaDoor
open Go Go.Itp
set_option maxRecDepth 100000
set_option maxHeartbeats 1000000
set_option linter.unusedSimpArgs false
set_option linter.unusedVariables false
section
variable (w:World) (n:Nat)
end
end Go.Proofs.YtepdkmdcainddaaDoor
namespace Go.Proofs.YtepdkmdcainddaaDoor
open Go Go.Itp
set_option maxRecDepth 100000
set_option maxHeartbeats 2000000
set_option linter.unusedSimpArgs false
set_option linter.unusedVariables false
theorem weak_finT3 {C:Ctx} {st:VSt} {a b x:Value} {v:V} {s n:Nat} {l:List D} (hs:snapV st.own v=some (.sl s n l)) (hrow:rowsB st.ro st.own (fzS v)=true) (hk:s ≠ 1∨n ≠ 0) (h0:C.w0.nx=0) (hro:st.ro=0):Weak C [(0,.tup [.agg [.sc a,.sc b,v],.sc x])] st [(0,.tup [.agg [.sc a,.sc b,.sl 3 n l],.sc x])] ⟨[],0,0⟩:=by
 have e1:fzS (.tup [.agg [.sc a,.sc b,v],.sc x])=fzS v:=by simp[fzS,fzSL]
 have e2:snapV st.own (.tup [.agg [.sc a,.sc b,v],.sc x])=some (.tup [.agg [.sc a,.sc b,.sl s n l],.sc x]):=by simp[snapV,snapL,hs]
 refine (weak_snap (t:=0) (v:= .tup [.agg [.sc a,.sc b,v],.sc x]) rfl e2 (by rw[e1];exact hrow)).trans ?_
 refine (weak_slot (t:=0) (v:= .tup [.agg [.sc a,.sc b,.sl s n l],.sc x]) (v':= .tup [.agg [.sc a,.sc b,.sl 3 n l],.sc x]) rfl (same_tup2 (same_agg3 (same_sl3 hk)))).trans ?_
 exact weak_to [] 0 h0 hro rfl rfl rfl
theorem weak_finT3Nil {C:Ctx} {st:VSt} {a b x:Value} (h0:C.w0.nx=0) (hro:st.ro=0):Weak C [(0,.tup [.agg [.sc a,.sc b,.sc (.slice none 0 0)],.sc x])] st [(0,.tup [.agg [.sc a,.sc b,.sl 3 0 []],.sc x])] ⟨[],0,0⟩:=
 (weak_slot (t:=0) (v:= .tup [.agg [.sc a,.sc b,.sc (.slice none 0 0)],.sc x]) (v':= .tup [.agg [.sc a,.sc b,.sl 3 0 []],.sc x]) rfl (same_tup2 (same_agg3 same_nil3))).trans (weak_to [] 0 h0 hro rfl rfl rfl)
theorem retOK_finT3 {n:Nat} {l:List D} {a b x:Value}:RetOK [] (.tup [.agg [.sc a,.sc b,.sl 3 n l],.sc x]):=retOK_nil (by simp only[Cl,ClL,and_true];exact ⟨trivial,trivial,rfl⟩)
def readV (N:Nat):Option (List Bool × Nat)→V
 |some p=> .tup [gridV 3 N p.2 p.1,.sc (.int .i64 0)]
 |none=> .tup [gridV 3 0 0 [],.sc (.int .i64 12)]
theorem retOK_read (N:Nat) (r:Option (List Bool × Nat)):RetOK [] (readV N r):=by
 cases r<;>exact retOK_finT3
section
variable (w:World) (n:Nat)
end
end Go.Proofs.YtepdkmdcainddaaDoor
