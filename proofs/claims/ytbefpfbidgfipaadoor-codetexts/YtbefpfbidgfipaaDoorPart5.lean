/- What is proved: the law CodeTexts returns true for every input. Conditions: none beyond the card's own.
   Texts: C33VA, S33D, H33V, K33a, K33b, K33c, K33d, K33e, K33f, K33g, K33h, K33i, K33j, K33k, K33m, K33l, K33n, K33r, K33o, K33s, K33t, K33p.
-/
import Derived.Test.YtbefpfbidgfipaaDoorPart4
import Derived.Test.YtbefpfbidgfipaaDoorProg
import Derived.Shelf.Strings.Builder1
import Derived.Shelf.Strings.Builder2
import Derived.Shelf.Strings.OnBuilder
import Derived.Shelf.Strconv.Atoi
import Derived.Shelf.Strconv.Itoa0
import Derived.Shelf.Strconv.Itoa1
import Derived.Shelf.LaysM
import Derived.Shelf.Strconv.Itoa2
import Derived.Shelf.Strconv.Itoa3
import Derived.Shelf.Strconv.AtoiErrFast
import Derived.Shelf.Strconv.ParseIntEmpty
import Derived.Shelf.Strconv.AtoiFail
import Derived.Shelf.Strconv.Clone
import Derived.Shelf.Strconv.SyntaxError
import Derived.Shelf.LaysC
import Derived.Shelf.Strconv.ToError
import Derived.Shelf.Strconv.Lower
import Derived.Shelf.Strconv.ParseUint10
import Derived.Shelf.Strconv.ParseUint10Empty
import Derived.Shelf.Strconv.ParseUint10Any
import Derived.Shelf.Strconv.ParseInt10
import Derived.Shelf.Strconv.AtoiLong
import Derived.Shelf.Strconv.AtoiInnerAll
import Derived.Shelf.Strconv.RangeError
import Derived.Shelf.Strconv.ToErrorRange
import Derived.Shelf.Strconv.AtoiAll
import Derived.Shelf.Strconv.ErrVarAll
import Derived.Shelf.Strings.Search1
import Derived.Shelf.Strings.Search2
import Derived.Shelf.Strings.Search3
import Derived.Shelf.Strings.Cut
import Derived.Shelf.Strings.Count
import Derived.Shelf.Strings.Shaped
import Derived.KernelRfl
import Derived.Lib.Bytealg
import Derived.Lib.AtoiAllCases
namespace Go.Proofs.YtbefpfbidgfipaaDoor
open Go Go.Itp
set_option maxRecDepth 100000
@[reducible] def O1 (d:Nat) (p:AOp):AOper:=⟨some d,none,p⟩
/- raddle/raddlelaw33.CodeTexts -/
def c4:AFun:=⟨.seq (.ops [O1 4 (.mov (.const (.bool false)))] [0,1]) (.seq (.seq (.ops [O1 19 (.mov (.tmp 0)),O1 20 (.callF 12 [.tmp 19]),O1 21 (.mov (.tmp 20)),⟨some 22,some (21,false),.mov (.tmp 1)⟩,⟨some 23,some (21,false),.len true (.tmp 22)⟩,⟨some 24,some (21,false),.bin .gtr (.tmp 23) (.const (.int .i64 5000))⟩,⟨some 25,some (21,false),.mov (.tmp 24)⟩,⟨some 26,some (25,true),.mov (.tmp 1)⟩,⟨some 27,some (25,true),.len true (.tmp 26)⟩,⟨some 28,some (25,true),.bin .leq (.tmp 27) (.const (.int .i64 40000))⟩,⟨some 29,some (21,false),.pick (.tmp 25) (.tmp 28) (.const (.bool false))⟩,O1 30 (.pick (.tmp 21) (.const (.bool true)) (.tmp 29)),O1 31 (.mov (.tmp 30)),⟨some 32,some (31,false),.mov (.tmp 1)⟩,⟨some 33,some (31,false),.len true (.tmp 32)⟩,⟨some 34,some (31,false),.bin .gtr (.tmp 33) (.const (.int .i64 41000))⟩,O1 35 (.pick (.tmp 31) (.const (.bool true)) (.tmp 34))] [0,1,35]) (.cond (.tmp 35) (.seq (.ops [O1 4 (.mov (.const (.bool true)))] [4]) (.ret)) (.skip))) (.seq (.ops [O1 37 (.mov (.tmp 0)),O1 38 (.callF 13 [.tmp 37]),O1 36 (.mov (.tmp 38)),O1 39 (.ext (.tmp 36) 0),O1 40 (.ext (.tmp 36) 1),O1 5 (.mov (.tmp 39)),O1 6 (.mov (.tmp 40))] [0,1,5,6]) (.seq (.ops [O1 42 (.mov (.tmp 0)),O1 43 (.callF 14 [.tmp 42]),O1 41 (.mov (.tmp 43)),O1 44 (.ext (.tmp 41) 0),O1 45 (.ext (.tmp 41) 1),O1 7 (.mov (.tmp 44)),O1 8 (.mov (.tmp 45))] [0,1,5,6,7,8]) (.seq (.ops [O1 47 (.mov (.tmp 1)),O1 48 (.callF 15 [.tmp 47]),O1 46 (.mov (.tmp 48)),O1 49 (.ext (.tmp 46) 0),O1 50 (.ext (.tmp 46) 1),O1 51 (.ext (.tmp 46) 2),O1 9 (.mov (.tmp 49)),O1 10 (.mov (.tmp 50)),O1 11 (.mov (.tmp 51))] [0,1,5,6,7,8,9,10,11]) (.seq (.ops [O1 53 (.mov (.tmp 1)),O1 54 (.callF 16 [.tmp 53]),O1 52 (.mov (.tmp 54)),O1 55 (.ext (.tmp 52) 0),O1 56 (.ext (.tmp 52) 1),O1 57 (.ext (.tmp 52) 2),O1 12 (.mov (.tmp 55)),O1 13 (.mov (.tmp 56)),O1 14 (.mov (.tmp 57))] [0,5,6,7,8,9,10,11,12,13,14]) (.seq (.ops [O1 59 (.mov (.tmp 0)),O1 60 (.callF 17 [.tmp 59]),O1 58 (.mov (.tmp 60)),O1 61 (.ext (.tmp 58) 0),O1 62 (.ext (.tmp 58) 1),O1 15 (.mov (.tmp 61)),O1 16 (.mov (.tmp 62))] [0,5,6,7,8,9,10,11,12,13,14,15,16]) (.seq (.ops [O1 64 (.mov (.tmp 0)),O1 65 (.callF 18 [.tmp 64]),O1 63 (.mov (.tmp 65)),O1 66 (.ext (.tmp 63) 0),O1 67 (.ext (.tmp 63) 1),O1 17 (.mov (.tmp 66)),O1 18 (.mov (.tmp 67))] [5,6,7,8,9,10,11,12,13,14,15,16,17,18]) (.seq (.ops [O1 68 (.mov (.tmp 5)),O1 69 (.mov (.tmp 7)),O1 70 (.bin .eql (.tmp 68) (.tmp 69)),O1 71 (.mov (.tmp 70)),⟨some 72,some (71,true),.mov (.tmp 6)⟩,⟨some 73,some (71,true),.mov (.tmp 8)⟩,⟨some 74,some (71,true),.bin .eql (.tmp 72) (.tmp 73)⟩,O1 75 (.pick (.tmp 71) (.tmp 74) (.const (.bool false))),O1 76 (.mov (.tmp 75)),⟨some 77,some (76,true),.mov (.tmp 9)⟩,⟨some 78,some (76,true),.mov (.tmp 12)⟩,⟨some 79,some (76,true),.callF 19 [(.tmp 77),(.tmp 78)]⟩,O1 80 (.pick (.tmp 76) (.tmp 79) (.const (.bool false))),O1 81 (.mov (.tmp 80)),⟨some 82,some (81,true),.mov (.tmp 10)⟩,⟨some 83,some (81,true),.mov (.tmp 13)⟩,⟨some 84,some (81,true),.bin .eql (.tmp 82) (.tmp 83)⟩,
  O1 85 (.pick (.tmp 81) (.tmp 84) (.const (.bool false))),O1 86 (.mov (.tmp 85)),⟨some 87,some (86,true),.mov (.tmp 11)⟩,⟨some 88,some (86,true),.mov (.tmp 14)⟩,⟨some 89,some (86,true),.bin .eql (.tmp 87) (.tmp 88)⟩,O1 90 (.pick (.tmp 86) (.tmp 89) (.const (.bool false))),O1 91 (.mov (.tmp 90)),⟨some 92,some (91,true),.mov (.tmp 15)⟩,⟨some 93,some (91,true),.mov (.tmp 17)⟩,⟨some 94,some (91,true),.callF 19 [(.tmp 92),(.tmp 93)]⟩,O1 95 (.pick (.tmp 91) (.tmp 94) (.const (.bool false))),O1 96 (.mov (.tmp 95)),⟨some 97,some (96,true),.mov (.tmp 16)⟩,⟨some 98,some (96,true),.mov (.tmp 18)⟩,⟨some 99,some (96,true),.bin .eql (.tmp 97) (.tmp 98)⟩,O1 100 (.pick (.tmp 96) (.tmp 99) (.const (.bool false))),O1 4 (.mov (.tmp 100))] [4]) (.ret))))))))),101,[(4,none)],true⟩
theorem ok4:FunOK Tryd.prog 4 c4:= .code ⟨Tryd.f4,_,c4.code,Tryd.func4,rfl,by kernel_rfl,rfl,by kernel_rfl,by kernel_rfl⟩
/- raddle/code.Line -/
def c8:AFun:=⟨.seq (.ops [O1 1 (.box 23 (.tmp 0)),O1 2 (.mov (.const (.string ⟨#[]⟩))),O1 3 (.mov (.const (.int .i64 0)))] [1]) (.seq (.seq (.ops [O1 5 (.load (some 7) (.tmp 1)),O1 6 (.callF 22 [.tmp 5]),O1 4 (.mov (.tmp 6))] [1,4]) (.seq (.ops [O1 7 (.mov (.tmp 4)),O1 8 (.bin .neq (.tmp 7) (.const (.int .i64 0)))] [1,4,8]) (.cond (.tmp 8) (.seq (.ops [O1 9 (.mov (.tmp 4)),O1 2 (.mov (.const (.string ⟨#[]⟩))),O1 3 (.mov (.tmp 9))] [2,3]) (.ret)) (.skip)))) (.seq (.ops [O1 10 (.load (some 7) (.tmp 1)),O1 11 (.callF 23 [.tmp 10]),O1 2 (.mov (.tmp 11)),O1 3 (.mov (.const (.int .i64 0)))] [2,3]) (.ret))),12,[(2,none),(3,none)],true⟩
theorem ok8:FunOK Tryd.prog 8 c8:= .code ⟨Tryd.f8,_,c8.code,Tryd.func8,rfl,by kernel_rfl,rfl,by kernel_rfl,by kernel_rfl⟩
/- raddle/code.Read -/
def c10l0:AC:= .seq (.ops [O1 33 (.nextS (.tmp 32)),O1 34 (.ext (.tmp 33) 0)] [0,2,5,8,32,33,34]) (.seq (.cond (.tmp 34) (.skip) (.exit 0)) (.block 1 (.seq (.ops [O1 35 (.ext (.tmp 33) 2),O1 10 (.mov (.tmp 35))] [0,2,5,8,10,32]) (.seq (.ops [O1 11 (.mov (.const (.string ⟨#[]⟩)))] [0,2,5,8,10,32]) (.seq (.ops [O1 37 (.mov (.tmp 5)),O1 38 (.callF 26 [(.tmp 37),(.const (.string ⟨#[32]⟩))]),O1 36 (.mov (.tmp 38)),O1 39 (.ext (.tmp 36) 0),O1 40 (.ext (.tmp 36) 1),O1 41 (.ext (.tmp 36) 2),O1 11 (.mov (.tmp 39)),O1 5 (.mov (.tmp 40))] [0,2,5,8,10,11,32]) (.seq (.ops [O1 42 (.mov (.tmp 10))] [0,2,5,8,11,32,42]) (.block 2 (.seq (.ops [O1 44 (.bin .eql (.tmp 42) (.const (.int .i32 100))),O1 43 (.mov (.tmp 44))] [0,2,5,8,11,32,42,43]) (.cond (.tmp 43) (.ops [O1 45 (.mov (.tmp 11)),O1 46 (.bin .eql (.tmp 45) (.const (.string ⟨#[43]⟩))),O1 47 (.fldA 1 (.tmp 8)),⟨none,none,.store 1 (.tmp 47) (.tmp 46)⟩] [0,2,5,8,32]) (.seq (.ops [O1 49 (.bin .eql (.tmp 42) (.const (.int .i32 110))),O1 48 (.mov (.tmp 49))] [0,2,5,8,11,32,42,48]) (.cond (.tmp 48) (.ops [O1 51 (.mov (.tmp 11)),O1 52 (.callF 30 [.tmp 51]),O1 50 (.mov (.tmp 52)),O1 53 (.ext (.tmp 50) 0),O1 54 (.ext (.tmp 50) 1),O1 55 (.fldA 2 (.tmp 8)),⟨none,none,.store 1 (.tmp 55) (.tmp 53)⟩,O1 56 (.fldA 3 (.tmp 8)),⟨none,none,.store 1 (.tmp 56) (.tmp 54)⟩] [0,2,5,8,32]) (.seq (.ops [O1 58 (.bin .eql (.tmp 42) (.const (.int .i32 111))),O1 57 (.mov (.tmp 58))] [0,2,5,8,11,32,42,57]) (.cond (.tmp 57) (.ops [O1 60 (.mov (.tmp 11)),O1 61 (.callF 30 [.tmp 60]),O1 59 (.mov (.tmp 61)),O1 62 (.ext (.tmp 59) 0),O1 63 (.ext (.tmp 59) 1),O1 64 (.fldA 4 (.tmp 8)),⟨none,none,.store 1 (.tmp 64) (.tmp 63)⟩] [0,2,5,8,32]) (.seq (.ops [O1 66 (.bin .eql (.tmp 42) (.const (.int .i32 99))),O1 65 (.mov (.tmp 66))] [0,2,5,8,11,32,42,65]) (.cond (.tmp 65) (.ops [O1 68 (.mov (.tmp 11)),O1 69 (.callF 31 [.tmp 68]),O1 67 (.mov (.tmp 69)),O1 70 (.ext (.tmp 67) 0),O1 71 (.ext (.tmp 67) 1),O1 72 (.fldA 5 (.tmp 8)),⟨none,none,.store 1 (.tmp 72) (.tmp 70)⟩] [0,2,5,8,32]) (.seq (.ops [O1 74 (.bin .eql (.tmp 42) (.const (.int .i32 114))),O1 73 (.mov (.tmp 74))] [0,2,5,8,11,32,73]) (.cond (.tmp 73) (.ops [O1 76 (.mov (.tmp 11)),O1 77 (.callF 31 [.tmp 76]),O1 75 (.mov (.tmp 77)),O1 78 (.ext (.tmp 75) 0),O1 79 (.ext (.tmp 75) 1),O1 80 (.fldA 6 (.tmp 8)),⟨none,none,.store 1 (.tmp 80) (.tmp 78)⟩] [0,2,5,8,32]) (.skip))))))))))))))))))
def c10:AFun:=⟨.seq (.ops [O1 2 (.alloc 23 [(1,(.int .u8 0)),(1,(.bool false)),(1,(.int .u8 0)),(4,(.int .i64 0))]),O1 3 (.mov (.const (.int .i64 0)))] [0,2]) (.seq (.ops [O1 13 (.mov (.tmp 0)),O1 14 (.callF 26 [(.tmp 13),(.const (.string ⟨#[32]⟩))]),O1 12 (.mov (.tmp 14)),O1 15 (.ext (.tmp 12) 0),O1 16 (.ext (.tmp 12) 1),O1 17 (.ext (.tmp 12) 2),O1 4 (.alloc 9 [(1,(.string ⟨#[]⟩))]),⟨none,none,.store 1 (.tmp 4) (.tmp 15)⟩,O1 5 (.mov (.tmp 16)),O1 6 (.mov (.tmp 17))] [0,2,4,5]) (.seq (.ops [O1 18 (.callF 28 []),O1 19 (.mkFn 29 [] [.tmp 4]),O1 20 (.callF 27 [(.tmp 18),(.tmp 19)]),O1 7 (.mov (.tmp 20))] [0,2,5,7]) (.seq (.seq (.ops [O1 21 (.mov (.tmp 7)),O1 22 (.bin .lss (.tmp 21) (.const (.int .i64 1)))] [0,2,5,7,22]) (.cond (.tmp 22) (.seq (.ops [O1 23 (.build [(.int .u8 0),(.bool false),(.int .u8 0),(.int .i64 0),(.int .i64 0),(.int .i64 0),(.int .i64 0)] []),⟨none,none,.store 7 (.tmp 2) (.tmp 23)⟩,O1 3 (.mov (.const (.int .i64 12)))] [2,3]) (.ret)) (.skip))) (.seq (.ops [O1 24 (.mov (.tmp 7)),O1 25 (.convI .u8 (.tmp 24)),O1 26 (.build [(.int .u8 0),(.bool false),(.int .u8 0),(.int .i64 0),(.int .i64 0),(.int .i64 0),(.int .i64 0)] [(0,1,(.tmp 25))]),O1 8 (.alloc 23 [(1,(.int .u8 0)),(1,(.bool false)),(1,(.int .u8 0)),(4,(.int .i64 0))]),⟨none,none,.store 7 (.tmp 8) (.tmp 26)⟩] [0,2,5,7,8]) (.seq (.seq (.ops [O1 27 (.callF 28 []),O1 28 (.mov (.tmp 7)),O1 29 (.idxS 2 (.tmp 27) (.tmp 28)),O1 30 (.fldA 1 (.tmp 29)),O1 31 (.load none (.tmp 30)),O1 32 (.rangeS (.tmp 31))] [0,2,5,8,32]) (.block 0 (.loop [0,2,5,8,32] c10l0))) (.seq (.seq (.ops [O1 81 (.load (some 7) (.tmp 8)),O1 82 (.callF 22 [.tmp 81]),O1 83 (.bin .neq (.tmp 82) (.const (.int .i64 0))),O1 84 (.mov (.tmp 83)),⟨some 85,some (84,false),.load (some 7) (.tmp 8)⟩,⟨some 86,some (84,false),.callF 23 [.tmp 85]⟩,⟨some 87,some (84,false),.mov (.tmp 0)⟩,⟨some 88,some (84,false),.bin .neq (.tmp 86) (.tmp 87)⟩,O1 89 (.pick (.tmp 84) (.const (.bool true)) (.tmp 88))] [2,8,89]) (.cond (.tmp 89) (.seq (.ops [O1 90 (.build [(.int .u8 0),(.bool false),(.int .u8 0),(.int .i64 0),(.int .i64 0),(.int .i64 0),(.int .i64 0)] []),⟨none,none,.store 7 (.tmp 2) (.tmp 90)⟩,O1 3 (.mov (.const (.int .i64 12)))] [2,3]) (.ret)) (.skip))) (.seq (.ops [O1 91 (.load (some 7) (.tmp 8)),⟨none,none,.store 7 (.tmp 2) (.tmp 91)⟩,O1 3 (.mov (.const (.int .i64 0)))] [2,3]) (.ret)))))))),92,[(2,(some (some 7))),(3,none)],true⟩
theorem ok10:FunOK Tryd.prog 10 c10:= .code ⟨Tryd.f10,_,c10.code,Tryd.func10,rfl,by kernel_rfl,rfl,by kernel_rfl,by kernel_rfl⟩
/- raddle/raddleref33.Read -/
def c11l0:AC:= .seq (.seq (.ops [O1 16 (.mov (.tmp 6)),O1 17 (.bin .lss (.tmp 16) (.const (.int .u8 10)))] [0,2,4,5,6,17]) (.cond (.tmp 17) (.skip) (.exit 0))) (.seq (.block 1 (.seq (.draw [O1 20 (.mov (.tmp 6)),O1 21 (.callF 33 [.tmp 20]),O1 22 (.mov (.tmp 4)),O1 23 (.idxS 1 (.tmp 22) (.const (.int .i64 0))),O1 24 (.load none (.tmp 23))] [O1 25 (.bin .eql (.tmp 21) (.tmp 24))] [[],[],[false,false],[true,false,false],[true,true,false,false]] [0,2,4,5,6,25]) (.cond (.tmp 25) (.ops [O1 26 (.mov (.tmp 6)),O1 27 (.fldA 0 (.tmp 5)),⟨none,none,.store 1 (.tmp 27) (.tmp 26)⟩] [0,2,4,5,6]) (.skip)))) (.ops [O1 18 (.mov (.tmp 6)),O1 19 (.bin .add (.tmp 18) (.const (.int .u8 1))),O1 6 (.mov (.tmp 19))] [0,2,4,5,6]))
def c11:AFun:=⟨.seq (.ops [O1 2 (.alloc 23 [(1,(.int .u8 0)),(1,(.bool false)),(1,(.int .u8 0)),(4,(.int .i64 0))]),O1 3 (.mov (.const (.int .i64 0)))] [0,2]) (.seq (.seq (.ops [O1 10 (.mov (.tmp 0)),O1 11 (.len true (.tmp 10)),O1 12 (.bin .gtr (.tmp 11) (.const (.int .i64 40)))] [0,2,12]) (.cond (.tmp 12) (.seq (.ops [O1 13 (.build [(.int .u8 0),(.bool false),(.int .u8 0),(.int .i64 0),(.int .i64 0),(.int .i64 0),(.int .i64 0)] []),⟨none,none,.store 7 (.tmp 2) (.tmp 13)⟩,O1 3 (.mov (.const (.int .i64 12)))] [2,3]) (.ret)) (.skip))) (.seq (.ops [O1 14 (.mov (.tmp 0)),O1 15 (.callF 32 [(.tmp 14),(.const (.int .u8 32))]),O1 4 (.mov (.tmp 15))] [0,2,4]) (.seq (.ops [O1 5 (.alloc 23 [(1,(.int .u8 0)),(1,(.bool false)),(1,(.int .u8 0)),(4,(.int .i64 0))])] [0,2,4,5]) (.seq (.seq (.ops [O1 6 (.mov (.const (.int .u8 1)))] [0,2,4,5,6]) (.block 0 (.loop [0,2,4,5,6] c11l0))) (.seq (.ops [O1 7 (.mov (.const (.int .i64 1)))] [0,2,4,5,7]) (.seq (.seq (.ops [O1 28 (.fldA 0 (.tmp 5)),O1 29 (.load none (.tmp 28)),O1 30 (.bin .geq (.tmp 29) (.const (.int .u8 3))),O1 31 (.mov (.tmp 30)),⟨some 32,some (31,true),.fldA 0 (.tmp 5)⟩,⟨some 33,some (31,true),.load none (.tmp 32)⟩,⟨some 34,some (31,true),.bin .leq (.tmp 33) (.const (.int .u8 6))⟩,O1 35 (.pick (.tmp 31) (.tmp 34) (.const (.bool false))),O1 36 (.mov (.tmp 35)),⟨some 37,some (36,true),.mov (.tmp 4)⟩,⟨some 38,some (36,true),.len false (.tmp 37)⟩,⟨some 39,some (36,true),.bin .gtr (.tmp 38) (.const (.int .i64 1))⟩,O1 40 (.pick (.tmp 36) (.tmp 39) (.const (.bool false)))] [0,2,4,5,7,40]) (.cond (.tmp 40) (.seq (.ops [O1 41 (.mov (.tmp 4)),O1 42 (.idxS 1 (.tmp 41) (.const (.int .i64 1))),O1 43 (.load none (.tmp 42)),O1 44 (.bin .eql (.tmp 43) (.const (.string ⟨#[43]⟩))),O1 45 (.fldA 1 (.tmp 5)),⟨none,none,.store 1 (.tmp 45) (.tmp 44)⟩] [0,2,4,5]) (.ops [O1 7 (.mov (.const (.int .i64 2)))] [0,2,4,5,7])) (.skip))) (.seq (.seq (.ops [O1 46 (.fldA 0 (.tmp 5)),O1 47 (.load none (.tmp 46)),O1 48 (.bin .geq (.tmp 47) (.const (.int .u8 3))),O1 49 (.mov (.tmp 48)),⟨some 50,some (49,true),.fldA 0 (.tmp 5)⟩,⟨some 51,some (49,true),.load none (.tmp 50)⟩,⟨some 52,some (49,true),.bin .neq (.tmp 51) (.const (.int .u8 8))⟩,O1 53 (.pick (.tmp 49) (.tmp 52) (.const (.bool false))),O1 54 (.mov (.tmp 53)),⟨some 55,some (54,true),.mov (.tmp 4)⟩,⟨some 56,some (54,true),.len false (.tmp 55)⟩,⟨some 57,some (54,true),.mov (.tmp 7)⟩,⟨some 58,some (54,true),.bin .gtr (.tmp 56) (.tmp 57)⟩,O1 59 (.pick (.tmp 54) (.tmp 58) (.const (.bool false)))] [0,2,4,5,7,59]) (.cond (.tmp 59) (.seq (.ops [O1 61 (.mov (.tmp 4)),O1 62 (.mov (.tmp 7)),O1 63 (.idxS 1 (.tmp 61) (.tmp 62)),O1 64 (.load none (.tmp 63)),O1 65 (.callF 34 [.tmp 64]),O1 60 (.mov (.tmp 65)),O1 66 (.ext (.tmp 60) 0),O1 67 (.ext (.tmp 60) 1),O1 68 (.ext (.tmp 60) 2),O1 69 (.fldA 2 (.tmp 5)),⟨none,none,.store 1 (.tmp 69) (.tmp 66)⟩,O1 70 (.fldA 3 (.tmp 5)),⟨none,none,.store 1 (.tmp 70) (.tmp 67)⟩] [0,2,4,5,7]) (.ops [O1 71 (.mov (.tmp 7)),O1 72 (.bin .add (.tmp 71) (.const (.int .i64 1))),
  O1 7 (.mov (.tmp 72))] [0,2,4,5,7])) (.skip))) (.seq (.seq (.ops [O1 73 (.fldA 0 (.tmp 5)),O1 74 (.load none (.tmp 73)),O1 75 (.bin .eql (.tmp 74) (.const (.int .u8 6))),O1 76 (.mov (.tmp 75)),⟨some 77,some (76,false),.fldA 0 (.tmp 5)⟩,⟨some 78,some (76,false),.load none (.tmp 77)⟩,⟨some 79,some (76,false),.bin .eql (.tmp 78) (.const (.int .u8 7))⟩,O1 80 (.pick (.tmp 76) (.const (.bool true)) (.tmp 79)),O1 81 (.mov (.tmp 80)),⟨some 82,some (81,true),.mov (.tmp 4)⟩,⟨some 83,some (81,true),.len false (.tmp 82)⟩,⟨some 84,some (81,true),.mov (.tmp 7)⟩,⟨some 85,some (81,true),.bin .gtr (.tmp 83) (.tmp 84)⟩,O1 86 (.pick (.tmp 81) (.tmp 85) (.const (.bool false)))] [0,2,4,5,7,86]) (.cond (.tmp 86) (.seq (.ops [O1 88 (.mov (.tmp 4)),O1 89 (.mov (.tmp 7)),O1 90 (.idxS 1 (.tmp 88) (.tmp 89)),O1 91 (.load none (.tmp 90)),O1 92 (.callF 34 [.tmp 91]),O1 87 (.mov (.tmp 92)),O1 93 (.ext (.tmp 87) 0),O1 94 (.ext (.tmp 87) 1),O1 95 (.ext (.tmp 87) 2),O1 96 (.fldA 4 (.tmp 5)),⟨none,none,.store 1 (.tmp 96) (.tmp 94)⟩] [0,2,4,5,7]) (.ops [O1 97 (.mov (.tmp 7)),O1 98 (.bin .add (.tmp 97) (.const (.int .i64 1))),O1 7 (.mov (.tmp 98))] [0,2,4,5,7])) (.skip))) (.seq (.seq (.ops [O1 99 (.fldA 0 (.tmp 5)),O1 100 (.load none (.tmp 99)),O1 101 (.bin .neq (.tmp 100) (.const (.int .u8 7))),O1 102 (.mov (.tmp 101)),⟨some 103,some (102,true),.fldA 0 (.tmp 5)⟩,⟨some 104,some (102,true),.load none (.tmp 103)⟩,⟨some 105,some (102,true),.bin .neq (.tmp 104) (.const (.int .u8 9))⟩,O1 106 (.pick (.tmp 102) (.tmp 105) (.const (.bool false))),O1 107 (.mov (.tmp 106)),⟨some 108,some (107,true),.mov (.tmp 4)⟩,⟨some 109,some (107,true),.len false (.tmp 108)⟩,⟨some 110,some (107,true),.mov (.tmp 7)⟩,⟨some 111,some (107,true),.bin .gtr (.tmp 109) (.tmp 110)⟩,O1 112 (.pick (.tmp 107) (.tmp 111) (.const (.bool false)))] [0,2,4,5,7,112]) (.cond (.tmp 112) (.seq (.ops [O1 114 (.mov (.tmp 4)),O1 115 (.mov (.tmp 7)),O1 116 (.idxS 1 (.tmp 114) (.tmp 115)),O1 117 (.load none (.tmp 116)),O1 118 (.callF 35 [.tmp 117]),O1 113 (.mov (.tmp 118)),O1 119 (.ext (.tmp 113) 0),O1 120 (.ext (.tmp 113) 1),O1 8 (.mov (.tmp 119)),O1 9 (.mov (.tmp 120))] [0,2,5,8]) (.seq (.ops [O1 121 (.fldA 0 (.tmp 5)),O1 122 (.load none (.tmp 121)),O1 123 (.bin .eql (.tmp 122) (.const (.int .u8 8)))] [0,2,5,8,123]) (.cond (.tmp 123) (.ops [O1 124 (.mov (.tmp 8)),O1 125 (.fldA 6 (.tmp 5)),⟨none,none,.store 1 (.tmp 125) (.tmp 124)⟩] [0,2,5]) (.ops [O1 126 (.mov (.tmp 8)),O1 127 (.fldA 5 (.tmp 5)),⟨none,none,.store 1 (.tmp 127) (.tmp 126)⟩] [0,2,5])))) (.skip))) (.seq (.seq (.ops [O1 128 (.load (some 7) (.tmp 5)),O1 129 (.callF 24 [.tmp 128]),O1 130 (.bin .neq (.tmp 129) (.const (.int .i64 0))),O1 131 (.mov (.tmp 130)),⟨some 132,some (131,false),.load (some 7) (.tmp 5)⟩,⟨some 133,some (131,false),.callF 25 [.tmp 132]⟩,⟨some 134,some (131,false),.mov (.tmp 0)⟩,⟨some 135,some (131,false),.bin .neq (.tmp 133) (.tmp 134)⟩,O1 136 (.pick (.tmp 131) (.const (.bool true)) (.tmp 135))] [2,5,136]) (.cond (.tmp 136) (.seq (.ops [O1 137 (.build [(.int .u8 0),(.bool false),(.int .u8 0),(.int .i64 0),(.int .i64 0),(.int .i64 0),(.int .i64 0)] []),
  ⟨none,none,.store 7 (.tmp 2) (.tmp 137)⟩,O1 3 (.mov (.const (.int .i64 12)))] [2,3]) (.ret)) (.skip))) (.seq (.ops [O1 138 (.load (some 7) (.tmp 5)),⟨none,none,.store 7 (.tmp 2) (.tmp 138)⟩,O1 3 (.mov (.const (.int .i64 0)))] [2,3]) (.ret)))))))))))),139,[(2,(some (some 7))),(3,none)],true⟩
theorem ok11:FunOK Tryd.prog 11 c11:= .code ⟨Tryd.f11,_,c11.code,Tryd.func11,rfl,by kernel_rfl,rfl,by kernel_rfl,by kernel_rfl⟩
/- raddle/raddleref30.Long -/
def c12:AFun:=⟨.seq (.ops [O1 2 (.mov (.const (.bool false)))] [0]) (.seq (.ops [O1 3 (.mov (.tmp 0)),O1 4 (.len false (.tmp 3)),O1 5 (.bin .gtr (.tmp 4) (.const (.int .i64 300))),O1 6 (.mov (.tmp 5)),⟨some 7,some (6,true),.mov (.tmp 0)⟩,⟨some 8,some (6,true),.len false (.tmp 7)⟩,⟨some 9,some (6,true),.bin .leq (.tmp 8) (.const (.int .i64 2000))⟩,O1 10 (.pick (.tmp 6) (.tmp 9) (.const (.bool false))),O1 11 (.mov (.tmp 10)),⟨some 12,some (11,false),.mov (.tmp 0)⟩,⟨some 13,some (11,false),.len false (.tmp 12)⟩,⟨some 14,some (11,false),.bin .gtr (.tmp 13) (.const (.int .i64 2100))⟩,O1 15 (.pick (.tmp 11) (.const (.bool true)) (.tmp 14)),O1 2 (.mov (.tmp 15))] [2]) (.ret)),16,[(2,none)],true⟩
theorem ok12:FunOK Tryd.prog 12 c12:= .code ⟨Tryd.f12,_,c12.code,Tryd.func12,rfl,by kernel_rfl,rfl,by kernel_rfl,by kernel_rfl⟩
/- raddle/code.Text -/
def c13l0:AC:= .seq (.ops [O1 15 (.bin .lss (.tmp 14) (.tmp 13))] [4,12,13,14,15]) (.seq (.cond (.tmp 15) (.skip) (.exit 0)) (.seq (.block 1 (.seq (.ops [O1 16 (.idxS 7 (.tmp 12) (.tmp 14)),O1 17 (.load (some 7) (.tmp 16)),O1 6 (.alloc 23 [(1,(.int .u8 0)),(1,(.bool false)),(1,(.int .u8 0)),(4,(.int .i64 0))]),⟨none,none,.store 7 (.tmp 6) (.tmp 17)⟩] [4,6,12,13,14]) (.seq (.ops [O1 19 (.load (some 7) (.tmp 6)),O1 20 (.callF 8 [.tmp 19]),O1 18 (.mov (.tmp 20)),O1 21 (.ext (.tmp 18) 0),O1 22 (.ext (.tmp 18) 1),O1 7 (.mov (.tmp 21)),O1 8 (.mov (.tmp 22))] [4,7,8,12,13,14]) (.seq (.seq (.ops [O1 23 (.mov (.tmp 8)),O1 24 (.bin .neq (.tmp 23) (.const (.int .i64 0)))] [4,7,8,12,13,14,24]) (.cond (.tmp 24) (.seq (.ops [O1 25 (.mov (.tmp 8)),O1 2 (.mov (.const (.string ⟨#[]⟩))),O1 3 (.mov (.tmp 25))] [2,3]) (.ret)) (.skip))) (.ops [O1 26 (.mov (.tmp 7)),O1 27 (.bin .add (.tmp 26) (.const (.string ⟨#[10]⟩))),O1 28 (.callF 36 [(.tmp 4),(.tmp 27)])] [4,12,13,14]))))) (.ops [O1 29 (.bin .add (.tmp 14) (.const (.int .i64 1))),O1 14 (.mov (.tmp 29))] [4,12,13,14])))
def c13:AFun:=⟨.seq (.ops [O1 2 (.mov (.const (.string ⟨#[]⟩))),O1 3 (.mov (.const (.int .i64 0)))] [0]) (.seq (.seq (.ops [O1 9 (.mov (.tmp 0)),O1 10 (.len false (.tmp 9)),O1 11 (.bin .gtr (.tmp 10) (.const (.int .i64 2000)))] [0,11]) (.cond (.tmp 11) (.seq (.ops [O1 2 (.mov (.const (.string ⟨#[]⟩))),O1 3 (.mov (.const (.int .i64 4)))] [2,3]) (.ret)) (.skip))) (.seq (.ops [O1 4 (.alloc 77 [(1,(.pointer none)),(1,(.slice none 0 0))])] [0,4]) (.seq (.seq (.ops [O1 12 (.mov (.tmp 0)),O1 13 (.len false (.tmp 12)),O1 14 (.mov (.const (.int .i64 0)))] [4,12,13,14]) (.block 0 (.loop [4,12,13,14] c13l0))) (.seq (.seq (.ops [O1 30 (.callF 37 [.tmp 4]),O1 31 (.bin .gtr (.tmp 30) (.const (.int .i64 40000)))] [4,31]) (.cond (.tmp 31) (.seq (.ops [O1 2 (.mov (.const (.string ⟨#[]⟩))),O1 3 (.mov (.const (.int .i64 4)))] [2,3]) (.ret)) (.skip))) (.seq (.ops [O1 32 (.callF 38 [.tmp 4]),O1 2 (.mov (.tmp 32)),O1 3 (.mov (.const (.int .i64 0)))] [2,3]) (.ret)))))),33,[(2,none),(3,none)],true⟩
theorem ok13:FunOK Tryd.prog 13 c13:= .code ⟨Tryd.f13,_,c13.code,Tryd.func13,rfl,by kernel_rfl,rfl,by kernel_rfl,by kernel_rfl⟩
/- raddle/raddleref33.Text -/
def c14l0:AC:= .seq (.seq (.ops [O1 9 (.mov (.tmp 5)),O1 10 (.mov (.tmp 0)),O1 11 (.len false (.tmp 10)),O1 12 (.bin .lss (.tmp 9) (.tmp 11))] [0,4,5,12]) (.cond (.tmp 12) (.skip) (.exit 0))) (.seq (.block 1 (.seq (.seq (.ops [O1 15 (.mov (.tmp 0)),O1 16 (.mov (.tmp 5)),O1 17 (.idxS 7 (.tmp 15) (.tmp 16)),O1 18 (.load (some 7) (.tmp 17)),O1 19 (.callF 24 [.tmp 18]),O1 20 (.bin .neq (.tmp 19) (.const (.int .i64 0)))] [0,4,5,20]) (.cond (.tmp 20) (.seq (.ops [O1 2 (.mov (.const (.string ⟨#[]⟩))),O1 3 (.mov (.const (.int .i64 8)))] [2,3]) (.ret)) (.skip))) (.ops [O1 21 (.mov (.tmp 4)),O1 22 (.mov (.tmp 0)),O1 23 (.mov (.tmp 5)),O1 24 (.idxS 7 (.tmp 22) (.tmp 23)),O1 25 (.load (some 7) (.tmp 24)),O1 26 (.callF 25 [.tmp 25]),O1 27 (.bin .add (.tmp 21) (.tmp 26)),O1 28 (.bin .add (.tmp 27) (.const (.string ⟨#[10]⟩))),O1 4 (.mov (.tmp 28))] [0,4,5]))) (.ops [O1 13 (.mov (.tmp 5)),O1 14 (.bin .add (.tmp 13) (.const (.int .i64 1))),O1 5 (.mov (.tmp 14))] [0,4,5]))
def c14:AFun:=⟨.seq (.ops [O1 2 (.mov (.const (.string ⟨#[]⟩))),O1 3 (.mov (.const (.int .i64 0)))] [0]) (.seq (.seq (.ops [O1 6 (.mov (.tmp 0)),O1 7 (.len false (.tmp 6)),O1 8 (.bin .gtr (.tmp 7) (.const (.int .i64 2000)))] [0,8]) (.cond (.tmp 8) (.seq (.ops [O1 2 (.mov (.const (.string ⟨#[]⟩))),O1 3 (.mov (.const (.int .i64 4)))] [2,3]) (.ret)) (.skip))) (.seq (.ops [O1 4 (.mov (.const (.string ⟨#[]⟩)))] [0,4]) (.seq (.seq (.ops [O1 5 (.mov (.const (.int .i64 0)))] [0,4,5]) (.block 0 (.loop [0,4,5] c14l0))) (.seq (.seq (.ops [O1 29 (.mov (.tmp 4)),O1 30 (.len true (.tmp 29)),O1 31 (.bin .gtr (.tmp 30) (.const (.int .i64 40000)))] [4,31]) (.cond (.tmp 31) (.seq (.ops [O1 2 (.mov (.const (.string ⟨#[]⟩))),O1 3 (.mov (.const (.int .i64 4)))] [2,3]) (.ret)) (.skip))) (.seq (.ops [O1 32 (.mov (.tmp 4)),O1 2 (.mov (.tmp 32)),O1 3 (.mov (.const (.int .i64 0)))] [2,3]) (.ret)))))),33,[(2,none),(3,none)],true⟩
theorem ok14:FunOK Tryd.prog 14 c14:= .code ⟨Tryd.f14,_,c14.code,Tryd.func14,rfl,by kernel_rfl,rfl,by kernel_rfl,by kernel_rfl⟩
/- raddle/code.Parse -/
def c15l0:AC:= .seq (.seq (.ops [O1 18 (.mov (.tmp 0)),O1 19 (.bin .neq (.tmp 18) (.const (.string ⟨#[]⟩)))] [0,2,19]) (.cond (.tmp 19) (.skip) (.exit 0))) (.block 1 (.seq (.ops [O1 21 (.mov (.tmp 0)),O1 22 (.callF 26 [(.tmp 21),(.const (.string ⟨#[10]⟩))]),O1 20 (.mov (.tmp 22)),O1 23 (.ext (.tmp 20) 0),O1 24 (.ext (.tmp 20) 1),O1 25 (.ext (.tmp 20) 2),O1 5 (.mov (.tmp 23)),O1 6 (.mov (.tmp 24)),O1 7 (.mov (.tmp 25))] [2,5,6,7]) (.seq (.ops [O1 27 (.mov (.tmp 5)),O1 28 (.callF 10 [.tmp 27]),O1 26 (.mov (.tmp 28)),O1 29 (.ext (.tmp 26) 0),O1 30 (.ext (.tmp 26) 1),O1 8 (.alloc 23 [(1,(.int .u8 0)),(1,(.bool false)),(1,(.int .u8 0)),(4,(.int .i64 0))]),⟨none,none,.store 7 (.tmp 8) (.tmp 29)⟩,O1 9 (.mov (.tmp 30))] [2,6,7,8,9]) (.seq (.seq (.ops [O1 31 (.mov (.tmp 7)),O1 32 (.un .not (.tmp 31)),O1 33 (.mov (.tmp 32)),⟨some 34,some (33,false),.mov (.tmp 9)⟩,⟨some 35,some (33,false),.bin .neq (.tmp 34) (.const (.int .i64 0))⟩,O1 36 (.pick (.tmp 33) (.const (.bool true)) (.tmp 35))] [2,6,8,36]) (.cond (.tmp 36) (.seq (.ops [O1 37 (.mov (.tmp 2)),O1 38 (.len false (.tmp 37)),O1 2 (.mov (.const (.slice none 0 0))),O1 3 (.mov (.tmp 38)),O1 4 (.mov (.const (.int .i64 12)))] [2,3,4]) (.ret)) (.skip))) (.ops [O1 39 (.mov (.tmp 2)),O1 40 (.load (some 7) (.tmp 8)),O1 41 (.mkRow 23 7 1 [(.int .u8 0),(.bool false),(.int .u8 0),(.int .i64 0),(.int .i64 0),(.int .i64 0),(.int .i64 0)] [(0,7,(.tmp 40))]),O1 42 (.app 23 7 40 (.tmp 39) (.tmp 41)),O1 43 (.mov (.tmp 6)),O1 2 (.mov (.tmp 42)),O1 0 (.mov (.tmp 43))] [0,2])))))
def c15:AFun:=⟨.seq (.ops [O1 2 (.mov (.const (.slice none 0 0))),O1 3 (.mov (.const (.int .i64 0))),O1 4 (.mov (.const (.int .i64 0)))] [0,2]) (.seq (.seq (.ops [O1 10 (.mov (.tmp 0)),O1 11 (.len true (.tmp 10)),O1 12 (.bin .gtr (.tmp 11) (.const (.int .i64 40000))),O1 13 (.mov (.tmp 12)),⟨some 14,some (13,false),.mov (.tmp 0)⟩,⟨some 15,some (13,false),.callF 39 [(.tmp 14),(.const (.string ⟨#[10]⟩))]⟩,⟨some 16,some (13,false),.bin .gtr (.tmp 15) (.const (.int .i64 2000))⟩,O1 17 (.pick (.tmp 13) (.const (.bool true)) (.tmp 16))] [0,2,17]) (.cond (.tmp 17) (.seq (.ops [O1 2 (.mov (.const (.slice none 0 0))),O1 3 (.mov (.const (.int .i64 0))),O1 4 (.mov (.const (.int .i64 4)))] [2,3,4]) (.ret)) (.skip))) (.seq (.block 0 (.loop [0,2] c15l0)) (.seq (.ops [O1 44 (.mov (.tmp 2)),O1 2 (.mov (.tmp 44)),O1 3 (.mov (.const (.int .i64 0))),O1 4 (.mov (.const (.int .i64 0)))] [2,3,4]) (.ret)))),45,[(2,none),(3,none),(4,none)],true⟩
theorem ok15:FunOK Tryd.prog 15 c15:= .code ⟨Tryd.f15,_,c15.code,Tryd.func15,rfl,by kernel_rfl,rfl,by kernel_rfl,by kernel_rfl⟩
/- raddle/raddleref33.Parse -/
def c16l0:AC:= .seq (.seq (.ops [O1 21 (.mov (.tmp 7)),O1 22 (.mov (.tmp 5)),O1 23 (.len false (.tmp 22)),O1 24 (.bin .lss (.tmp 21) (.tmp 23))] [5,6,7,24]) (.cond (.tmp 24) (.skip) (.exit 0))) (.seq (.block 1 (.seq (.seq (.ops [O1 27 (.mov (.tmp 7)),O1 28 (.mov (.tmp 5)),O1 29 (.len false (.tmp 28)),O1 30 (.bin .sub (.tmp 29) (.const (.int .i64 1))),O1 31 (.bin .eql (.tmp 27) (.tmp 30))] [5,6,7,31]) (.cond (.tmp 31) (.seq (.seq (.ops [O1 32 (.mov (.tmp 5)),O1 33 (.mov (.tmp 7)),O1 34 (.idxS 1 (.tmp 32) (.tmp 33)),O1 35 (.load none (.tmp 34)),O1 36 (.bin .neq (.tmp 35) (.const (.string ⟨#[]⟩)))] [5,6,7,36]) (.cond (.tmp 36) (.seq (.ops [O1 37 (.mov (.tmp 7)),O1 2 (.mov (.const (.slice none 0 0))),O1 3 (.mov (.tmp 37)),O1 4 (.mov (.const (.int .i64 12)))] [2,3,4]) (.ret)) (.skip))) (.exit 1)) (.skip))) (.seq (.ops [O1 39 (.mov (.tmp 5)),O1 40 (.mov (.tmp 7)),O1 41 (.idxS 1 (.tmp 39) (.tmp 40)),O1 42 (.load none (.tmp 41)),O1 43 (.callF 11 [.tmp 42]),O1 38 (.mov (.tmp 43)),O1 44 (.ext (.tmp 38) 0),O1 45 (.ext (.tmp 38) 1),O1 8 (.alloc 23 [(1,(.int .u8 0)),(1,(.bool false)),(1,(.int .u8 0)),(4,(.int .i64 0))]),⟨none,none,.store 7 (.tmp 8) (.tmp 44)⟩,O1 9 (.mov (.tmp 45))] [5,6,7,8,9]) (.seq (.seq (.ops [O1 46 (.mov (.tmp 9)),O1 47 (.bin .neq (.tmp 46) (.const (.int .i64 0)))] [5,6,7,8,47]) (.cond (.tmp 47) (.seq (.ops [O1 48 (.mov (.tmp 7)),O1 2 (.mov (.const (.slice none 0 0))),O1 3 (.mov (.tmp 48)),O1 4 (.mov (.const (.int .i64 12)))] [2,3,4]) (.ret)) (.skip))) (.ops [O1 49 (.mov (.tmp 6)),O1 50 (.load (some 7) (.tmp 8)),O1 51 (.mkRow 23 7 1 [(.int .u8 0),(.bool false),(.int .u8 0),(.int .i64 0),(.int .i64 0),(.int .i64 0),(.int .i64 0)] [(0,7,(.tmp 50))]),O1 52 (.app 23 7 40 (.tmp 49) (.tmp 51)),O1 6 (.mov (.tmp 52))] [5,6,7]))))) (.ops [O1 25 (.mov (.tmp 7)),O1 26 (.bin .add (.tmp 25) (.const (.int .i64 1))),O1 7 (.mov (.tmp 26))] [5,6,7]))
def c16:AFun:=⟨.seq (.ops [O1 2 (.mov (.const (.slice none 0 0))),O1 3 (.mov (.const (.int .i64 0))),O1 4 (.mov (.const (.int .i64 0)))] [0]) (.seq (.ops [O1 10 (.mov (.tmp 0)),O1 11 (.callF 32 [(.tmp 10),(.const (.int .u8 10))]),O1 5 (.mov (.tmp 11))] [0,5]) (.seq (.seq (.ops [O1 12 (.mov (.tmp 0)),O1 13 (.len true (.tmp 12)),O1 14 (.bin .gtr (.tmp 13) (.const (.int .i64 40000))),O1 15 (.mov (.tmp 14)),⟨some 16,some (15,false),.mov (.tmp 5)⟩,⟨some 17,some (15,false),.len false (.tmp 16)⟩,⟨some 18,some (15,false),.bin .sub (.tmp 17) (.const (.int .i64 1))⟩,⟨some 19,some (15,false),.bin .gtr (.tmp 18) (.const (.int .i64 2000))⟩,O1 20 (.pick (.tmp 15) (.const (.bool true)) (.tmp 19))] [5,20]) (.cond (.tmp 20) (.seq (.ops [O1 2 (.mov (.const (.slice none 0 0))),O1 3 (.mov (.const (.int .i64 0))),O1 4 (.mov (.const (.int .i64 4)))] [2,3,4]) (.ret)) (.skip))) (.seq (.ops [O1 6 (.mov (.const (.slice none 0 0)))] [5,6]) (.seq (.seq (.ops [O1 7 (.mov (.const (.int .i64 0)))] [5,6,7]) (.block 0 (.loop [5,6,7] c16l0))) (.seq (.ops [O1 53 (.mov (.tmp 6)),O1 2 (.mov (.tmp 53)),O1 3 (.mov (.const (.int .i64 0))),O1 4 (.mov (.const (.int .i64 0)))] [2,3,4]) (.ret)))))),54,[(2,none),(3,none),(4,none)],true⟩
theorem ok16:FunOK Tryd.prog 16 c16:= .code ⟨Tryd.f16,_,c16.code,Tryd.func16,rfl,by kernel_rfl,rfl,by kernel_rfl,by kernel_rfl⟩
/- raddle/code.Mirror -/
def c17l0:AC:= .seq (.ops [O1 17 (.bin .lss (.tmp 16) (.tmp 15))] [4,14,15,16,17]) (.seq (.cond (.tmp 17) (.skip) (.exit 0)) (.seq (.block 1 (.seq (.ops [O1 18 (.idxS 7 (.tmp 14) (.tmp 16)),O1 19 (.load (some 7) (.tmp 18)),O1 6 (.alloc 23 [(1,(.int .u8 0)),(1,(.bool false)),(1,(.int .u8 0)),(4,(.int .i64 0))]),⟨none,none,.store 7 (.tmp 6) (.tmp 19)⟩] [4,6,14,15,16]) (.seq (.seq (.ops [O1 20 (.load (some 7) (.tmp 6)),O1 21 (.callF 22 [.tmp 20]),O1 7 (.mov (.tmp 21))] [4,6,7,14,15,16]) (.seq (.ops [O1 22 (.mov (.tmp 7)),O1 23 (.bin .neq (.tmp 22) (.const (.int .i64 0)))] [4,6,7,14,15,16,23]) (.cond (.tmp 23) (.seq (.ops [O1 24 (.mov (.tmp 7)),O1 2 (.mov (.const (.slice none 0 0))),O1 3 (.mov (.tmp 24))] [2,3]) (.ret)) (.skip)))) (.seq (.draw [O1 25 (.fldA 1 (.tmp 6)),O1 26 (.load none (.tmp 25)),O1 27 (.callF 28 []),O1 28 (.fldA 0 (.tmp 6)),O1 29 (.load none (.tmp 28)),O1 30 (.idxS 2 (.tmp 27) (.tmp 29)),O1 31 (.fldA 1 (.tmp 30)),O1 32 (.load none (.tmp 31)),O1 33 (.callF 40 [(.tmp 32),(.const (.string ⟨#[100]⟩))])] [O1 34 (.eqB true (.tmp 26) (.tmp 33)),O1 35 (.fldA 1 (.tmp 6)),⟨none,none,.store 1 (.tmp 35) (.tmp 34)⟩] [[],[],[],[false,false,false],[true,false,false,false],[],[],[],[]] [4,6,14,15,16]) (.seq (.ops [O1 36 (.fldA 3 (.tmp 6)),O1 37 (.load none (.tmp 36)),O1 38 (.un .neg (.tmp 37)),O1 39 (.fldA 4 (.tmp 6)),O1 40 (.load none (.tmp 39)),O1 41 (.un .neg (.tmp 40)),O1 42 (.fldA 6 (.tmp 6)),O1 43 (.load none (.tmp 42)),O1 44 (.un .neg (.tmp 43)),O1 45 (.fldA 3 (.tmp 6)),⟨none,none,.store 1 (.tmp 45) (.tmp 38)⟩,O1 46 (.fldA 4 (.tmp 6)),⟨none,none,.store 1 (.tmp 46) (.tmp 41)⟩,O1 47 (.fldA 6 (.tmp 6)),⟨none,none,.store 1 (.tmp 47) (.tmp 44)⟩] [4,6,14,15,16]) (.ops [O1 48 (.mov (.tmp 4)),O1 49 (.load (some 7) (.tmp 6)),O1 50 (.mkRow 23 7 1 [(.int .u8 0),(.bool false),(.int .u8 0),(.int .i64 0),(.int .i64 0),(.int .i64 0),(.int .i64 0)] [(0,7,(.tmp 49))]),O1 51 (.app 23 7 40 (.tmp 48) (.tmp 50)),O1 4 (.mov (.tmp 51))] [4,14,15,16])))))) (.ops [O1 52 (.bin .add (.tmp 16) (.const (.int .i64 1))),O1 16 (.mov (.tmp 52))] [4,14,15,16])))
def c17:AFun:=⟨.seq (.ops [O1 2 (.mov (.const (.slice none 0 0))),O1 3 (.mov (.const (.int .i64 0)))] [0]) (.seq (.seq (.ops [O1 8 (.mov (.tmp 0)),O1 9 (.len false (.tmp 8)),O1 10 (.bin .gtr (.tmp 9) (.const (.int .i64 2000)))] [0,10]) (.cond (.tmp 10) (.seq (.ops [O1 2 (.mov (.const (.slice none 0 0))),O1 3 (.mov (.const (.int .i64 4)))] [2,3]) (.ret)) (.skip))) (.seq (.ops [O1 11 (.mov (.tmp 0)),O1 12 (.len false (.tmp 11)),O1 13 (.mkSlice 23 7 40 [(.int .u8 0),(.bool false),(.int .u8 0),(.int .i64 0),(.int .i64 0),(.int .i64 0),(.int .i64 0)] (.const (.int .i64 0)) (.tmp 12)),O1 4 (.mov (.tmp 13))] [0,4]) (.seq (.seq (.ops [O1 14 (.mov (.tmp 0)),O1 15 (.len false (.tmp 14)),O1 16 (.mov (.const (.int .i64 0)))] [4,14,15,16]) (.block 0 (.loop [4,14,15,16] c17l0))) (.seq (.ops [O1 53 (.mov (.tmp 4)),O1 2 (.mov (.tmp 53)),O1 3 (.mov (.const (.int .i64 0)))] [2,3]) (.ret))))),54,[(2,none),(3,none)],true⟩
theorem ok17:FunOK Tryd.prog 17 c17:= .code ⟨Tryd.f17,_,c17.code,Tryd.func17,rfl,by kernel_rfl,rfl,by kernel_rfl,by kernel_rfl⟩
/- raddle/raddleref33.Mirror -/
def c18l0:AC:= .seq (.seq (.ops [O1 9 (.mov (.tmp 5)),O1 10 (.mov (.tmp 0)),O1 11 (.len false (.tmp 10)),O1 12 (.bin .lss (.tmp 9) (.tmp 11))] [0,4,5,12]) (.cond (.tmp 12) (.skip) (.exit 0))) (.seq (.block 1 (.seq (.seq (.ops [O1 15 (.mov (.tmp 0)),O1 16 (.mov (.tmp 5)),O1 17 (.idxS 7 (.tmp 15) (.tmp 16)),O1 18 (.load (some 7) (.tmp 17)),O1 19 (.callF 24 [.tmp 18]),O1 20 (.bin .neq (.tmp 19) (.const (.int .i64 0)))] [0,4,5,20]) (.cond (.tmp 20) (.seq (.ops [O1 2 (.mov (.const (.slice none 0 0))),O1 3 (.mov (.const (.int .i64 8)))] [2,3]) (.ret)) (.skip))) (.ops [O1 21 (.mov (.tmp 4)),O1 22 (.mov (.tmp 0)),O1 23 (.mov (.tmp 5)),O1 24 (.idxS 7 (.tmp 22) (.tmp 23)),O1 25 (.load (some 7) (.tmp 24)),O1 26 (.callF 41 [.tmp 25]),O1 27 (.mkRow 23 7 1 [(.int .u8 0),(.bool false),(.int .u8 0),(.int .i64 0),(.int .i64 0),(.int .i64 0),(.int .i64 0)] [(0,7,(.tmp 26))]),O1 28 (.app 23 7 40 (.tmp 21) (.tmp 27)),O1 4 (.mov (.tmp 28))] [0,4,5]))) (.ops [O1 13 (.mov (.tmp 5)),O1 14 (.bin .add (.tmp 13) (.const (.int .i64 1))),O1 5 (.mov (.tmp 14))] [0,4,5]))
def c18:AFun:=⟨.seq (.ops [O1 2 (.mov (.const (.slice none 0 0))),O1 3 (.mov (.const (.int .i64 0)))] [0]) (.seq (.seq (.ops [O1 6 (.mov (.tmp 0)),O1 7 (.len false (.tmp 6)),O1 8 (.bin .gtr (.tmp 7) (.const (.int .i64 2000)))] [0,8]) (.cond (.tmp 8) (.seq (.ops [O1 2 (.mov (.const (.slice none 0 0))),O1 3 (.mov (.const (.int .i64 4)))] [2,3]) (.ret)) (.skip))) (.seq (.ops [O1 4 (.mov (.const (.slice none 0 0)))] [0,4]) (.seq (.seq (.ops [O1 5 (.mov (.const (.int .i64 0)))] [0,4,5]) (.block 0 (.loop [0,4,5] c18l0))) (.seq (.ops [O1 29 (.mov (.tmp 4)),O1 2 (.mov (.tmp 29)),O1 3 (.mov (.const (.int .i64 0)))] [2,3]) (.ret))))),30,[(2,none),(3,none)],true⟩
theorem ok18:FunOK Tryd.prog 18 c18:= .code ⟨Tryd.f18,_,c18.code,Tryd.func18,rfl,by kernel_rfl,rfl,by kernel_rfl,by kernel_rfl⟩
/- raddle/raddleref30.SameInstrs -/
def c19l0:AC:= .seq (.seq (.ops [O1 11 (.mov (.tmp 5)),O1 12 (.mov (.tmp 0)),O1 13 (.len false (.tmp 12)),O1 14 (.bin .lss (.tmp 11) (.tmp 13))] [0,1,5,14]) (.cond (.tmp 14) (.skip) (.exit 0))) (.seq (.block 1 (.seq (.draw [O1 17 (.mov (.tmp 0)),O1 18 (.mov (.tmp 5)),O1 19 (.idxS 7 (.tmp 17) (.tmp 18)),O1 20 (.load (some 7) (.tmp 19)),O1 21 (.mov (.tmp 1)),O1 22 (.mov (.tmp 5)),O1 23 (.idxS 7 (.tmp 21) (.tmp 22)),O1 24 (.load (some 7) (.tmp 23))] [O1 25 (.eqAgg true [(0,0),(1,2),(2,0),(3,0),(4,0),(5,0),(6,0)] (.tmp 20) (.tmp 24))] [[],[],[],[],[],[],[],[]] [0,1,5,25]) (.cond (.tmp 25) (.seq (.ops [O1 4 (.mov (.const (.bool false)))] [4]) (.ret)) (.skip)))) (.ops [O1 15 (.mov (.tmp 5)),O1 16 (.bin .add (.tmp 15) (.const (.int .i64 1))),O1 5 (.mov (.tmp 16))] [0,1,5]))
def c19:AFun:=⟨.seq (.ops [O1 4 (.mov (.const (.bool false)))] [0,1]) (.seq (.seq (.ops [O1 6 (.mov (.tmp 0)),O1 7 (.len false (.tmp 6)),O1 8 (.mov (.tmp 1)),O1 9 (.len false (.tmp 8)),O1 10 (.bin .neq (.tmp 7) (.tmp 9))] [0,1,10]) (.cond (.tmp 10) (.seq (.ops [O1 4 (.mov (.const (.bool false)))] [4]) (.ret)) (.skip))) (.seq (.seq (.ops [O1 5 (.mov (.const (.int .i64 0)))] [0,1,5]) (.block 0 (.loop [0,1,5] c19l0))) (.seq (.ops [O1 4 (.mov (.const (.bool true)))] [4]) (.ret)))),26,[(4,none)],true⟩
theorem ok19:FunOK Tryd.prog 19 c19:= .code ⟨Tryd.f19,_,c19.code,Tryd.func19,rfl,by kernel_rfl,rfl,by kernel_rfl,by kernel_rfl⟩
/- raddle/bed.Instr -/
def c22:AFun:=⟨.seq (.ops [O1 1 (.box 23 (.tmp 0)),O1 2 (.mov (.const (.int .i64 0)))] [1]) (.seq (.ops [O1 6 (.fldA 5 (.tmp 1)),O1 7 (.load none (.tmp 6)),O1 8 (.bin .geq (.tmp 7) (.const (.int .i64 1))),O1 9 (.mov (.tmp 8)),⟨some 10,some (9,true),.fldA 5 (.tmp 1)⟩,⟨some 11,some (9,true),.load none (.tmp 10)⟩,⟨some 12,some (9,true),.bin .leq (.tmp 11) (.const (.int .i64 6))⟩,O1 13 (.pick (.tmp 9) (.tmp 12) (.const (.bool false))),O1 3 (.mov (.tmp 13))] [1,3]) (.seq (.ops [O1 14 (.load (some 7) (.tmp 1)),O1 4 (.alloc 23 [(1,(.int .u8 0)),(1,(.bool false)),(1,(.int .u8 0)),(4,(.int .i64 0))]),⟨none,none,.store 7 (.tmp 4) (.tmp 14)⟩] [1,3,4]) (.seq (.ops [O1 15 (.fldA 0 (.tmp 4)),⟨none,none,.store 1 (.tmp 15) (.const (.int .u8 0))⟩] [1,3,4]) (.seq (.ops [O1 5 (.mov (.const (.bool true)))] [1,3,4,5]) (.seq (.seq (.ops [O1 16 (.fldA 0 (.tmp 1)),O1 17 (.load none (.tmp 16))] [1,3,4,5,17]) (.block 0 (.seq (.seq (.ops [O1 19 (.bin .eql (.tmp 17) (.const (.int .u8 1))),O1 18 (.mov (.tmp 19))] [1,3,4,5,17,18]) (.cond (.tmp 18) (.skip) (.ops [O1 20 (.bin .eql (.tmp 17) (.const (.int .u8 2))),O1 18 (.mov (.tmp 20))] [1,3,4,5,17,18]))) (.cond (.tmp 18) (.seq (.ops [O1 21 (.fldA 5 (.tmp 4)),⟨none,none,.store 1 (.tmp 21) (.const (.int .i64 0))⟩] [1,3,4]) (.ops [O1 22 (.mov (.tmp 3)),O1 5 (.mov (.tmp 22))] [1,4,5])) (.seq (.seq (.ops [O1 24 (.bin .eql (.tmp 17) (.const (.int .u8 3))),O1 23 (.mov (.tmp 24))] [1,3,4,5,17,23]) (.cond (.tmp 23) (.skip) (.seq (.ops [O1 25 (.bin .eql (.tmp 17) (.const (.int .u8 4))),O1 23 (.mov (.tmp 25))] [1,3,4,5,17,23]) (.cond (.tmp 23) (.skip) (.ops [O1 26 (.bin .eql (.tmp 17) (.const (.int .u8 5))),O1 23 (.mov (.tmp 26))] [1,3,4,5,17,23]))))) (.cond (.tmp 23) (.seq (.ops [O1 27 (.fldA 1 (.tmp 4)),⟨none,none,.store 1 (.tmp 27) (.const (.bool false))⟩,O1 28 (.fldA 2 (.tmp 4)),⟨none,none,.store 1 (.tmp 28) (.const (.int .u8 0))⟩,O1 29 (.fldA 3 (.tmp 4)),⟨none,none,.store 1 (.tmp 29) (.const (.int .i64 0))⟩,O1 30 (.fldA 5 (.tmp 4)),⟨none,none,.store 1 (.tmp 30) (.const (.int .i64 0))⟩] [1,3,4]) (.ops [O1 31 (.mov (.tmp 3)),O1 5 (.mov (.tmp 31))] [1,4,5])) (.seq (.ops [O1 33 (.bin .eql (.tmp 17) (.const (.int .u8 6))),O1 32 (.mov (.tmp 33))] [1,3,4,5,17,32]) (.cond (.tmp 32) (.seq (.ops [O1 34 (.fldA 6 (.tmp 1)),O1 35 (.load none (.tmp 34)),O1 36 (.build [(.int .u8 0),(.bool false),(.int .u8 0),(.int .i64 0),(.int .i64 0),(.int .i64 0),(.int .i64 0)] [(6,1,(.tmp 35))]),⟨none,none,.store 7 (.tmp 4) (.tmp 36)⟩] [1,3,4]) (.ops [O1 37 (.mov (.tmp 3)),O1 5 (.mov (.tmp 37))] [1,4,5])) (.seq (.ops [O1 39 (.bin .eql (.tmp 17) (.const (.int .u8 7))),O1 38 (.mov (.tmp 39))] [1,4,5,17,38]) (.cond (.tmp 38) (.ops [O1 40 (.fldA 2 (.tmp 4)),⟨none,none,.store 1 (.tmp 40) (.const (.int .u8 0))⟩,O1 41 (.fldA 3 (.tmp 4)),⟨none,none,.store 1 (.tmp 41) (.const (.int .i64 0))⟩,O1 42 (.fldA 4 (.tmp 4)),⟨none,none,.store 1 (.tmp 42) (.const (.int .i64 0))⟩] [1,4,5]) (.seq (.ops [O1 44 (.bin .eql (.tmp 17) (.const (.int .u8 8))),O1 43 (.mov (.tmp 44))] [1,4,5,17,43])
  (.cond (.tmp 43) (.seq (.ops [O1 45 (.fldA 6 (.tmp 4)),⟨none,none,.store 1 (.tmp 45) (.const (.int .i64 0))⟩] [1,4]) (.ops [O1 46 (.fldA 6 (.tmp 1)),O1 47 (.load none (.tmp 46)),O1 48 (.fldA 6 (.tmp 1)),O1 49 (.load none (.tmp 48)),O1 50 (.un .neg (.tmp 49)),O1 51 (.mm true (.tmp 47) (.tmp 50)),O1 52 (.bin .leq (.tmp 51) (.const (.int .i64 8))),O1 53 (.mov (.tmp 52)),⟨some 54,some (53,true),.fldA 6 (.tmp 1)⟩,⟨some 55,some (53,true),.load none (.tmp 54)⟩,⟨some 56,some (53,true),.bin .geq (.tmp 55) (.const (.int .i64 (-8)))⟩,O1 57 (.pick (.tmp 53) (.tmp 56) (.const (.bool false))),O1 5 (.mov (.tmp 57))] [1,4,5])) (.seq (.ops [O1 59 (.bin .eql (.tmp 17) (.const (.int .u8 9))),O1 58 (.mov (.tmp 59))] [1,4,5,58]) (.cond (.tmp 58) (.ops [O1 60 (.fldA 2 (.tmp 4)),⟨none,none,.store 1 (.tmp 60) (.const (.int .u8 0))⟩,O1 61 (.fldA 3 (.tmp 4)),⟨none,none,.store 1 (.tmp 61) (.const (.int .i64 0))⟩] [1,4,5]) (.ops [O1 5 (.mov (.const (.bool false)))] [1,4,5]))))))))))))))) (.seq (.seq (.ops [O1 62 (.mov (.tmp 5)),O1 63 (.un .not (.tmp 62)),O1 64 (.mov (.tmp 63)),⟨some 65,some (64,false),.load (some 7) (.tmp 4)⟩,⟨some 66,some (64,false),.build [(.int .u8 0),(.bool false),(.int .u8 0),(.int .i64 0),(.int .i64 0),(.int .i64 0),(.int .i64 0)] []⟩,⟨some 67,some (64,false),.eqAgg true [(0,0),(1,2),(2,0),(3,0),(4,0),(5,0),(6,0)] (.tmp 65) (.tmp 66)⟩,O1 68 (.pick (.tmp 64) (.const (.bool true)) (.tmp 67)),O1 69 (.mov (.tmp 68)),⟨some 70,some (69,false),.fldA 2 (.tmp 1)⟩,⟨some 71,some (69,false),.load none (.tmp 70)⟩,⟨some 72,some (69,false),.bin .gtr (.tmp 71) (.const (.int .u8 1))⟩,O1 73 (.pick (.tmp 69) (.const (.bool true)) (.tmp 72)),O1 74 (.mov (.tmp 73)),⟨some 75,some (74,false),.fldA 3 (.tmp 1)⟩,⟨some 76,some (74,false),.load none (.tmp 75)⟩,⟨some 77,some (74,false),.callF 43 [.tmp 76]⟩,⟨some 78,some (74,false),.un .not (.tmp 77)⟩,O1 79 (.pick (.tmp 74) (.const (.bool true)) (.tmp 78)),O1 80 (.mov (.tmp 79)),⟨some 81,some (80,false),.fldA 4 (.tmp 1)⟩,⟨some 82,some (80,false),.load none (.tmp 81)⟩,⟨some 83,some (80,false),.callF 43 [.tmp 82]⟩,⟨some 84,some (80,false),.un .not (.tmp 83)⟩,O1 85 (.pick (.tmp 80) (.const (.bool true)) (.tmp 84))] [85]) (.cond (.tmp 85) (.seq (.ops [O1 2 (.mov (.const (.int .i64 8)))] [2]) (.ret)) (.skip))) (.seq (.ops [O1 2 (.mov (.const (.int .i64 0)))] [2]) (.ret)))))))),86,[(2,none)],true⟩
theorem ok22:FunOK Tryd.prog 22 c22:= .code ⟨Tryd.f22,_,c22.code,Tryd.func22,rfl,by kernel_rfl,rfl,by kernel_rfl,by kernel_rfl⟩
/- raddle/code.line -/
def c23l0:AC:= .seq (.ops [O1 18 (.nextS (.tmp 17)),O1 19 (.ext (.tmp 18) 0)] [1,4,17,18,19]) (.seq (.cond (.tmp 19) (.skip) (.exit 0)) (.block 1 (.seq (.ops [O1 20 (.ext (.tmp 18) 2),O1 6 (.mov (.tmp 20))] [1,4,6,17]) (.seq (.ops [O1 21 (.mov (.tmp 6))] [1,4,17,21]) (.block 2 (.seq (.ops [O1 23 (.bin .eql (.tmp 21) (.const (.int .i32 100))),O1 22 (.mov (.tmp 23))] [1,4,17,21,22]) (.cond (.tmp 22) (.seq (.ops [O1 24 (.fldA 1 (.tmp 1)),O1 25 (.load none (.tmp 24))] [1,4,17,25]) (.cond (.tmp 25) (.ops [O1 26 (.mov (.tmp 4)),O1 27 (.mkRow 9 1 1 [(.string ⟨#[]⟩)] [(0,1,(.const (.string ⟨#[43]⟩)))]),O1 28 (.app 9 1 16 (.tmp 26) (.tmp 27)),O1 4 (.mov (.tmp 28))] [1,4,17]) (.ops [O1 29 (.mov (.tmp 4)),O1 30 (.mkRow 9 1 1 [(.string ⟨#[]⟩)] [(0,1,(.const (.string ⟨#[45]⟩)))]),O1 31 (.app 9 1 16 (.tmp 29) (.tmp 30)),O1 4 (.mov (.tmp 31))] [1,4,17]))) (.seq (.ops [O1 33 (.bin .eql (.tmp 21) (.const (.int .i32 110))),O1 32 (.mov (.tmp 33))] [1,4,17,21,32]) (.cond (.tmp 32) (.ops [O1 34 (.mov (.tmp 4)),O1 35 (.fldA 2 (.tmp 1)),O1 36 (.load none (.tmp 35)),O1 37 (.fldA 3 (.tmp 1)),O1 38 (.load none (.tmp 37)),O1 39 (.callF 44 [(.tmp 36),(.tmp 38)]),O1 40 (.mkRow 9 1 1 [(.string ⟨#[]⟩)] [(0,1,(.tmp 39))]),O1 41 (.app 9 1 16 (.tmp 34) (.tmp 40)),O1 4 (.mov (.tmp 41))] [1,4,17]) (.seq (.ops [O1 43 (.bin .eql (.tmp 21) (.const (.int .i32 111))),O1 42 (.mov (.tmp 43))] [1,4,17,21,42]) (.cond (.tmp 42) (.ops [O1 44 (.mov (.tmp 4)),O1 45 (.fldA 2 (.tmp 1)),O1 46 (.load none (.tmp 45)),O1 47 (.bin .sub (.const (.int .u8 1)) (.tmp 46)),O1 48 (.fldA 4 (.tmp 1)),O1 49 (.load none (.tmp 48)),O1 50 (.callF 44 [(.tmp 47),(.tmp 49)]),O1 51 (.mkRow 9 1 1 [(.string ⟨#[]⟩)] [(0,1,(.tmp 50))]),O1 52 (.app 9 1 16 (.tmp 44) (.tmp 51)),O1 4 (.mov (.tmp 52))] [1,4,17]) (.seq (.ops [O1 54 (.bin .eql (.tmp 21) (.const (.int .i32 99))),O1 53 (.mov (.tmp 54))] [1,4,17,21,53]) (.cond (.tmp 53) (.ops [O1 55 (.mov (.tmp 4)),O1 56 (.fldA 5 (.tmp 1)),O1 57 (.load none (.tmp 56)),O1 58 (.callF 45 [.tmp 57]),O1 59 (.mkRow 9 1 1 [(.string ⟨#[]⟩)] [(0,1,(.tmp 58))]),O1 60 (.app 9 1 16 (.tmp 55) (.tmp 59)),O1 4 (.mov (.tmp 60))] [1,4,17]) (.seq (.ops [O1 62 (.bin .eql (.tmp 21) (.const (.int .i32 114))),O1 61 (.mov (.tmp 62))] [1,4,17,61]) (.cond (.tmp 61) (.ops [O1 63 (.mov (.tmp 4)),O1 64 (.fldA 6 (.tmp 1)),O1 65 (.load none (.tmp 64)),O1 66 (.callF 45 [.tmp 65]),O1 67 (.mkRow 9 1 1 [(.string ⟨#[]⟩)] [(0,1,(.tmp 66))]),O1 68 (.app 9 1 16 (.tmp 63) (.tmp 67)),O1 4 (.mov (.tmp 68))] [1,4,17]) (.skip))))))))))))))))
def c23:AFun:=⟨.seq (.ops [O1 1 (.box 23 (.tmp 0)),O1 2 (.mov (.const (.string ⟨#[]⟩)))] [1]) (.seq (.draw [O1 7 (.callF 28 []),O1 8 (.fldA 0 (.tmp 1)),O1 9 (.load none (.tmp 8)),O1 10 (.idxS 2 (.tmp 7) (.tmp 9)),O1 11 (.load (some 2) (.tmp 10)),O1 3 (.alloc 59 [(2,(.string ⟨#[]⟩))])] [⟨none,none,.store 2 (.tmp 3) (.tmp 11)⟩] [[],[false],[true,false],[],[],[false,false,false,false,false]] [1,3]) (.seq (.ops [O1 12 (.fldA 0 (.tmp 3)),O1 13 (.load none (.tmp 12)),O1 14 (.mkRow 9 1 1 [(.string ⟨#[]⟩)] [(0,1,(.tmp 13))]),O1 4 (.mov (.tmp 14))] [1,3,4]) (.seq (.seq (.ops [O1 15 (.fldA 1 (.tmp 3)),O1 16 (.load none (.tmp 15)),O1 17 (.rangeS (.tmp 16))] [1,4,17]) (.block 0 (.loop [1,4,17] c23l0))) (.seq (.ops [O1 69 (.mov (.tmp 4)),O1 70 (.callF 46 [(.tmp 69),(.const (.string ⟨#[32]⟩))]),O1 2 (.mov (.tmp 70))] [2]) (.ret))))),71,[(2,none)],true⟩
theorem ok23:FunOK Tryd.prog 23 c23:= .code ⟨Tryd.f23,_,c23.code,Tryd.func23,rfl,by kernel_rfl,rfl,by kernel_rfl,by kernel_rfl⟩
/- raddle/raddleref30.Instr -/
def c24:AFun:=⟨.seq (.ops [O1 1 (.box 23 (.tmp 0)),O1 2 (.mov (.const (.int .i64 0)))] [1]) (.seq (.ops [O1 5 (.fldA 0 (.tmp 1)),O1 6 (.load none (.tmp 5)),O1 7 (.build [(.int .u8 0),(.bool false),(.int .u8 0),(.int .i64 0),(.int .i64 0),(.int .i64 0),(.int .i64 0)] [(0,1,(.tmp 6))]),O1 3 (.alloc 23 [(1,(.int .u8 0)),(1,(.bool false)),(1,(.int .u8 0)),(4,(.int .i64 0))]),⟨none,none,.store 7 (.tmp 3) (.tmp 7)⟩] [1,3]) (.seq (.ops [O1 4 (.mov (.const (.bool true)))] [1,3,4]) (.seq (.seq (.ops [O1 8 (.fldA 0 (.tmp 1)),O1 9 (.load none (.tmp 8))] [1,3,4,9]) (.block 0 (.seq (.seq (.ops [O1 11 (.bin .eql (.tmp 9) (.const (.int .u8 1))),O1 10 (.mov (.tmp 11))] [1,3,4,9,10]) (.cond (.tmp 10) (.skip) (.ops [O1 12 (.bin .eql (.tmp 9) (.const (.int .u8 2))),O1 10 (.mov (.tmp 12))] [1,3,4,9,10]))) (.cond (.tmp 10) (.seq (.ops [O1 13 (.fldA 5 (.tmp 1)),O1 14 (.load none (.tmp 13)),O1 15 (.fldA 5 (.tmp 3)),⟨none,none,.store 1 (.tmp 15) (.tmp 14)⟩] [1,3]) (.ops [O1 16 (.fldA 5 (.tmp 1)),O1 17 (.load none (.tmp 16)),O1 18 (.callF 47 [.tmp 17]),O1 4 (.mov (.tmp 18))] [1,3,4])) (.seq (.seq (.ops [O1 20 (.bin .eql (.tmp 9) (.const (.int .u8 3))),O1 19 (.mov (.tmp 20))] [1,3,4,9,19]) (.cond (.tmp 19) (.skip) (.seq (.ops [O1 21 (.bin .eql (.tmp 9) (.const (.int .u8 4))),O1 19 (.mov (.tmp 21))] [1,3,4,9,19]) (.cond (.tmp 19) (.skip) (.ops [O1 22 (.bin .eql (.tmp 9) (.const (.int .u8 5))),O1 19 (.mov (.tmp 22))] [1,3,4,9,19]))))) (.cond (.tmp 19) (.seq (.drawW [⟨O1 23 (.fldA 1 (.tmp 1)),[],none⟩,⟨O1 24 (.load none (.tmp 23)),[],none⟩,⟨O1 25 (.fldA 2 (.tmp 1)),[0,1],none⟩,⟨O1 26 (.load none (.tmp 25)),[0,1],none⟩,⟨O1 27 (.fldA 3 (.tmp 1)),[0,1,2,3],none⟩,⟨O1 28 (.load none (.tmp 27)),[0,1,2,3],none⟩,⟨O1 29 (.fldA 5 (.tmp 1)),[0,1,2,3,4,5],none⟩,⟨O1 30 (.load none (.tmp 29)),[0,1,2,3,4,5],none⟩,⟨O1 31 (.fldA 1 (.tmp 3)),[2,3,4,5,6,7],none⟩,⟨⟨none,none,.store 1 (.tmp 31) (.tmp 24)⟩,[2,3,4,5,6,7],none⟩,⟨O1 32 (.fldA 2 (.tmp 3)),[4,5,6,7],none⟩,⟨⟨none,none,.store 1 (.tmp 32) (.tmp 26)⟩,[4,5,6,7],none⟩,⟨O1 33 (.fldA 3 (.tmp 3)),[6,7],none⟩,⟨⟨none,none,.store 1 (.tmp 33) (.tmp 28)⟩,[6,7],none⟩] [O1 34 (.fldA 5 (.tmp 3)),⟨none,none,.store 1 (.tmp 34) (.tmp 30)⟩] [1,3]) (.ops [O1 35 (.fldA 5 (.tmp 1)),O1 36 (.load none (.tmp 35)),O1 37 (.callF 47 [.tmp 36]),O1 4 (.mov (.tmp 37))] [1,3,4])) (.seq (.ops [O1 39 (.bin .eql (.tmp 9) (.const (.int .u8 6))),O1 38 (.mov (.tmp 39))] [1,3,4,9,38]) (.cond (.tmp 38) (.seq (.ops [O1 40 (.load (some 7) (.tmp 1)),⟨none,none,.store 7 (.tmp 3) (.tmp 40)⟩] [1,3]) (.seq (.ops [O1 41 (.fldA 6 (.tmp 3)),⟨none,none,.store 1 (.tmp 41) (.const (.int .i64 0))⟩] [1,3]) (.ops [O1 42 (.fldA 5 (.tmp 1)),O1 43 (.load none (.tmp 42)),O1 44 (.callF 47 [.tmp 43]),O1 4 (.mov (.tmp 44))] [1,3,4]))) (.seq (.ops [O1 46 (.bin .eql (.tmp 9) (.const (.int .u8 7))),O1 45 (.mov (.tmp 46))] [1,3,4,9,45]) (.cond (.tmp 45) (.drawW [⟨O1 47 (.fldA 2 (.tmp 1)),[],none⟩,⟨O1 48 (.load none (.tmp 47)),[],none⟩,⟨O1 49 (.fldA 3 (.tmp 1)),[0,1],none⟩,⟨O1 50 (.load none (.tmp 49)),[0,1],none⟩,
  ⟨O1 51 (.fldA 4 (.tmp 1)),[0,1,2,3],none⟩,⟨O1 52 (.load none (.tmp 51)),[0,1,2,3],none⟩,⟨O1 53 (.fldA 2 (.tmp 3)),[2,3,4,5],none⟩,⟨⟨none,none,.store 1 (.tmp 53) (.tmp 48)⟩,[2,3,4,5],none⟩,⟨O1 54 (.fldA 3 (.tmp 3)),[4,5],none⟩,⟨⟨none,none,.store 1 (.tmp 54) (.tmp 50)⟩,[4,5],none⟩] [O1 55 (.fldA 4 (.tmp 3)),⟨none,none,.store 1 (.tmp 55) (.tmp 52)⟩] [1,3,4]) (.seq (.ops [O1 57 (.bin .eql (.tmp 9) (.const (.int .u8 8))),O1 56 (.mov (.tmp 57))] [1,3,4,9,56]) (.cond (.tmp 56) (.seq (.ops [O1 58 (.fldA 6 (.tmp 1)),O1 59 (.load none (.tmp 58)),O1 60 (.fldA 6 (.tmp 3)),⟨none,none,.store 1 (.tmp 60) (.tmp 59)⟩] [1,3]) (.ops [O1 61 (.fldA 6 (.tmp 1)),O1 62 (.load none (.tmp 61)),O1 63 (.bin .geq (.tmp 62) (.const (.int .i64 (-8)))),O1 64 (.mov (.tmp 63)),⟨some 65,some (64,true),.fldA 6 (.tmp 1)⟩,⟨some 66,some (64,true),.load none (.tmp 65)⟩,⟨some 67,some (64,true),.bin .leq (.tmp 66) (.const (.int .i64 8))⟩,O1 68 (.pick (.tmp 64) (.tmp 67) (.const (.bool false))),O1 4 (.mov (.tmp 68))] [1,3,4])) (.seq (.ops [O1 70 (.bin .eql (.tmp 9) (.const (.int .u8 9))),O1 69 (.mov (.tmp 70))] [1,3,4,69]) (.cond (.tmp 69) (.drawW [⟨O1 71 (.fldA 2 (.tmp 1)),[],none⟩,⟨O1 72 (.load none (.tmp 71)),[],none⟩,⟨O1 73 (.fldA 3 (.tmp 1)),[0,1],none⟩,⟨O1 74 (.load none (.tmp 73)),[0,1],none⟩,⟨O1 75 (.fldA 2 (.tmp 3)),[2,3],none⟩,⟨⟨none,none,.store 1 (.tmp 75) (.tmp 72)⟩,[2,3],none⟩] [O1 76 (.fldA 3 (.tmp 3)),⟨none,none,.store 1 (.tmp 76) (.tmp 74)⟩] [1,3,4]) (.seq (.ops [O1 2 (.mov (.const (.int .i64 8)))] [2]) (.ret)))))))))))))))) (.seq (.seq (.ops [O1 77 (.mov (.tmp 4)),O1 78 (.un .not (.tmp 77)),O1 79 (.mov (.tmp 78)),⟨some 80,some (79,false),.load (some 7) (.tmp 3)⟩,⟨some 81,some (79,false),.load (some 7) (.tmp 1)⟩,⟨some 82,some (79,false),.eqAgg true [(0,0),(1,2),(2,0),(3,0),(4,0),(5,0),(6,0)] (.tmp 80) (.tmp 81)⟩,O1 83 (.pick (.tmp 79) (.const (.bool true)) (.tmp 82)),O1 84 (.mov (.tmp 83)),⟨some 85,some (84,false),.fldA 2 (.tmp 1)⟩,⟨some 86,some (84,false),.load none (.tmp 85)⟩,⟨some 87,some (84,false),.bin .gtr (.tmp 86) (.const (.int .u8 1))⟩,O1 88 (.pick (.tmp 84) (.const (.bool true)) (.tmp 87)),O1 89 (.mov (.tmp 88)),⟨some 90,some (89,false),.fldA 3 (.tmp 1)⟩,⟨some 91,some (89,false),.load none (.tmp 90)⟩,⟨some 92,some (89,false),.callF 48 [.tmp 91]⟩,⟨some 93,some (89,false),.un .not (.tmp 92)⟩,O1 94 (.pick (.tmp 89) (.const (.bool true)) (.tmp 93)),O1 95 (.mov (.tmp 94)),⟨some 96,some (95,false),.fldA 4 (.tmp 1)⟩,⟨some 97,some (95,false),.load none (.tmp 96)⟩,⟨some 98,some (95,false),.callF 48 [.tmp 97]⟩,⟨some 99,some (95,false),.un .not (.tmp 98)⟩,O1 100 (.pick (.tmp 95) (.const (.bool true)) (.tmp 99))] [100]) (.cond (.tmp 100) (.seq (.ops [O1 2 (.mov (.const (.int .i64 8)))] [2]) (.ret)) (.skip))) (.seq (.ops [O1 2 (.mov (.const (.int .i64 0)))] [2]) (.ret)))))),101,[(2,none)],true⟩
theorem ok24:FunOK Tryd.prog 24 c24:= .code ⟨Tryd.f24,_,c24.code,Tryd.func24,rfl,by kernel_rfl,rfl,by kernel_rfl,by kernel_rfl⟩
/- raddle/raddleref33.Written -/
def c25:AFun:=⟨.seq (.ops [O1 1 (.box 23 (.tmp 0)),O1 2 (.mov (.const (.string ⟨#[]⟩)))] [1]) (.seq (.ops [O1 5 (.fldA 0 (.tmp 1)),O1 6 (.load none (.tmp 5)),O1 7 (.callF 33 [.tmp 6]),O1 3 (.mov (.tmp 7))] [1,3]) (.seq (.ops [O1 4 (.mov (.const (.string ⟨#[32,45]⟩)))] [1,3,4]) (.seq (.seq (.ops [O1 8 (.fldA 1 (.tmp 1)),O1 9 (.load none (.tmp 8))] [1,3,4,9]) (.cond (.tmp 9) (.ops [O1 4 (.mov (.const (.string ⟨#[32,43]⟩)))] [1,3,4]) (.skip))) (.seq (.seq (.ops [O1 10 (.fldA 0 (.tmp 1)),O1 11 (.load none (.tmp 10))] [1,3,4,11]) (.block 0 (.seq (.seq (.ops [O1 13 (.bin .eql (.tmp 11) (.const (.int .u8 1))),O1 12 (.mov (.tmp 13))] [1,3,4,11,12]) (.cond (.tmp 12) (.skip) (.ops [O1 14 (.bin .eql (.tmp 11) (.const (.int .u8 2))),O1 12 (.mov (.tmp 14))] [1,3,4,11,12]))) (.cond (.tmp 12) (.seq (.ops [O1 15 (.mov (.tmp 3)),O1 16 (.bin .add (.tmp 15) (.const (.string ⟨#[32]⟩))),O1 17 (.fldA 5 (.tmp 1)),O1 18 (.load none (.tmp 17)),O1 19 (.callF 49 [.tmp 18]),O1 20 (.bin .add (.tmp 16) (.tmp 19)),O1 2 (.mov (.tmp 20))] [2]) (.ret)) (.seq (.seq (.ops [O1 22 (.bin .eql (.tmp 11) (.const (.int .u8 3))),O1 21 (.mov (.tmp 22))] [1,3,4,11,21]) (.cond (.tmp 21) (.skip) (.seq (.ops [O1 23 (.bin .eql (.tmp 11) (.const (.int .u8 4))),O1 21 (.mov (.tmp 23))] [1,3,4,11,21]) (.cond (.tmp 21) (.skip) (.ops [O1 24 (.bin .eql (.tmp 11) (.const (.int .u8 5))),O1 21 (.mov (.tmp 24))] [1,3,4,11,21]))))) (.cond (.tmp 21) (.seq (.draw [O1 25 (.mov (.tmp 3)),O1 26 (.mov (.tmp 4)),O1 27 (.bin .add (.tmp 25) (.tmp 26)),O1 28 (.bin .add (.tmp 27) (.const (.string ⟨#[32]⟩))),O1 29 (.fldA 2 (.tmp 1)),O1 30 (.load none (.tmp 29)),O1 31 (.fldA 3 (.tmp 1)),O1 32 (.load none (.tmp 31)),O1 33 (.callF 50 [(.tmp 30),(.tmp 32)]),O1 34 (.bin .add (.tmp 28) (.tmp 33)),O1 35 (.bin .add (.tmp 34) (.const (.string ⟨#[32]⟩))),O1 36 (.fldA 5 (.tmp 1)),O1 37 (.load none (.tmp 36)),O1 38 (.callF 49 [.tmp 37])] [O1 39 (.bin .add (.tmp 35) (.tmp 38)),O1 2 (.mov (.tmp 39))] [[],[],[],[],[],[],[],[],[],[],[],[false,false,false,false,false,false,false,false,false,false,false],[true,false,false,false,false,false,false,false,false,false,false,false],[]] [2]) (.ret)) (.seq (.ops [O1 41 (.bin .eql (.tmp 11) (.const (.int .u8 6))),O1 40 (.mov (.tmp 41))] [1,3,4,11,40]) (.cond (.tmp 40) (.seq (.draw [O1 42 (.mov (.tmp 3)),O1 43 (.mov (.tmp 4)),O1 44 (.bin .add (.tmp 42) (.tmp 43)),O1 45 (.bin .add (.tmp 44) (.const (.string ⟨#[32]⟩))),O1 46 (.fldA 2 (.tmp 1)),O1 47 (.load none (.tmp 46)),O1 48 (.fldA 3 (.tmp 1)),O1 49 (.load none (.tmp 48)),O1 50 (.callF 50 [(.tmp 47),(.tmp 49)]),O1 51 (.bin .add (.tmp 45) (.tmp 50)),O1 52 (.bin .add (.tmp 51) (.const (.string ⟨#[32]⟩))),O1 53 (.fldA 2 (.tmp 1)),O1 54 (.load none (.tmp 53)),O1 55 (.bin .sub (.const (.int .u8 1)) (.tmp 54)),O1 56 (.fldA 4 (.tmp 1)),O1 57 (.load none (.tmp 56)),O1 58 (.callF 50 [(.tmp 55),(.tmp 57)]),O1 59 (.bin .add (.tmp 52) (.tmp 58)),O1 60 (.bin .add (.tmp 59) (.const (.string ⟨#[32]⟩))),O1 61 (.fldA 5 (.tmp 1)),O1 62 (.load none (.tmp 61)),O1 63 (.callF 49 [.tmp 62])] [O1 64 (.bin .add (.tmp 60) (.tmp 63)),
  O1 2 (.mov (.tmp 64))] [[],[],[],[],[],[],[],[],[],[],[],[false,false,false,false,false,false,false,false,false,false,false],[true,false,false,false,false,false,false,false,false,false,false,false],[true,true,false,false,false,false,false,false,false,false,false,false,false],[false,false,false,false,false,false,false,false,false,false,false,false,false,false],[true,false,false,false,false,false,false,false,false,false,false,false,false,false,false],[],[],[],[false,false,false,false,false,false,false,false,false,false,false,false,false,false,false,false,false,false,false],[true,false,false,false,false,false,false,false,false,false,false,false,false,false,false,false,false,false,false,false],[]] [2]) (.ret)) (.seq (.ops [O1 66 (.bin .eql (.tmp 11) (.const (.int .u8 7))),O1 65 (.mov (.tmp 66))] [1,3,11,65]) (.cond (.tmp 65) (.seq (.draw [O1 67 (.mov (.tmp 3)),O1 68 (.bin .add (.tmp 67) (.const (.string ⟨#[32]⟩))),O1 69 (.fldA 2 (.tmp 1)),O1 70 (.load none (.tmp 69)),O1 71 (.fldA 3 (.tmp 1)),O1 72 (.load none (.tmp 71)),O1 73 (.callF 50 [(.tmp 70),(.tmp 72)]),O1 74 (.bin .add (.tmp 68) (.tmp 73)),O1 75 (.bin .add (.tmp 74) (.const (.string ⟨#[32]⟩))),O1 76 (.fldA 2 (.tmp 1)),O1 77 (.load none (.tmp 76)),O1 78 (.bin .sub (.const (.int .u8 1)) (.tmp 77)),O1 79 (.fldA 4 (.tmp 1)),O1 80 (.load none (.tmp 79)),O1 81 (.callF 50 [(.tmp 78),(.tmp 80)])] [O1 82 (.bin .add (.tmp 75) (.tmp 81)),O1 2 (.mov (.tmp 82))] [[],[],[],[],[],[],[],[],[],[false,false,false,false,false,false,false,false,false],[true,false,false,false,false,false,false,false,false,false],[true,true,false,false,false,false,false,false,false,false,false],[false,false,false,false,false,false,false,false,false,false,false,false],[true,false,false,false,false,false,false,false,false,false,false,false,false],[]] [2]) (.ret)) (.seq (.ops [O1 84 (.bin .eql (.tmp 11) (.const (.int .u8 8))),O1 83 (.mov (.tmp 84))] [1,3,83]) (.cond (.tmp 83) (.seq (.ops [O1 85 (.mov (.tmp 3)),O1 86 (.bin .add (.tmp 85) (.const (.string ⟨#[32]⟩))),O1 87 (.fldA 6 (.tmp 1)),O1 88 (.load none (.tmp 87)),O1 89 (.callF 49 [.tmp 88]),O1 90 (.bin .add (.tmp 86) (.tmp 89)),O1 2 (.mov (.tmp 90))] [2]) (.ret)) (.skip))))))))))))) (.seq (.ops [O1 91 (.mov (.tmp 3)),O1 92 (.bin .add (.tmp 91) (.const (.string ⟨#[32]⟩))),O1 93 (.fldA 2 (.tmp 1)),O1 94 (.load none (.tmp 93)),O1 95 (.fldA 3 (.tmp 1)),O1 96 (.load none (.tmp 95)),O1 97 (.callF 50 [(.tmp 94),(.tmp 96)]),O1 98 (.bin .add (.tmp 92) (.tmp 97)),O1 2 (.mov (.tmp 98))] [2]) (.ret)))))),99,[(2,none)],true⟩
theorem ok25:FunOK Tryd.prog 25 c25:= .code ⟨Tryd.f25,_,c25.code,Tryd.func25,rfl,by kernel_rfl,rfl,by kernel_rfl,by kernel_rfl⟩
/- strings.Cut -/
def c26:AFun:=⟨.seq (.ops [O1 4 (.mov (.const (.string ⟨#[]⟩))),O1 5 (.mov (.const (.string ⟨#[]⟩))),O1 6 (.mov (.const (.bool false)))] [0,1]) (.seq (.ops [O1 7 (.mov (.tmp 0)),O1 8 (.mov (.tmp 1)),O1 9 (.callF 51 [(.tmp 7),(.tmp 8)]),O1 10 (.ext (.tmp 9) 0),O1 11 (.ext (.tmp 9) 1),O1 12 (.ext (.tmp 9) 2),O1 4 (.mov (.tmp 10)),O1 5 (.mov (.tmp 11)),O1 6 (.mov (.tmp 12))] [4,5,6]) (.ret)),13,[(4,none),(5,none),(6,none)],true⟩
theorem ok26:FunOK Tryd.prog 26 c26:= .code ⟨Tryd.f26,_,c26.code,Tryd.func26,rfl,by kernel_rfl,rfl,by kernel_rfl,by kernel_rfl⟩
/- slices.IndexFunc[[]raddle/code.word,raddle/code.word] -/
def c27l0:AC:= .seq (.ops [O1 9 (.bin .lss (.tmp 8) (.tmp 7))] [0,1,7,8,9]) (.seq (.cond (.tmp 9) (.skip) (.exit 0)) (.seq (.block 1 (.seq (.ops [O1 10 (.mov (.tmp 8)),O1 5 (.mov (.tmp 10))] [0,1,5,7,8]) (.seq (.ops [O1 11 (.mov (.tmp 1)),O1 12 (.mov (.tmp 0)),O1 13 (.mov (.tmp 5)),O1 14 (.idxS 2 (.tmp 12) (.tmp 13)),O1 15 (.load (some 2) (.tmp 14)),O1 16 (.callV (.tmp 11) [.tmp 15])] [0,1,5,7,8,16]) (.cond (.tmp 16) (.seq (.ops [O1 17 (.mov (.tmp 5)),O1 4 (.mov (.tmp 17))] [4]) (.ret)) (.skip))))) (.ops [O1 18 (.bin .add (.tmp 8) (.const (.int .i64 1))),O1 8 (.mov (.tmp 18))] [0,1,7,8])))
def c27:AFun:=⟨.seq (.ops [O1 4 (.mov (.const (.int .i64 0)))] [0,1]) (.seq (.seq (.ops [O1 6 (.mov (.tmp 0)),O1 7 (.len false (.tmp 6)),O1 8 (.mov (.const (.int .i64 0)))] [0,1,7,8]) (.block 0 (.loop [0,1,7,8] c27l0))) (.seq (.ops [O1 4 (.mov (.const (.int .i64 (-1))))] [4]) (.ret))),19,[(4,none)],true⟩
theorem ok27:FunOK Tryd.prog 27 c27:= .code ⟨Tryd.f27,_,c27.code,Tryd.func27,rfl,by kernel_rfl,rfl,by kernel_rfl,by kernel_rfl⟩
/- raddle/code.words -/
def c28:AFun:=⟨.seq (.ops [O1 0 (.mov (.const (.slice none 0 0)))] []) (.seq (.ops [O1 1 (.build [(.string ⟨#[]⟩),(.string ⟨#[]⟩)] [(0,1,(.const (.string ⟨#[]⟩))),(1,1,(.const (.string ⟨#[]⟩)))]),O1 2 (.build [(.string ⟨#[]⟩),(.string ⟨#[]⟩)] [(0,1,(.const (.string ⟨#[105,110]⟩))),(1,1,(.const (.string ⟨#[99]⟩)))]),O1 3 (.build [(.string ⟨#[]⟩),(.string ⟨#[]⟩)] [(0,1,(.const (.string ⟨#[111,117,116]⟩))),(1,1,(.const (.string ⟨#[99]⟩)))]),O1 4 (.build [(.string ⟨#[]⟩),(.string ⟨#[]⟩)] [(0,1,(.const (.string ⟨#[107,110,105,116]⟩))),(1,1,(.const (.string ⟨#[100,110,99]⟩)))]),O1 5 (.build [(.string ⟨#[]⟩),(.string ⟨#[]⟩)] [(0,1,(.const (.string ⟨#[116,117,99,107]⟩))),(1,1,(.const (.string ⟨#[100,110,99]⟩)))]),O1 6 (.build [(.string ⟨#[]⟩),(.string ⟨#[]⟩)] [(0,1,(.const (.string ⟨#[109,105,115,115]⟩))),(1,1,(.const (.string ⟨#[100,110,99]⟩)))]),O1 7 (.build [(.string ⟨#[]⟩),(.string ⟨#[]⟩)] [(0,1,(.const (.string ⟨#[115,112,108,105,116]⟩))),(1,1,(.const (.string ⟨#[100,110,111,99]⟩)))]),O1 8 (.build [(.string ⟨#[]⟩),(.string ⟨#[]⟩)] [(0,1,(.const (.string ⟨#[120,102,101,114]⟩))),(1,1,(.const (.string ⟨#[110,111]⟩)))]),O1 9 (.build [(.string ⟨#[]⟩),(.string ⟨#[]⟩)] [(0,1,(.const (.string ⟨#[114,97,99,107]⟩))),(1,1,(.const (.string ⟨#[114]⟩)))]),O1 10 (.build [(.string ⟨#[]⟩),(.string ⟨#[]⟩)] [(0,1,(.const (.string ⟨#[100,114,111,112]⟩))),(1,1,(.const (.string ⟨#[110]⟩)))]),O1 11 (.mkRow 59 2 10 [(.string ⟨#[]⟩),(.string ⟨#[]⟩)] [(0,2,(.tmp 1)),(2,2,(.tmp 2)),(4,2,(.tmp 3)),(6,2,(.tmp 4)),(8,2,(.tmp 5)),(10,2,(.tmp 6)),(12,2,(.tmp 7)),(14,2,(.tmp 8)),(16,2,(.tmp 9)),(18,2,(.tmp 10))]),O1 0 (.mov (.tmp 11))] [0]) (.ret)),12,[(0,none)],true⟩
theorem ok28:FunOK Tryd.prog 28 c28:= .code ⟨Tryd.f28,_,c28.code,Tryd.func28,rfl,by kernel_rfl,rfl,by kernel_rfl,by kernel_rfl⟩
/- raddle/code.Read$1 -/
def c29:AFun:=⟨.seq (.ops [O1 2 (.box 59 (.tmp 0)),O1 3 (.mov (.const (.bool false)))] [1,2]) (.seq (.ops [O1 4 (.fldA 0 (.tmp 2)),O1 5 (.load none (.tmp 4)),O1 6 (.load none (.tmp 1)),O1 7 (.bin .eql (.tmp 5) (.tmp 6)),O1 3 (.mov (.tmp 7))] [3]) (.ret)),8,[(3,none)],true⟩
theorem ok29:FunOK Tryd.prog 29 c29:= .code ⟨Tryd.f29,_,c29.code,Tryd.func29,rfl,by kernel_rfl,rfl,by kernel_rfl,by kernel_rfl⟩
/- raddle/code.hook -/
def c30:AFun:=⟨.seq (.ops [O1 2 (.mov (.const (.int .u8 0))),O1 3 (.mov (.const (.int .i64 0)))] [0,2]) (.seq (.ops [O1 7 (.mov (.tmp 0)),O1 8 (.callF 52 [(.tmp 7),(.const (.string ⟨#[98]⟩))]),O1 6 (.mov (.tmp 8)),O1 9 (.ext (.tmp 6) 0),O1 10 (.ext (.tmp 6) 1),O1 4 (.mov (.tmp 9)),O1 5 (.mov (.tmp 10))] [0,2,4,5]) (.seq (.seq (.ops [O1 11 (.mov (.tmp 5))] [0,2,4,11]) (.cond (.tmp 11) (.ops [O1 2 (.mov (.const (.int .u8 1)))] [2,4]) (.ops [O1 12 (.mov (.tmp 0)),O1 13 (.callF 53 [(.tmp 12),(.const (.string ⟨#[102]⟩))]),O1 4 (.mov (.tmp 13))] [2,4]))) (.seq (.ops [O1 15 (.mov (.tmp 4)),O1 16 (.callF 31 [.tmp 15]),O1 14 (.mov (.tmp 16)),O1 17 (.ext (.tmp 14) 0),O1 18 (.ext (.tmp 14) 1),O1 3 (.mov (.tmp 17))] [2,3]) (.seq (.ops [O1 19 (.mov (.tmp 2)),O1 20 (.mov (.tmp 3)),O1 2 (.mov (.tmp 19)),O1 3 (.mov (.tmp 20))] [2,3]) (.ret))))),21,[(2,none),(3,none)],true⟩
theorem ok30:FunOK Tryd.prog 30 c30:= .code ⟨Tryd.f30,_,c30.code,Tryd.func30,rfl,by kernel_rfl,rfl,by kernel_rfl,by kernel_rfl⟩
/- raddle/raddleref25.Cut -/
def c32l0:AC:= .seq (.seq (.ops [O1 8 (.mov (.tmp 7)),O1 9 (.mov (.tmp 0)),O1 10 (.len true (.tmp 9)),O1 11 (.bin .leq (.tmp 8) (.tmp 10))] [0,1,5,6,7,11]) (.cond (.tmp 11) (.skip) (.exit 0))) (.seq (.block 1 (.seq (.ops [O1 14 (.mov (.tmp 7)),O1 15 (.mov (.tmp 0)),O1 16 (.len true (.tmp 15)),O1 17 (.bin .eql (.tmp 14) (.tmp 16)),O1 18 (.mov (.tmp 17)),⟨some 19,some (18,false),.mov (.tmp 0)⟩,⟨some 20,some (18,false),.mov (.tmp 7)⟩,⟨some 21,some (18,false),.idxStr (.tmp 19) (.tmp 20)⟩,⟨some 22,some (18,false),.mov (.tmp 1)⟩,⟨some 23,some (18,false),.bin .eql (.tmp 21) (.tmp 22)⟩,O1 24 (.pick (.tmp 18) (.const (.bool true)) (.tmp 23))] [0,1,5,6,7,24]) (.cond (.tmp 24) (.seq (.ops [O1 25 (.mov (.tmp 5)),O1 26 (.mov (.tmp 0)),O1 27 (.mov (.tmp 6)),O1 28 (.mov (.tmp 7)),O1 29 (.slcS (.tmp 26) (some (.tmp 27)) (some (.tmp 28))),O1 30 (.mkRow 9 1 1 [(.string ⟨#[]⟩)] [(0,1,(.tmp 29))]),O1 31 (.app 9 1 16 (.tmp 25) (.tmp 30)),O1 5 (.mov (.tmp 31))] [0,1,5,7]) (.ops [O1 32 (.mov (.tmp 7)),O1 33 (.bin .add (.tmp 32) (.const (.int .i64 1))),O1 6 (.mov (.tmp 33))] [0,1,5,6,7])) (.skip)))) (.ops [O1 12 (.mov (.tmp 7)),O1 13 (.bin .add (.tmp 12) (.const (.int .i64 1))),O1 7 (.mov (.tmp 13))] [0,1,5,6,7]))
def c32:AFun:=⟨.seq (.ops [O1 4 (.mov (.const (.slice none 0 0)))] [0,1]) (.seq (.ops [O1 5 (.mov (.const (.slice none 0 0)))] [0,1,5]) (.seq (.ops [O1 6 (.mov (.const (.int .i64 0)))] [0,1,5,6]) (.seq (.seq (.ops [O1 7 (.mov (.const (.int .i64 0)))] [0,1,5,6,7]) (.block 0 (.loop [0,1,5,6,7] c32l0))) (.seq (.ops [O1 34 (.mov (.tmp 5)),O1 4 (.mov (.tmp 34))] [4]) (.ret))))),35,[(4,none)],true⟩
theorem ok32:FunOK Tryd.prog 32 c32:= .code ⟨Tryd.f32,_,c32.code,Tryd.func32,rfl,by kernel_rfl,rfl,by kernel_rfl,by kernel_rfl⟩
/- raddle/raddleref33.names -/
def c33:AFun:=⟨.seq (.ops [O1 2 (.mov (.const (.string ⟨#[]⟩)))] [0]) (.seq (.ops [O1 4 (.mkRow 9 1 10 [(.string ⟨#[]⟩)] [(0,1,(.const (.string ⟨#[]⟩))),(1,1,(.const (.string ⟨#[105,110]⟩))),(2,1,(.const (.string ⟨#[111,117,116]⟩))),(3,1,(.const (.string ⟨#[107,110,105,116]⟩))),(4,1,(.const (.string ⟨#[116,117,99,107]⟩))),(5,1,(.const (.string ⟨#[109,105,115,115]⟩))),(6,1,(.const (.string ⟨#[115,112,108,105,116]⟩))),(7,1,(.const (.string ⟨#[120,102,101,114]⟩))),(8,1,(.const (.string ⟨#[114,97,99,107]⟩))),(9,1,(.const (.string ⟨#[100,114,111,112]⟩)))]),O1 3 (.mov (.tmp 4))] [0,3]) (.seq (.seq (.ops [O1 5 (.mov (.tmp 0)),O1 6 (.convI .i64 (.tmp 5)),O1 7 (.mov (.tmp 3)),O1 8 (.len false (.tmp 7)),O1 9 (.bin .lss (.tmp 6) (.tmp 8))] [0,3,9]) (.cond (.tmp 9) (.seq (.ops [O1 10 (.mov (.tmp 3)),O1 11 (.mov (.tmp 0)),O1 12 (.idxS 1 (.tmp 10) (.tmp 11)),O1 13 (.load none (.tmp 12)),O1 2 (.mov (.tmp 13))] [2]) (.ret)) (.skip))) (.seq (.ops [O1 2 (.mov (.const (.string ⟨#[]⟩)))] [2]) (.ret)))),14,[(2,none)],true⟩
theorem ok33:FunOK Tryd.prog 33 c33:= .code ⟨Tryd.f33,_,c33.code,Tryd.func33,rfl,by kernel_rfl,rfl,by kernel_rfl,by kernel_rfl⟩
/- raddle/raddleref33.needle -/
def c34:AFun:=⟨.seq (.ops [O1 2 (.mov (.const (.int .u8 0))),O1 3 (.mov (.const (.int .i64 0))),O1 4 (.mov (.const (.bool false)))] [0]) (.seq (.seq (.ops [O1 7 (.mov (.tmp 0)),O1 8 (.len true (.tmp 7)),O1 9 (.bin .lss (.tmp 8) (.const (.int .i64 2))),O1 10 (.mov (.tmp 9)),⟨some 11,some (10,false),.mov (.tmp 0)⟩,⟨some 12,some (10,false),.idxStr (.tmp 11) (.const (.int .i64 0))⟩,⟨some 13,some (10,false),.bin .neq (.tmp 12) (.const (.int .u8 102))⟩,⟨some 14,some (10,false),.mov (.tmp 13)⟩,⟨some 15,some (14,true),.mov (.tmp 0)⟩,⟨some 16,some (14,true),.idxStr (.tmp 15) (.const (.int .i64 0))⟩,⟨some 17,some (14,true),.bin .neq (.tmp 16) (.const (.int .u8 98))⟩,⟨some 18,some (10,false),.pick (.tmp 14) (.tmp 17) (.const (.bool false))⟩,O1 19 (.pick (.tmp 10) (.const (.bool true)) (.tmp 18))] [0,19]) (.cond (.tmp 19) (.seq (.ops [O1 2 (.mov (.const (.int .u8 0))),O1 3 (.mov (.const (.int .i64 0))),O1 4 (.mov (.const (.bool false)))] [2,3,4]) (.ret)) (.skip))) (.seq (.ops [O1 21 (.mov (.tmp 0)),O1 22 (.slcS (.tmp 21) (some (.const (.int .i64 1))) none),O1 23 (.callF 35 [.tmp 22]),O1 20 (.mov (.tmp 23)),O1 24 (.ext (.tmp 20) 0),O1 25 (.ext (.tmp 20) 1),O1 5 (.mov (.tmp 24)),O1 6 (.mov (.tmp 25))] [0,5,6]) (.seq (.seq (.ops [O1 26 (.mov (.tmp 0)),O1 27 (.idxStr (.tmp 26) (.const (.int .i64 0))),O1 28 (.bin .eql (.tmp 27) (.const (.int .u8 98)))] [5,6,28]) (.cond (.tmp 28) (.seq (.ops [O1 29 (.mov (.tmp 5)),O1 30 (.mov (.tmp 6)),O1 2 (.mov (.const (.int .u8 1))),O1 3 (.mov (.tmp 29)),O1 4 (.mov (.tmp 30))] [2,3,4]) (.ret)) (.skip))) (.seq (.ops [O1 31 (.mov (.tmp 5)),O1 32 (.mov (.tmp 6)),O1 2 (.mov (.const (.int .u8 0))),O1 3 (.mov (.tmp 31)),O1 4 (.mov (.tmp 32))] [2,3,4]) (.ret))))),33,[(2,none),(3,none),(4,none)],true⟩
theorem ok34:FunOK Tryd.prog 34 c34:= .code ⟨Tryd.f34,_,c34.code,Tryd.func34,rfl,by kernel_rfl,rfl,by kernel_rfl,by kernel_rfl⟩
/- raddle/raddleref33.number -/
def c35:AFun:=⟨.seq (.ops [O1 2 (.mov (.const (.int .i64 0))),O1 3 (.mov (.const (.bool false)))] [0]) (.seq (.seq (.ops [O1 6 (.mov (.tmp 0)),O1 7 (.len true (.tmp 6)),O1 8 (.bin .gtr (.tmp 7) (.const (.int .i64 0))),O1 9 (.mov (.tmp 8)),⟨some 10,some (9,true),.mov (.tmp 0)⟩,⟨some 11,some (9,true),.idxStr (.tmp 10) (.const (.int .i64 0))⟩,⟨some 12,some (9,true),.bin .eql (.tmp 11) (.const (.int .u8 45))⟩,O1 13 (.pick (.tmp 9) (.tmp 12) (.const (.bool false)))] [0,13]) (.cond (.tmp 13) (.seq (.ops [O1 15 (.mov (.tmp 0)),O1 16 (.slcS (.tmp 15) (some (.const (.int .i64 1))) none),O1 17 (.callF 56 [.tmp 16]),O1 14 (.mov (.tmp 17)),O1 18 (.ext (.tmp 14) 0),O1 19 (.ext (.tmp 14) 1),O1 4 (.mov (.tmp 18)),O1 5 (.mov (.tmp 19))] [4,5]) (.seq (.ops [O1 20 (.mov (.tmp 4)),O1 21 (.un .neg (.tmp 20)),O1 22 (.mov (.tmp 5)),O1 23 (.mov (.tmp 22)),⟨some 24,some (23,true),.mov (.tmp 4)⟩,⟨some 25,some (23,true),.bin .gtr (.tmp 24) (.const (.int .i64 0))⟩,O1 26 (.pick (.tmp 23) (.tmp 25) (.const (.bool false))),O1 2 (.mov (.tmp 21)),O1 3 (.mov (.tmp 26))] [2,3]) (.ret))) (.skip))) (.seq (.ops [O1 27 (.mov (.tmp 0)),O1 28 (.callF 56 [.tmp 27]),O1 29 (.ext (.tmp 28) 0),O1 30 (.ext (.tmp 28) 1),O1 2 (.mov (.tmp 29)),O1 3 (.mov (.tmp 30))] [2,3]) (.ret))),31,[(2,none),(3,none)],true⟩
theorem ok35:FunOK Tryd.prog 35 c35:= .code ⟨Tryd.f35,_,c35.code,Tryd.func35,rfl,by kernel_rfl,rfl,by kernel_rfl,by kernel_rfl⟩
/- (*strings.Builder).WriteString -/
def c36:AFun:=⟨.seq (.ops [O1 4 (.mov (.const (.int .i64 0))),O1 5 (.mov (.const .nilIface))] [0,1]) (.seq (.ops [O1 6 (.mov (.tmp 0)),O1 7 (.callF 57 [.tmp 6])] [0,1]) (.seq (.ops [O1 8 (.mov (.tmp 0)),O1 9 (.mov (.tmp 0)),O1 10 (.nilChk (.tmp 9)),O1 11 (.fldA 1 (.tmp 10)),O1 12 (.load none (.tmp 11)),O1 13 (.mov (.tmp 1)),O1 14 (.app 5 1 1 (.tmp 12) (.tmp 13)),O1 15 (.nilChk (.tmp 8)),O1 16 (.fldA 1 (.tmp 15)),⟨none,none,.store 1 (.tmp 16) (.tmp 14)⟩] [1]) (.seq (.ops [O1 17 (.mov (.tmp 1)),O1 18 (.len true (.tmp 17)),O1 4 (.mov (.tmp 18)),O1 5 (.mov (.const .nilIface))] [4,5]) (.ret)))),19,[(4,none),(5,none)],false⟩
theorem ok36:FunOK Tryd.prog 36 c36:= .code ⟨Tryd.f36,_,c36.code,Tryd.func36,rfl,by kernel_rfl,rfl,by kernel_rfl,by kernel_rfl⟩
/- (*strings.Builder).Len -/
def c37:AFun:=⟨.seq (.ops [O1 2 (.mov (.const (.int .i64 0)))] [0]) (.seq (.ops [O1 3 (.mov (.tmp 0)),O1 4 (.nilChk (.tmp 3)),O1 5 (.fldA 1 (.tmp 4)),O1 6 (.load none (.tmp 5)),O1 7 (.len false (.tmp 6)),O1 2 (.mov (.tmp 7))] [2]) (.ret)),8,[(2,none)],true⟩
theorem ok37:FunOK Tryd.prog 37 c37:= .code ⟨Tryd.f37,_,c37.code,Tryd.func37,rfl,by kernel_rfl,rfl,by kernel_rfl,by kernel_rfl⟩
/- (*strings.Builder).String -/
def c38:AFun:=⟨.seq (.ops [O1 2 (.mov (.const (.string ⟨#[]⟩)))] [0]) (.seq (.draw [O1 3 (.mov (.tmp 0)),O1 4 (.nilChk (.tmp 3)),O1 5 (.fldA 1 (.tmp 4)),O1 6 (.load none (.tmp 5)),O1 7 (.sdata (.tmp 6)),O1 8 (.mov (.tmp 0)),O1 9 (.nilChk (.tmp 8)),O1 10 (.fldA 1 (.tmp 9)),O1 11 (.load none (.tmp 10)),O1 12 (.len false (.tmp 11))] [O1 13 (.ustr 5 (.tmp 7) (.tmp 12)),O1 2 (.mov (.tmp 13))] [[],[],[],[],[],[],[],[],[],[]] [2]) (.ret)),14,[(2,none)],false⟩
theorem ok38:FunOK Tryd.prog 38 c38:= .code ⟨Tryd.f38,_,c38.code,Tryd.func38,rfl,by kernel_rfl,rfl,by kernel_rfl,by kernel_rfl⟩
/- strings.Count -/
def c39l0:AC:= .block 1 (.seq (.ops [O1 20 (.mov (.tmp 0)),O1 21 (.mov (.tmp 1)),O1 22 (.callF 60 [(.tmp 20),(.tmp 21)]),O1 6 (.mov (.tmp 22))] [0,1,5,6]) (.seq (.seq (.ops [O1 23 (.mov (.tmp 6)),O1 24 (.bin .eql (.tmp 23) (.const (.int .i64 (-1))))] [0,1,5,6,24]) (.cond (.tmp 24) (.seq (.ops [O1 25 (.mov (.tmp 5)),O1 4 (.mov (.tmp 25))] [4]) (.ret)) (.skip))) (.seq (.ops [O1 26 (.mov (.tmp 5)),O1 27 (.bin .add (.tmp 26) (.const (.int .i64 1))),O1 5 (.mov (.tmp 27))] [0,1,5,6]) (.ops [O1 28 (.mov (.tmp 0)),O1 29 (.mov (.tmp 6)),O1 30 (.mov (.tmp 1)),O1 31 (.len true (.tmp 30)),O1 32 (.bin .add (.tmp 29) (.tmp 31)),O1 33 (.slcS (.tmp 28) (some (.tmp 32)) none),O1 0 (.mov (.tmp 33))] [0,1,5]))))
def c39:AFun:=⟨.seq (.ops [O1 4 (.mov (.const (.int .i64 0)))] [0,1]) (.seq (.seq (.ops [O1 7 (.mov (.tmp 1)),O1 8 (.len true (.tmp 7)),O1 9 (.bin .eql (.tmp 8) (.const (.int .i64 0)))] [0,1,9]) (.cond (.tmp 9) (.seq (.ops [O1 10 (.mov (.tmp 0)),O1 11 (.callF 58 [.tmp 10]),O1 12 (.bin .add (.tmp 11) (.const (.int .i64 1))),O1 4 (.mov (.tmp 12))] [4]) (.ret)) (.skip))) (.seq (.seq (.ops [O1 13 (.mov (.tmp 1)),O1 14 (.len true (.tmp 13)),O1 15 (.bin .eql (.tmp 14) (.const (.int .i64 1)))] [0,1,15]) (.cond (.tmp 15) (.seq (.ops [O1 16 (.mov (.tmp 0)),O1 17 (.mov (.tmp 1)),O1 18 (.idxStr (.tmp 17) (.const (.int .i64 0))),O1 19 (.callF 59 [(.tmp 16),(.tmp 18)]),O1 4 (.mov (.tmp 19))] [4]) (.ret)) (.skip))) (.seq (.ops [O1 5 (.mov (.const (.int .i64 0)))] [0,1,5]) (.block 0 (.loop [0,1,5] c39l0))))),34,[(4,none)],true⟩
theorem ok39:FunOK Tryd.prog 39 c39:= .code ⟨Tryd.f39,_,c39.code,Tryd.func39,rfl,by kernel_rfl,rfl,by kernel_rfl,by kernel_rfl⟩
/- strings.Contains -/
def c40:AFun:=⟨.seq (.ops [O1 4 (.mov (.const (.bool false)))] [0,1]) (.seq (.ops [O1 5 (.mov (.tmp 0)),O1 6 (.mov (.tmp 1)),O1 7 (.callF 60 [(.tmp 5),(.tmp 6)]),O1 8 (.bin .geq (.tmp 7) (.const (.int .i64 0))),O1 4 (.mov (.tmp 8))] [4]) (.ret)),9,[(4,none)],true⟩
theorem ok40:FunOK Tryd.prog 40 c40:= .code ⟨Tryd.f40,_,c40.code,Tryd.func40,rfl,by kernel_rfl,rfl,by kernel_rfl,by kernel_rfl⟩
/- raddle/raddleref33.Mirrored -/
def c41:AFun:=⟨.seq (.ops [O1 1 (.box 23 (.tmp 0)),O1 2 (.alloc 23 [(1,(.int .u8 0)),(1,(.bool false)),(1,(.int .u8 0)),(4,(.int .i64 0))])] [1,2]) (.seq (.ops [O1 3 (.fldA 3 (.tmp 1)),O1 4 (.load none (.tmp 3)),O1 5 (.un .neg (.tmp 4)),O1 6 (.fldA 4 (.tmp 1)),O1 7 (.load none (.tmp 6)),O1 8 (.un .neg (.tmp 7)),O1 9 (.fldA 6 (.tmp 1)),O1 10 (.load none (.tmp 9)),O1 11 (.un .neg (.tmp 10)),O1 12 (.fldA 3 (.tmp 1)),⟨none,none,.store 1 (.tmp 12) (.tmp 5)⟩,O1 13 (.fldA 4 (.tmp 1)),⟨none,none,.store 1 (.tmp 13) (.tmp 8)⟩,O1 14 (.fldA 6 (.tmp 1)),⟨none,none,.store 1 (.tmp 14) (.tmp 11)⟩] [1,2]) (.seq (.seq (.ops [O1 15 (.fldA 0 (.tmp 1)),O1 16 (.load none (.tmp 15)),O1 17 (.bin .geq (.tmp 16) (.const (.int .u8 3))),O1 18 (.mov (.tmp 17)),⟨some 19,some (18,true),.fldA 0 (.tmp 1)⟩,⟨some 20,some (18,true),.load none (.tmp 19)⟩,⟨some 21,some (18,true),.bin .leq (.tmp 20) (.const (.int .u8 6))⟩,O1 22 (.pick (.tmp 18) (.tmp 21) (.const (.bool false)))] [1,2,22]) (.cond (.tmp 22) (.ops [O1 23 (.fldA 1 (.tmp 1)),O1 24 (.load none (.tmp 23)),O1 25 (.un .not (.tmp 24)),O1 26 (.fldA 1 (.tmp 1)),⟨none,none,.store 1 (.tmp 26) (.tmp 25)⟩] [1,2]) (.skip))) (.seq (.ops [O1 27 (.load (some 7) (.tmp 1)),⟨none,none,.store 7 (.tmp 2) (.tmp 27)⟩] [2]) (.ret)))),28,[(2,(some (some 7)))],true⟩
theorem ok41:FunOK Tryd.prog 41 c41:= .code ⟨Tryd.f41,_,c41.code,Tryd.func41,rfl,by kernel_rfl,rfl,by kernel_rfl,by kernel_rfl⟩
/- raddle/bed.needle -/
def c43:AFun:=⟨.seq (.ops [O1 2 (.mov (.const (.bool false)))] [0]) (.seq (.ops [O1 3 (.mov (.tmp 0)),O1 4 (.bin .geq (.tmp 3) (.const (.int .i64 (-100)))),O1 5 (.mov (.tmp 4)),⟨some 6,some (5,true),.mov (.tmp 0)⟩,⟨some 7,some (5,true),.bin .leq (.tmp 6) (.const (.int .i64 100))⟩,O1 8 (.pick (.tmp 5) (.tmp 7) (.const (.bool false))),O1 2 (.mov (.tmp 8))] [2]) (.ret)),9,[(2,none)],true⟩
theorem ok43:FunOK Tryd.prog 43 c43:= .code ⟨Tryd.f43,_,c43.code,Tryd.func43,rfl,by kernel_rfl,rfl,by kernel_rfl,by kernel_rfl⟩
/- raddle/code.needle -/
def c44:AFun:=⟨.seq (.ops [O1 4 (.mov (.const (.string ⟨#[]⟩)))] [0,1]) (.seq (.draw [O1 5 (.mov (.tmp 0)),O1 6 (.mov (.tmp 0)),O1 7 (.bin .add (.tmp 6) (.const (.int .u8 1))),O1 8 (.slcS (.const (.string ⟨#[102,98]⟩)) (some (.tmp 5)) (some (.tmp 7))),O1 9 (.mov (.tmp 1)),O1 10 (.callF 45 [.tmp 9])] [O1 11 (.bin .add (.tmp 8) (.tmp 10)),O1 4 (.mov (.tmp 11))] [[],[],[],[],[],[]] [4]) (.ret)),12,[(4,none)],true⟩
theorem ok44:FunOK Tryd.prog 44 c44:= .code ⟨Tryd.f44,_,c44.code,Tryd.func44,rfl,by kernel_rfl,rfl,by kernel_rfl,by kernel_rfl⟩
/- raddle/raddleref30.feed -/
def c47:AFun:=⟨.seq (.ops [O1 2 (.mov (.const (.bool false)))] [0]) (.seq (.ops [O1 3 (.mov (.tmp 0)),O1 4 (.bin .geq (.tmp 3) (.const (.int .i64 1))),O1 5 (.mov (.tmp 4)),⟨some 6,some (5,true),.mov (.tmp 0)⟩,⟨some 7,some (5,true),.bin .leq (.tmp 6) (.const (.int .i64 6))⟩,O1 8 (.pick (.tmp 5) (.tmp 7) (.const (.bool false))),O1 2 (.mov (.tmp 8))] [2]) (.ret)),9,[(2,none)],true⟩
theorem ok47:FunOK Tryd.prog 47 c47:= .code ⟨Tryd.f47,_,c47.code,Tryd.func47,rfl,by kernel_rfl,rfl,by kernel_rfl,by kernel_rfl⟩
/- raddle/raddleref30.at -/
def c48:AFun:=⟨.seq (.ops [O1 2 (.mov (.const (.bool false)))] [0]) (.seq (.ops [O1 3 (.mov (.tmp 0)),O1 4 (.bin .geq (.tmp 3) (.const (.int .i64 (-100)))),O1 5 (.mov (.tmp 4)),⟨some 6,some (5,true),.mov (.tmp 0)⟩,⟨some 7,some (5,true),.bin .leq (.tmp 6) (.const (.int .i64 100))⟩,O1 8 (.pick (.tmp 5) (.tmp 7) (.const (.bool false))),O1 2 (.mov (.tmp 8))] [2]) (.ret)),9,[(2,none)],true⟩
theorem ok48:FunOK Tryd.prog 48 c48:= .code ⟨Tryd.f48,_,c48.code,Tryd.func48,rfl,by kernel_rfl,rfl,by kernel_rfl,by kernel_rfl⟩
/- raddle/raddleref33.Decimal -/
def c49:AFun:=⟨.seq (.ops [O1 2 (.mov (.const (.string ⟨#[]⟩)))] [0]) (.seq (.seq (.ops [O1 3 (.mov (.tmp 0)),O1 4 (.bin .lss (.tmp 3) (.const (.int .i64 0)))] [0,4]) (.cond (.tmp 4) (.seq (.ops [O1 5 (.mov (.tmp 0)),O1 6 (.un .neg (.tmp 5)),O1 7 (.callF 63 [.tmp 6]),O1 8 (.bin .add (.const (.string ⟨#[45]⟩)) (.tmp 7)),O1 2 (.mov (.tmp 8))] [2]) (.ret)) (.skip))) (.seq (.ops [O1 9 (.mov (.tmp 0)),O1 10 (.callF 63 [.tmp 9]),O1 2 (.mov (.tmp 10))] [2]) (.ret))),11,[(2,none)],true⟩
theorem ok49:FunOK Tryd.prog 49 c49:= .code ⟨Tryd.f49,_,c49.code,Tryd.func49,rfl,by kernel_rfl,rfl,by kernel_rfl,by kernel_rfl⟩
/- raddle/raddleref33.hook -/
def c50:AFun:=⟨.seq (.ops [O1 4 (.mov (.const (.string ⟨#[]⟩)))] [0,1]) (.seq (.seq (.ops [O1 5 (.mov (.tmp 0)),O1 6 (.bin .eql (.tmp 5) (.const (.int .u8 1)))] [1,6]) (.cond (.tmp 6) (.seq (.ops [O1 7 (.mov (.tmp 1)),O1 8 (.callF 49 [.tmp 7]),O1 9 (.bin .add (.const (.string ⟨#[98]⟩)) (.tmp 8)),O1 4 (.mov (.tmp 9))] [4]) (.ret)) (.skip))) (.seq (.ops [O1 10 (.mov (.tmp 1)),O1 11 (.callF 49 [.tmp 10]),O1 12 (.bin .add (.const (.string ⟨#[102]⟩)) (.tmp 11)),O1 4 (.mov (.tmp 12))] [4]) (.ret))),13,[(4,none)],true⟩
theorem ok50:FunOK Tryd.prog 50 c50:= .code ⟨Tryd.f50,_,c50.code,Tryd.func50,rfl,by kernel_rfl,rfl,by kernel_rfl,by kernel_rfl⟩
/- internal/stringslite.Cut -/
def c51:AFun:=⟨.seq (.ops [O1 4 (.mov (.const (.string ⟨#[]⟩))),O1 5 (.mov (.const (.string ⟨#[]⟩))),O1 6 (.mov (.const (.bool false)))] [0,1]) (.seq (.seq (.ops [O1 8 (.mov (.tmp 0)),O1 9 (.mov (.tmp 1)),O1 10 (.callF 64 [(.tmp 8),(.tmp 9)]),O1 7 (.mov (.tmp 10))] [0,1,7]) (.seq (.ops [O1 11 (.mov (.tmp 7)),O1 12 (.bin .geq (.tmp 11) (.const (.int .i64 0)))] [0,1,7,12]) (.cond (.tmp 12) (.seq (.draw [O1 13 (.mov (.tmp 0)),O1 14 (.mov (.tmp 7)),O1 15 (.slcS (.tmp 13) none (some (.tmp 14))),O1 16 (.mov (.tmp 0)),O1 17 (.mov (.tmp 7)),O1 18 (.mov (.tmp 1)),O1 19 (.len true (.tmp 18)),O1 20 (.bin .add (.tmp 17) (.tmp 19)),O1 21 (.slcS (.tmp 16) (some (.tmp 20)) none),O1 4 (.mov (.tmp 15))] [O1 5 (.mov (.tmp 21)),O1 6 (.mov (.const (.bool true)))] [[],[],[],[],[],[],[],[],[],[]] [4,5,6]) (.ret)) (.skip)))) (.seq (.ops [O1 22 (.mov (.tmp 0)),O1 4 (.mov (.tmp 22)),O1 5 (.mov (.const (.string ⟨#[]⟩))),O1 6 (.mov (.const (.bool false)))] [4,5,6]) (.ret))),23,[(4,none),(5,none),(6,none)],true⟩
theorem ok51:FunOK Tryd.prog 51 c51:= .code ⟨Tryd.f51,_,c51.code,Tryd.func51,rfl,by kernel_rfl,rfl,by kernel_rfl,by kernel_rfl⟩
/- strings.CutPrefix -/
def c52:AFun:=⟨.seq (.ops [O1 4 (.mov (.const (.string ⟨#[]⟩))),O1 5 (.mov (.const (.bool false)))] [0,1]) (.seq (.ops [O1 6 (.mov (.tmp 0)),O1 7 (.mov (.tmp 1)),O1 8 (.callF 65 [(.tmp 6),(.tmp 7)]),O1 9 (.ext (.tmp 8) 0),O1 10 (.ext (.tmp 8) 1),O1 4 (.mov (.tmp 9)),O1 5 (.mov (.tmp 10))] [4,5]) (.ret)),11,[(4,none),(5,none)],true⟩
theorem ok52:FunOK Tryd.prog 52 c52:= .code ⟨Tryd.f52,_,c52.code,Tryd.func52,rfl,by kernel_rfl,rfl,by kernel_rfl,by kernel_rfl⟩
/- strings.TrimPrefix -/
def c53:AFun:=⟨.seq (.ops [O1 4 (.mov (.const (.string ⟨#[]⟩)))] [0,1]) (.seq (.ops [O1 5 (.mov (.tmp 0)),O1 6 (.mov (.tmp 1)),O1 7 (.callF 66 [(.tmp 5),(.tmp 6)]),O1 4 (.mov (.tmp 7))] [4]) (.ret)),8,[(4,none)],true⟩
theorem ok53:FunOK Tryd.prog 53 c53:= .code ⟨Tryd.f53,_,c53.code,Tryd.func53,rfl,by kernel_rfl,rfl,by kernel_rfl,by kernel_rfl⟩
/- raddle/raddleref25.Number -/
def c56l0:AC:= .seq (.seq (.ops [O1 24 (.mov (.tmp 5)),O1 25 (.mov (.tmp 0)),O1 26 (.len true (.tmp 25)),O1 27 (.bin .lss (.tmp 24) (.tmp 26))] [0,4,5,27]) (.cond (.tmp 27) (.skip) (.exit 0))) (.seq (.block 1 (.seq (.seq (.ops [O1 30 (.mov (.tmp 0)),O1 31 (.mov (.tmp 5)),O1 32 (.idxStr (.tmp 30) (.tmp 31)),O1 33 (.bin .lss (.tmp 32) (.const (.int .u8 48))),O1 34 (.mov (.tmp 33)),⟨some 35,some (34,false),.mov (.tmp 0)⟩,⟨some 36,some (34,false),.mov (.tmp 5)⟩,⟨some 37,some (34,false),.idxStr (.tmp 35) (.tmp 36)⟩,⟨some 38,some (34,false),.bin .gtr (.tmp 37) (.const (.int .u8 57))⟩,O1 39 (.pick (.tmp 34) (.const (.bool true)) (.tmp 38))] [0,4,5,39]) (.cond (.tmp 39) (.seq (.ops [O1 2 (.mov (.const (.int .i64 0))),O1 3 (.mov (.const (.bool false)))] [2,3]) (.ret)) (.skip))) (.ops [O1 40 (.mov (.tmp 4)),O1 41 (.bin .mul (.const (.int .i64 10)) (.tmp 40)),O1 42 (.mov (.tmp 0)),O1 43 (.mov (.tmp 5)),O1 44 (.idxStr (.tmp 42) (.tmp 43)),O1 45 (.bin .sub (.tmp 44) (.const (.int .u8 48))),O1 46 (.convI .i64 (.tmp 45)),O1 47 (.bin .add (.tmp 41) (.tmp 46)),O1 4 (.mov (.tmp 47))] [0,4,5]))) (.ops [O1 28 (.mov (.tmp 5)),O1 29 (.bin .add (.tmp 28) (.const (.int .i64 1))),O1 5 (.mov (.tmp 29))] [0,4,5]))
def c56:AFun:=⟨.seq (.ops [O1 2 (.mov (.const (.int .i64 0))),O1 3 (.mov (.const (.bool false)))] [0]) (.seq (.seq (.ops [O1 6 (.mov (.tmp 0)),O1 7 (.len true (.tmp 6)),O1 8 (.bin .eql (.tmp 7) (.const (.int .i64 0))),O1 9 (.mov (.tmp 8)),⟨some 10,some (9,false),.mov (.tmp 0)⟩,⟨some 11,some (9,false),.len true (.tmp 10)⟩,⟨some 12,some (9,false),.bin .gtr (.tmp 11) (.const (.int .i64 4))⟩,O1 13 (.pick (.tmp 9) (.const (.bool true)) (.tmp 12)),O1 14 (.mov (.tmp 13)),⟨some 15,some (14,false),.mov (.tmp 0)⟩,⟨some 16,some (14,false),.len true (.tmp 15)⟩,⟨some 17,some (14,false),.bin .gtr (.tmp 16) (.const (.int .i64 1))⟩,⟨some 18,some (14,false),.mov (.tmp 17)⟩,⟨some 19,some (18,true),.mov (.tmp 0)⟩,⟨some 20,some (18,true),.idxStr (.tmp 19) (.const (.int .i64 0))⟩,⟨some 21,some (18,true),.bin .eql (.tmp 20) (.const (.int .u8 48))⟩,⟨some 22,some (14,false),.pick (.tmp 18) (.tmp 21) (.const (.bool false))⟩,O1 23 (.pick (.tmp 14) (.const (.bool true)) (.tmp 22))] [0,23]) (.cond (.tmp 23) (.seq (.ops [O1 2 (.mov (.const (.int .i64 0))),O1 3 (.mov (.const (.bool false)))] [2,3]) (.ret)) (.skip))) (.seq (.ops [O1 4 (.mov (.const (.int .i64 0)))] [0,4]) (.seq (.seq (.ops [O1 5 (.mov (.const (.int .i64 0)))] [0,4,5]) (.block 0 (.loop [0,4,5] c56l0))) (.seq (.ops [O1 48 (.mov (.tmp 4)),O1 2 (.mov (.tmp 48)),O1 3 (.mov (.const (.bool true)))] [2,3]) (.ret))))),49,[(2,none),(3,none)],true⟩
theorem ok56:FunOK Tryd.prog 56 c56:= .code ⟨Tryd.f56,_,c56.code,Tryd.func56,rfl,by kernel_rfl,rfl,by kernel_rfl,by kernel_rfl⟩
/- (*strings.Builder).copyCheck (1 operations that the interpreter lacks) -/
def c57:AFun:=⟨.seq (.ops [O1 2 (.mov (.tmp 0)),O1 3 (.nilChk (.tmp 2)),O1 4 (.fldA 0 (.tmp 3)),O1 5 (.load none (.tmp 4)),O1 6 (.eqNil 0 false (.tmp 5) (.const (.pointer none)))] [0,6]) (.cond (.tmp 6) (.ops [O1 7 (.mov (.tmp 0)),O1 8 (.mov (.tmp 0)),O1 9 (.toUns (.tmp 8)),O1 10 (.callF 72 [.tmp 9]),O1 11 (.fromUns 77 2 (.tmp 10)),O1 12 (.nilChk (.tmp 7)),O1 13 (.fldA 0 (.tmp 12)),⟨none,none,.store 1 (.tmp 13) (.tmp 11)⟩] []) (.seq (.ops [O1 14 (.mov (.tmp 0)),O1 15 (.nilChk (.tmp 14)),O1 16 (.fldA 0 (.tmp 15)),O1 17 (.load none (.tmp 16)),O1 18 (.mov (.tmp 0)),O1 19 (.eqPtr true (.tmp 17) (.tmp 18))] [19]) (.cond (.tmp 19) (.bad) (.skip)))),20,[],false⟩
theorem ok57:FunOK Tryd.prog 57 c57:= .code ⟨Tryd.f57,_,c57.code,Tryd.func57,rfl,by kernel_rfl,rfl,by kernel_rfl,by kernel_rfl⟩
/- unicode/utf8.RuneCountInString -/
def c58l0:AC:= .seq (.ops [O1 5 (.nextS (.tmp 4)),O1 6 (.ext (.tmp 5) 0)] [2,4,6]) (.seq (.cond (.tmp 6) (.skip) (.exit 0)) (.block 1 (.ops [O1 7 (.mov (.tmp 2)),O1 8 (.bin .add (.tmp 7) (.const (.int .i64 1))),O1 2 (.mov (.tmp 8))] [2,4])))
def c58:AFun:=⟨.seq (.ops [O1 2 (.mov (.const (.int .i64 0)))] [0,2]) (.seq (.seq (.ops [O1 3 (.mov (.tmp 0)),O1 4 (.rangeS (.tmp 3))] [2,4]) (.block 0 (.loop [2,4] c58l0))) (.seq (.ops [O1 9 (.mov (.tmp 2)),O1 2 (.mov (.tmp 9))] [2]) (.ret))),10,[(2,none)],true⟩
theorem ok58:FunOK Tryd.prog 58 c58:= .code ⟨Tryd.f58,_,c58.code,Tryd.func58,rfl,by kernel_rfl,rfl,by kernel_rfl,by kernel_rfl⟩
/- strings.Index -/
def c60:AFun:=⟨.seq (.ops [O1 4 (.mov (.const (.int .i64 0)))] [0,1]) (.seq (.ops [O1 5 (.mov (.tmp 0)),O1 6 (.mov (.tmp 1)),O1 7 (.callF 64 [(.tmp 5),(.tmp 6)]),O1 4 (.mov (.tmp 7))] [4]) (.ret)),8,[(4,none)],true⟩
theorem ok60:FunOK Tryd.prog 60 c60:= .code ⟨Tryd.f60,_,c60.code,Tryd.func60,rfl,by kernel_rfl,rfl,by kernel_rfl,by kernel_rfl⟩
/- raddle/raddleref25.Decimal -/
def c63l0:AC:= .seq (.seq (.ops [O1 12 (.mov (.tmp 0)),O1 13 (.bin .gtr (.tmp 12) (.const (.int .i64 0)))] [0,3,13]) (.cond (.tmp 13) (.skip) (.exit 0))) (.seq (.block 1 (.ops [O1 16 (.mov (.tmp 0)),O1 17 (.bin .rem (.tmp 16) (.const (.int .i64 10))),O1 18 (.bin .add (.const (.int .i64 48)) (.tmp 17)),O1 19 (.convI .u8 (.tmp 18)),O1 20 (.mkRow 5 1 1 [(.int .u8 0)] [(0,1,(.tmp 19))]),O1 21 (.b2s (.tmp 20)),O1 22 (.mov (.tmp 3)),O1 23 (.bin .add (.tmp 21) (.tmp 22)),O1 3 (.mov (.tmp 23))] [0,3])) (.ops [O1 14 (.mov (.tmp 0)),O1 15 (.bin .quo (.tmp 14) (.const (.int .i64 10))),O1 0 (.mov (.tmp 15))] [0,3]))
def c63:AFun:=⟨.seq (.ops [O1 2 (.mov (.const (.string ⟨#[]⟩)))] [0]) (.seq (.ops [O1 4 (.mov (.tmp 0)),O1 5 (.bin .rem (.tmp 4) (.const (.int .i64 10))),O1 6 (.bin .add (.const (.int .i64 48)) (.tmp 5)),O1 7 (.convI .u8 (.tmp 6)),O1 8 (.mkRow 5 1 1 [(.int .u8 0)] [(0,1,(.tmp 7))]),O1 9 (.b2s (.tmp 8)),O1 3 (.mov (.tmp 9))] [0,3]) (.seq (.seq (.ops [O1 10 (.mov (.tmp 0)),O1 11 (.bin .quo (.tmp 10) (.const (.int .i64 10))),O1 0 (.mov (.tmp 11))] [0,3]) (.block 0 (.loop [0,3] c63l0))) (.seq (.ops [O1 24 (.mov (.tmp 3)),O1 2 (.mov (.tmp 24))] [2]) (.ret)))),25,[(2,none)],true⟩
theorem ok63:FunOK Tryd.prog 63 c63:= .code ⟨Tryd.f63,_,c63.code,Tryd.func63,rfl,by kernel_rfl,rfl,by kernel_rfl,by kernel_rfl⟩
/- internal/stringslite.Index -/
def c64l0:AC:= .seq (.seq (.ops [O1 57 (.mov (.tmp 8)),O1 58 (.mov (.tmp 9)),O1 59 (.bin .lss (.tmp 57) (.tmp 58))] [0,1,5,6,7,8,9,10,59]) (.cond (.tmp 59) (.skip) (.exit 1))) (.block 2 (.seq (.seq (.ops [O1 60 (.mov (.tmp 0)),O1 61 (.mov (.tmp 8)),O1 62 (.idxStr (.tmp 60) (.tmp 61)),O1 63 (.mov (.tmp 6)),O1 64 (.bin .neq (.tmp 62) (.tmp 63))] [0,1,5,6,7,8,9,10,64]) (.cond (.tmp 64) (.seq (.ops [O1 65 (.mov (.tmp 0)),O1 66 (.mov (.tmp 8)),O1 67 (.bin .add (.tmp 66) (.const (.int .i64 1))),O1 68 (.mov (.tmp 9)),O1 69 (.slcS (.tmp 65) (some (.tmp 67)) (some (.tmp 68))),O1 70 (.mov (.tmp 6)),O1 71 (.callF 75 [(.tmp 69),(.tmp 70)]),O1 11 (.mov (.tmp 71))] [0,1,5,6,7,8,9,10,11]) (.seq (.seq (.ops [O1 72 (.mov (.tmp 11)),O1 73 (.bin .lss (.tmp 72) (.const (.int .i64 0)))] [0,1,5,6,7,8,9,10,11,73]) (.cond (.tmp 73) (.seq (.ops [O1 4 (.mov (.const (.int .i64 (-1))))] [4]) (.ret)) (.skip))) (.ops [O1 74 (.mov (.tmp 8)),O1 75 (.mov (.tmp 11)),O1 76 (.bin .add (.tmp 75) (.const (.int .i64 1))),O1 77 (.bin .add (.tmp 74) (.tmp 76)),O1 8 (.mov (.tmp 77))] [0,1,5,6,7,8,9,10]))) (.skip))) (.seq (.seq (.ops [O1 78 (.mov (.tmp 0)),O1 79 (.mov (.tmp 8)),O1 80 (.bin .add (.tmp 79) (.const (.int .i64 1))),O1 81 (.idxStr (.tmp 78) (.tmp 80)),O1 82 (.mov (.tmp 7)),O1 83 (.bin .eql (.tmp 81) (.tmp 82)),O1 84 (.mov (.tmp 83)),⟨some 85,some (84,true),.mov (.tmp 0)⟩,⟨some 86,some (84,true),.mov (.tmp 8)⟩,⟨some 87,some (84,true),.mov (.tmp 8)⟩,⟨some 88,some (84,true),.mov (.tmp 5)⟩,⟨some 89,some (84,true),.bin .add (.tmp 87) (.tmp 88)⟩,⟨some 90,some (84,true),.slcS (.tmp 85) (some (.tmp 86)) (some (.tmp 89))⟩,⟨some 91,some (84,true),.mov (.tmp 1)⟩,⟨some 92,some (84,true),.bin .eql (.tmp 90) (.tmp 91)⟩,O1 93 (.pick (.tmp 84) (.tmp 92) (.const (.bool false)))] [0,1,5,6,7,8,9,10,93]) (.cond (.tmp 93) (.seq (.ops [O1 94 (.mov (.tmp 8)),O1 4 (.mov (.tmp 94))] [4]) (.ret)) (.skip))) (.seq (.ops [O1 95 (.mov (.tmp 8)),O1 96 (.bin .add (.tmp 95) (.const (.int .i64 1))),O1 8 (.mov (.tmp 96))] [0,1,5,6,7,8,9,10]) (.seq (.ops [O1 97 (.mov (.tmp 10)),O1 98 (.bin .add (.tmp 97) (.const (.int .i64 1))),O1 10 (.mov (.tmp 98))] [0,1,5,6,7,8,9,10]) (.seq (.ops [O1 99 (.mov (.tmp 5)),O1 100 (.load none (.global 0)),O1 101 (.bin .leq (.tmp 99) (.tmp 100)),O1 102 (.mov (.tmp 101)),⟨some 103,some (102,true),.mov (.tmp 10)⟩,⟨some 104,some (102,true),.mov (.tmp 8)⟩,⟨some 105,some (102,true),.callF 77 [.tmp 104]⟩,⟨some 106,some (102,true),.bin .gtr (.tmp 103) (.tmp 105)⟩,O1 107 (.pick (.tmp 102) (.tmp 106) (.const (.bool false)))] [0,1,5,6,7,8,9,10,107]) (.cond (.tmp 107) (.seq (.ops [O1 108 (.mov (.tmp 0)),O1 109 (.mov (.tmp 8)),O1 110 (.slcS (.tmp 108) (some (.tmp 109)) none),O1 111 (.mov (.tmp 1)),O1 112 (.callF 76 [(.tmp 110),(.tmp 111)]),O1 12 (.mov (.tmp 112))] [8,12]) (.seq (.seq (.ops [O1 113 (.mov (.tmp 12)),O1 114 (.bin .geq (.tmp 113) (.const (.int .i64 0)))] [8,12,114]) (.cond (.tmp 114) (.seq (.ops [O1 115 (.mov (.tmp 12)),O1 116 (.mov (.tmp 8)),O1 117 (.bin .add (.tmp 115) (.tmp 116)),
  O1 4 (.mov (.tmp 117))] [4]) (.ret)) (.skip))) (.seq (.ops [O1 4 (.mov (.const (.int .i64 (-1))))] [4]) (.ret)))) (.seq (.ops [O1 118 (.mov (.tmp 5)),O1 119 (.load none (.global 0)),O1 120 (.bin .gtr (.tmp 118) (.tmp 119)),O1 121 (.mov (.tmp 120)),⟨some 122,some (121,true),.mov (.tmp 10)⟩,⟨some 123,some (121,true),.mov (.tmp 8)⟩,⟨some 124,some (121,true),.bin .shr (.tmp 123) (.const (.int .u64 4))⟩,⟨some 125,some (121,true),.bin .add (.const (.int .i64 4)) (.tmp 124)⟩,⟨some 126,some (121,true),.bin .geq (.tmp 122) (.tmp 125)⟩,O1 127 (.pick (.tmp 121) (.tmp 126) (.const (.bool false))),O1 128 (.mov (.tmp 127)),⟨some 129,some (128,true),.mov (.tmp 8)⟩,⟨some 130,some (128,true),.mov (.tmp 9)⟩,⟨some 131,some (128,true),.bin .lss (.tmp 129) (.tmp 130)⟩,O1 132 (.pick (.tmp 128) (.tmp 131) (.const (.bool false)))] [0,1,5,6,7,8,9,10,132]) (.cond (.tmp 132) (.seq (.ops [O1 133 (.mov (.tmp 0)),O1 134 (.mov (.tmp 8)),O1 135 (.slcS (.tmp 133) (some (.tmp 134)) none),O1 136 (.mov (.tmp 1)),O1 137 (.callF 78 [(.tmp 135),(.tmp 136)]),O1 13 (.mov (.tmp 137))] [8,13]) (.seq (.seq (.ops [O1 138 (.mov (.tmp 13)),O1 139 (.bin .lss (.tmp 138) (.const (.int .i64 0)))] [8,13,139]) (.cond (.tmp 139) (.seq (.ops [O1 4 (.mov (.const (.int .i64 (-1))))] [4]) (.ret)) (.skip))) (.seq (.ops [O1 140 (.mov (.tmp 8)),O1 141 (.mov (.tmp 13)),O1 142 (.bin .add (.tmp 140) (.tmp 141)),O1 4 (.mov (.tmp 142))] [4]) (.ret)))) (.skip))))))))))
def c64:AFun:=⟨.seq (.ops [O1 4 (.mov (.const (.int .i64 0)))] [0,1]) (.seq (.ops [O1 14 (.mov (.tmp 1)),O1 15 (.len true (.tmp 14)),O1 5 (.mov (.tmp 15))] [0,1,5]) (.seq (.block 0 (.seq (.ops [O1 17 (.mov (.tmp 5)),O1 18 (.bin .eql (.tmp 17) (.const (.int .i64 0))),O1 19 (.mov (.tmp 18)),⟨some 20,some (19,false),.mov (.tmp 1)⟩,⟨some 21,some (19,false),.mov (.tmp 0)⟩,⟨some 22,some (19,false),.bin .eql (.tmp 20) (.tmp 21)⟩,O1 23 (.pick (.tmp 19) (.const (.bool true)) (.tmp 22)),O1 16 (.mov (.tmp 23))] [0,1,5,16]) (.cond (.tmp 16) (.seq (.ops [O1 4 (.mov (.const (.int .i64 0)))] [4]) (.ret)) (.seq (.ops [O1 25 (.mov (.tmp 5)),O1 26 (.bin .eql (.tmp 25) (.const (.int .i64 1))),O1 24 (.mov (.tmp 26))] [0,1,5,24]) (.cond (.tmp 24) (.seq (.ops [O1 27 (.mov (.tmp 0)),O1 28 (.mov (.tmp 1)),O1 29 (.idxStr (.tmp 28) (.const (.int .i64 0))),O1 30 (.callF 75 [(.tmp 27),(.tmp 29)]),O1 4 (.mov (.tmp 30))] [4]) (.ret)) (.seq (.ops [O1 32 (.mov (.tmp 5)),O1 33 (.mov (.tmp 0)),O1 34 (.len true (.tmp 33)),O1 35 (.bin .geq (.tmp 32) (.tmp 34)),O1 31 (.mov (.tmp 35))] [0,1,5,31]) (.cond (.tmp 31) (.seq (.ops [O1 4 (.mov (.const (.int .i64 (-1))))] [4]) (.ret)) (.seq (.ops [O1 37 (.mov (.tmp 5)),O1 38 (.load none (.global 0)),O1 39 (.bin .leq (.tmp 37) (.tmp 38)),O1 40 (.mov (.tmp 39)),⟨some 41,some (40,true),.mov (.tmp 0)⟩,⟨some 42,some (40,true),.len true (.tmp 41)⟩,⟨some 43,some (40,true),.bin .leq (.tmp 42) (.const (.int .i64 64))⟩,O1 44 (.pick (.tmp 40) (.tmp 43) (.const (.bool false))),O1 36 (.mov (.tmp 44))] [0,1,5,36]) (.cond (.tmp 36) (.seq (.ops [O1 45 (.mov (.tmp 0)),O1 46 (.mov (.tmp 1)),O1 47 (.callF 76 [(.tmp 45),(.tmp 46)]),O1 4 (.mov (.tmp 47))] [4]) (.ret)) (.skip)))))))))) (.seq (.ops [O1 48 (.mov (.tmp 1)),O1 49 (.idxStr (.tmp 48) (.const (.int .i64 0))),O1 6 (.mov (.tmp 49))] [0,1,5,6]) (.seq (.ops [O1 50 (.mov (.tmp 1)),O1 51 (.idxStr (.tmp 50) (.const (.int .i64 1))),O1 7 (.mov (.tmp 51))] [0,1,5,6,7]) (.seq (.ops [O1 8 (.mov (.const (.int .i64 0)))] [0,1,5,6,7,8]) (.seq (.ops [O1 52 (.mov (.tmp 0)),O1 53 (.len true (.tmp 52)),O1 54 (.mov (.tmp 5)),O1 55 (.bin .sub (.tmp 53) (.tmp 54)),O1 56 (.bin .add (.tmp 55) (.const (.int .i64 1))),O1 9 (.mov (.tmp 56))] [0,1,5,6,7,8,9]) (.seq (.ops [O1 10 (.mov (.const (.int .i64 0)))] [0,1,5,6,7,8,9,10]) (.seq (.block 1 (.loop [0,1,5,6,7,8,9,10] c64l0)) (.seq (.ops [O1 4 (.mov (.const (.int .i64 (-1))))] [4]) (.ret)))))))))),143,[(4,none)],true⟩
theorem ok64:FunOK Tryd.prog 64 c64:= .code ⟨Tryd.f64,_,c64.code,Tryd.func64,rfl,by kernel_rfl,rfl,by kernel_rfl,by kernel_rfl⟩
/- internal/stringslite.CutPrefix -/
def c65:AFun:=⟨.seq (.ops [O1 4 (.mov (.const (.string ⟨#[]⟩))),O1 5 (.mov (.const (.bool false)))] [0,1]) (.seq (.seq (.ops [O1 6 (.mov (.tmp 0)),O1 7 (.mov (.tmp 1)),O1 8 (.callF 79 [(.tmp 6),(.tmp 7)]),O1 9 (.un .not (.tmp 8))] [0,1,9]) (.cond (.tmp 9) (.seq (.ops [O1 10 (.mov (.tmp 0)),O1 4 (.mov (.tmp 10)),O1 5 (.mov (.const (.bool false)))] [4,5]) (.ret)) (.skip))) (.seq (.ops [O1 11 (.mov (.tmp 0)),O1 12 (.mov (.tmp 1)),O1 13 (.len true (.tmp 12)),O1 14 (.slcS (.tmp 11) (some (.tmp 13)) none),O1 4 (.mov (.tmp 14)),O1 5 (.mov (.const (.bool true)))] [4,5]) (.ret))),15,[(4,none),(5,none)],true⟩
theorem ok65:FunOK Tryd.prog 65 c65:= .code ⟨Tryd.f65,_,c65.code,Tryd.func65,rfl,by kernel_rfl,rfl,by kernel_rfl,by kernel_rfl⟩
/- internal/stringslite.TrimPrefix -/
def c66:AFun:=⟨.seq (.ops [O1 4 (.mov (.const (.string ⟨#[]⟩)))] [0,1]) (.seq (.seq (.ops [O1 5 (.mov (.tmp 0)),O1 6 (.mov (.tmp 1)),O1 7 (.callF 79 [(.tmp 5),(.tmp 6)])] [0,1,7]) (.cond (.tmp 7) (.seq (.ops [O1 8 (.mov (.tmp 0)),O1 9 (.mov (.tmp 1)),O1 10 (.len true (.tmp 9)),O1 11 (.slcS (.tmp 8) (some (.tmp 10)) none),O1 4 (.mov (.tmp 11))] [4]) (.ret)) (.skip))) (.seq (.ops [O1 12 (.mov (.tmp 0)),O1 4 (.mov (.tmp 12))] [4]) (.ret))),13,[(4,none)],true⟩
theorem ok66:FunOK Tryd.prog 66 c66:= .code ⟨Tryd.f66,_,c66.code,Tryd.func66,rfl,by kernel_rfl,rfl,by kernel_rfl,by kernel_rfl⟩
/- internal/stringslite.IndexByte -/
def c75:AFun:=⟨.seq (.ops [O1 4 (.mov (.const (.int .i64 0)))] [0,1]) (.seq (.ops [O1 5 (.mov (.tmp 0)),O1 6 (.mov (.tmp 1)),O1 7 (.callF 88 [(.tmp 5),(.tmp 6)]),O1 4 (.mov (.tmp 7))] [4]) (.ret)),8,[(4,none)],true⟩
theorem ok75:FunOK Tryd.prog 75 c75:= .code ⟨Tryd.f75,_,c75.code,Tryd.func75,rfl,by kernel_rfl,rfl,by kernel_rfl,by kernel_rfl⟩
/- internal/bytealg.Cutover -/
def c77:AFun:=⟨.seq (.ops [O1 2 (.mov (.const (.int .i64 0)))] [0]) (.seq (.ops [O1 3 (.mov (.tmp 0)),O1 4 (.bin .add (.tmp 3) (.const (.int .i64 16))),O1 5 (.bin .quo (.tmp 4) (.const (.int .i64 8))),O1 2 (.mov (.tmp 5))] [2]) (.ret)),6,[(2,none)],true⟩
theorem ok77:FunOK Tryd.prog 77 c77:= .code ⟨Tryd.f77,_,c77.code,Tryd.func77,rfl,by kernel_rfl,rfl,by kernel_rfl,by kernel_rfl⟩
/- internal/bytealg.IndexRabinKarp[string] -/
def c78l0:AC:= .seq (.seq (.ops [O1 41 (.mov (.tmp 10)),O1 42 (.mov (.tmp 0)),O1 43 (.len true (.tmp 42)),O1 44 (.bin .lss (.tmp 41) (.tmp 43))] [0,1,5,6,7,8,10,44]) (.cond (.tmp 44) (.skip) (.exit 2))) (.block 3 (.seq (.ops [O1 45 (.mov (.tmp 8)),O1 46 (.bin .mul (.tmp 45) (.const (.int .u32 16777619))),O1 8 (.mov (.tmp 46))] [0,1,5,6,7,8,10]) (.seq (.ops [O1 47 (.mov (.tmp 8)),O1 48 (.mov (.tmp 0)),O1 49 (.mov (.tmp 10)),O1 50 (.idxStr (.tmp 48) (.tmp 49)),O1 51 (.convI .u32 (.tmp 50)),O1 52 (.bin .add (.tmp 47) (.tmp 51)),O1 8 (.mov (.tmp 52))] [0,1,5,6,7,8,10]) (.seq (.ops [O1 53 (.mov (.tmp 8)),O1 54 (.mov (.tmp 6)),O1 55 (.mov (.tmp 0)),O1 56 (.mov (.tmp 10)),O1 57 (.mov (.tmp 7)),O1 58 (.bin .sub (.tmp 56) (.tmp 57)),O1 59 (.idxStr (.tmp 55) (.tmp 58)),O1 60 (.convI .u32 (.tmp 59)),O1 61 (.bin .mul (.tmp 54) (.tmp 60)),O1 62 (.bin .sub (.tmp 53) (.tmp 61)),O1 8 (.mov (.tmp 62))] [0,1,5,6,7,8,10]) (.seq (.ops [O1 63 (.mov (.tmp 10)),O1 64 (.bin .add (.tmp 63) (.const (.int .i64 1))),O1 10 (.mov (.tmp 64))] [0,1,5,6,7,8,10]) (.seq (.ops [O1 65 (.mov (.tmp 8)),O1 66 (.mov (.tmp 5)),O1 67 (.bin .eql (.tmp 65) (.tmp 66)),O1 68 (.mov (.tmp 67)),⟨some 69,some (68,true),.mov (.tmp 0)⟩,⟨some 70,some (68,true),.mov (.tmp 10)⟩,⟨some 71,some (68,true),.mov (.tmp 7)⟩,⟨some 72,some (68,true),.bin .sub (.tmp 70) (.tmp 71)⟩,⟨some 73,some (68,true),.mov (.tmp 10)⟩,⟨some 74,some (68,true),.slcS (.tmp 69) (some (.tmp 72)) (some (.tmp 73))⟩,⟨some 75,some (68,true),.mov (.tmp 1)⟩,⟨some 76,some (68,true),.bin .eql (.tmp 74) (.tmp 75)⟩,O1 77 (.pick (.tmp 68) (.tmp 76) (.const (.bool false)))] [0,1,5,6,7,8,10,77]) (.cond (.tmp 77) (.seq (.ops [O1 78 (.mov (.tmp 10)),O1 79 (.mov (.tmp 7)),O1 80 (.bin .sub (.tmp 78) (.tmp 79)),O1 4 (.mov (.tmp 80))] [4]) (.ret)) (.skip))))))))
def c78l1:AC:= .seq (.seq (.ops [O1 18 (.mov (.tmp 9)),O1 19 (.mov (.tmp 7)),O1 20 (.bin .lss (.tmp 18) (.tmp 19))] [0,1,5,6,7,8,9,20]) (.cond (.tmp 20) (.skip) (.exit 0))) (.seq (.block 1 (.ops [O1 23 (.mov (.tmp 8)),O1 24 (.bin .mul (.tmp 23) (.const (.int .u32 16777619))),O1 25 (.mov (.tmp 0)),O1 26 (.mov (.tmp 9)),O1 27 (.idxStr (.tmp 25) (.tmp 26)),O1 28 (.convI .u32 (.tmp 27)),O1 29 (.bin .add (.tmp 24) (.tmp 28)),O1 8 (.mov (.tmp 29))] [0,1,5,6,7,8,9])) (.ops [O1 21 (.mov (.tmp 9)),O1 22 (.bin .add (.tmp 21) (.const (.int .i64 1))),O1 9 (.mov (.tmp 22))] [0,1,5,6,7,8,9]))
def c78:AFun:=⟨.seq (.ops [O1 4 (.mov (.const (.int .i64 0)))] [0,1]) (.seq (.ops [O1 12 (.mov (.tmp 1)),O1 13 (.callF 89 [.tmp 12]),O1 11 (.mov (.tmp 13)),O1 14 (.ext (.tmp 11) 0),O1 15 (.ext (.tmp 11) 1),O1 5 (.mov (.tmp 14)),O1 6 (.mov (.tmp 15))] [0,1,5,6]) (.seq (.ops [O1 16 (.mov (.tmp 1)),O1 17 (.len true (.tmp 16)),O1 7 (.mov (.tmp 17))] [0,1,5,6,7]) (.seq (.ops [O1 8 (.mov (.const (.int .u32 0)))] [0,1,5,6,7,8]) (.seq (.seq (.ops [O1 9 (.mov (.const (.int .i64 0)))] [0,1,5,6,7,8,9]) (.block 0 (.loop [0,1,5,6,7,8,9] c78l1))) (.seq (.seq (.ops [O1 30 (.mov (.tmp 8)),O1 31 (.mov (.tmp 5)),O1 32 (.bin .eql (.tmp 30) (.tmp 31)),O1 33 (.mov (.tmp 32)),⟨some 34,some (33,true),.mov (.tmp 0)⟩,⟨some 35,some (33,true),.mov (.tmp 7)⟩,⟨some 36,some (33,true),.slcS (.tmp 34) none (some (.tmp 35))⟩,⟨some 37,some (33,true),.mov (.tmp 1)⟩,⟨some 38,some (33,true),.bin .eql (.tmp 36) (.tmp 37)⟩,O1 39 (.pick (.tmp 33) (.tmp 38) (.const (.bool false)))] [0,1,5,6,7,8,39]) (.cond (.tmp 39) (.seq (.ops [O1 4 (.mov (.const (.int .i64 0)))] [4]) (.ret)) (.skip))) (.seq (.seq (.ops [O1 40 (.mov (.tmp 7)),O1 10 (.mov (.tmp 40))] [0,1,5,6,7,8,10]) (.block 2 (.loop [0,1,5,6,7,8,10] c78l0))) (.seq (.ops [O1 4 (.mov (.const (.int .i64 (-1))))] [4]) (.ret)))))))),81,[(4,none)],true⟩
theorem ok78:FunOK Tryd.prog 78 c78:= .code ⟨Tryd.f78,_,c78.code,Tryd.func78,rfl,by kernel_rfl,rfl,by kernel_rfl,by kernel_rfl⟩
/- internal/stringslite.HasPrefix -/
def c79:AFun:=⟨.seq (.ops [O1 4 (.mov (.const (.bool false)))] [0,1]) (.seq (.ops [O1 5 (.mov (.tmp 0)),O1 6 (.len true (.tmp 5)),O1 7 (.mov (.tmp 1)),O1 8 (.len true (.tmp 7)),O1 9 (.bin .geq (.tmp 6) (.tmp 8)),O1 10 (.mov (.tmp 9)),⟨some 11,some (10,true),.mov (.tmp 0)⟩,⟨some 12,some (10,true),.mov (.tmp 1)⟩,⟨some 13,some (10,true),.len true (.tmp 12)⟩,⟨some 14,some (10,true),.slcS (.tmp 11) none (some (.tmp 13))⟩,⟨some 15,some (10,true),.mov (.tmp 1)⟩,⟨some 16,some (10,true),.bin .eql (.tmp 14) (.tmp 15)⟩,O1 17 (.pick (.tmp 10) (.tmp 16) (.const (.bool false))),O1 4 (.mov (.tmp 17))] [4]) (.ret)),18,[(4,none)],true⟩
theorem ok79:FunOK Tryd.prog 79 c79:= .code ⟨Tryd.f79,_,c79.code,Tryd.func79,rfl,by kernel_rfl,rfl,by kernel_rfl,by kernel_rfl⟩
/- internal/bytealg.hashStr[string] -/
def c89l0:AC:= .seq (.seq (.ops [O1 24 (.mov (.tmp 8)),O1 25 (.bin .gtr (.tmp 24) (.const (.int .i64 0)))] [4,6,7,8,25]) (.cond (.tmp 25) (.skip) (.exit 2))) (.seq (.block 3 (.seq (.seq (.ops [O1 28 (.mov (.tmp 8)),O1 29 (.bin .and (.tmp 28) (.const (.int .i64 1))),O1 30 (.bin .neq (.tmp 29) (.const (.int .i64 0)))] [4,6,7,8,30]) (.cond (.tmp 30) (.ops [O1 31 (.mov (.tmp 6)),O1 32 (.mov (.tmp 7)),O1 33 (.bin .mul (.tmp 31) (.tmp 32)),O1 6 (.mov (.tmp 33))] [4,6,7,8]) (.skip))) (.ops [O1 34 (.mov (.tmp 7)),O1 35 (.mov (.tmp 7)),O1 36 (.bin .mul (.tmp 34) (.tmp 35)),O1 7 (.mov (.tmp 36))] [4,6,7,8]))) (.ops [O1 26 (.mov (.tmp 8)),O1 27 (.bin .shr (.tmp 26) (.const (.int .u64 1))),O1 8 (.mov (.tmp 27))] [4,6,7,8]))
def c89l1:AC:= .seq (.seq (.ops [O1 9 (.mov (.tmp 5)),O1 10 (.mov (.tmp 0)),O1 11 (.len true (.tmp 10)),O1 12 (.bin .lss (.tmp 9) (.tmp 11))] [0,4,5,12]) (.cond (.tmp 12) (.skip) (.exit 0))) (.seq (.block 1 (.ops [O1 15 (.mov (.tmp 4)),O1 16 (.bin .mul (.tmp 15) (.const (.int .u32 16777619))),O1 17 (.mov (.tmp 0)),O1 18 (.mov (.tmp 5)),O1 19 (.idxStr (.tmp 17) (.tmp 18)),O1 20 (.convI .u32 (.tmp 19)),O1 21 (.bin .add (.tmp 16) (.tmp 20)),O1 4 (.mov (.tmp 21))] [0,4,5])) (.ops [O1 13 (.mov (.tmp 5)),O1 14 (.bin .add (.tmp 13) (.const (.int .i64 1))),O1 5 (.mov (.tmp 14))] [0,4,5]))
def c89:AFun:=⟨.seq (.ops [O1 2 (.mov (.const (.int .u32 0))),O1 3 (.mov (.const (.int .u32 0)))] [0]) (.seq (.ops [O1 4 (.mov (.const (.int .u32 0)))] [0,4]) (.seq (.seq (.ops [O1 5 (.mov (.const (.int .i64 0)))] [0,4,5]) (.block 0 (.loop [0,4,5] c89l1))) (.seq (.ops [O1 6 (.mov (.const (.int .u32 1))),O1 7 (.mov (.const (.int .u32 16777619)))] [0,4,6,7]) (.seq (.seq (.ops [O1 22 (.mov (.tmp 0)),O1 23 (.len true (.tmp 22)),O1 8 (.mov (.tmp 23))] [4,6,7,8]) (.block 2 (.loop [4,6,7,8] c89l0))) (.seq (.ops [O1 37 (.mov (.tmp 4)),O1 38 (.mov (.tmp 6)),O1 2 (.mov (.tmp 37)),O1 3 (.mov (.tmp 38))] [2,3]) (.ret)))))),39,[(2,none),(3,none)],true⟩
theorem ok89:FunOK Tryd.prog 89 c89:= .code ⟨Tryd.f89,_,c89.code,Tryd.func89,rfl,by kernel_rfl,rfl,by kernel_rfl,by kernel_rfl⟩
def fns:FuncId→Option AFun
 |4=>some c4
 |8=>some c8
 |10=>some c10
 |11=>some c11
 |12=>some c12
 |13=>some c13
 |14=>some c14
 |15=>some c15
 |16=>some c16
 |17=>some c17
 |18=>some c18
 |19=>some c19
 |22=>some c22
 |23=>some c23
 |24=>some c24
 |25=>some c25
 |26=>some c26
 |27=>some c27
 |28=>some c28
 |29=>some c29
 |30=>some c30
 |32=>some c32
 |33=>some c33
 |34=>some c34
 |35=>some c35
 |36=>some c36
 |37=>some c37
 |38=>some c38
 |39=>some c39
 |40=>some c40
 |41=>some c41
 |43=>some c43
 |44=>some c44
 |47=>some c47
 |48=>some c48
 |49=>some c49
 |50=>some c50
 |51=>some c51
 |52=>some c52
 |53=>some c53
 |56=>some c56
 |57=>some c57
 |58=>some c58
 |60=>some c60
 |63=>some c63
 |64=>some c64
 |65=>some c65
 |66=>some c66
 |75=>some c75
 |77=>some c77
 |78=>some c78
 |79=>some c79
 |89=>some c89
 |_=>none
theorem fns_ok:FunsOK Tryd.prog fns:=by
 intro f af h
 unfold fns at h
 split at h
 ·cases h;exact ok4
 ·cases h;exact ok8
 ·cases h;exact ok10
 ·cases h;exact ok11
 ·cases h;exact ok12
 ·cases h;exact ok13
 ·cases h;exact ok14
 ·cases h;exact ok15
 ·cases h;exact ok16
 ·cases h;exact ok17
 ·cases h;exact ok18
 ·cases h;exact ok19
 ·cases h;exact ok22
 ·cases h;exact ok23
 ·cases h;exact ok24
 ·cases h;exact ok25
 ·cases h;exact ok26
 ·cases h;exact ok27
 ·cases h;exact ok28
 ·cases h;exact ok29
 ·cases h;exact ok30
 ·cases h;exact ok32
 ·cases h;exact ok33
 ·cases h;exact ok34
 ·cases h;exact ok35
 ·cases h;exact ok36
 ·cases h;exact ok37
 ·cases h;exact ok38
 ·cases h;exact ok39
 ·cases h;exact ok40
 ·cases h;exact ok41
 ·cases h;exact ok43
 ·cases h;exact ok44
 ·cases h;exact ok47
 ·cases h;exact ok48
 ·cases h;exact ok49
 ·cases h;exact ok50
 ·cases h;exact ok51
 ·cases h;exact ok52
 ·cases h;exact ok53
 ·cases h;exact ok56
 ·cases h;exact ok57
 ·cases h;exact ok58
 ·cases h;exact ok60
 ·cases h;exact ok63
 ·cases h;exact ok64
 ·cases h;exact ok65
 ·cases h;exact ok66
 ·cases h;exact ok75
 ·cases h;exact ok77
 ·cases h;exact ok78
 ·cases h;exact ok79
 ·cases h;exact ok89
 ·cases h
end Go.Proofs.YtbefpfbidgfipaaDoor
namespace Go.Proofs
open Go.Shelf
def Tryd.lays156_ren:Go.Shelf.Ren:=⟨fun|156=>46|165=>62|166=>36|169=>38|240=>57|241=>74|276=>72|277=>87|n=>n,fun|31=>48|9=>9|3=>3|4=>4|0=>0|20=>20|72=>77|76=>66|70=>74|37=>75|75=>65|127=>92|164=>102|5=>5|80=>79|n=>n,fun|n=>n⟩
theorem Tryd.lays156:Go.Proofs.Lays.n156 Tryd.prog Tryd.lays156_ren:={
 mixed:=by kernel_rfl
 f156:=Tryd.func46.trans (congrArg some (by kernel_rfl))
 f165:=Tryd.func62.trans (congrArg some (by kernel_rfl))
 f166:=Tryd.func36.trans (congrArg some (by kernel_rfl))
 f169:=Tryd.func38.trans (congrArg some (by kernel_rfl))
 f240:=Tryd.func57.trans (congrArg some (by kernel_rfl))
 f241:=Tryd.func74.trans (congrArg some (by kernel_rfl))
 f276:=Tryd.func72.trans (congrArg some (by kernel_rfl))
 f277:=Tryd.func87.trans (congrArg some (by kernel_rfl))
 t0:=Tryd.underlying0
 a0:=Tryd.isAgg0
 z0:=Tryd.sizeOf0
 v0:=Tryd.zeroValue0
 t3:=Tryd.underlying3
 a3:=Tryd.isAgg3
 z3:=Tryd.sizeOf3
 v3:=Tryd.zeroValue3
 t4:=Tryd.underlying4
 a4:=Tryd.isAgg4
 z4:=Tryd.sizeOf4
 v4:=Tryd.zeroValue4
 t9:=Tryd.underlying9
 a9:=Tryd.isAgg9
 z9:=Tryd.sizeOf9
 v9:=Tryd.zeroValue9
 t20:=Tryd.underlying20
 a20:=Tryd.isAgg20
 z20:=Tryd.sizeOf20
 v20:=Tryd.zeroValue20
 t31:=Tryd.underlying48
 a31:=Tryd.isAgg48
 z31:=Tryd.sizeOf48
 v31:=Tryd.zeroValue48
 t37:=Tryd.underlying75
 a37:=Tryd.isAgg75
 z37:=Tryd.sizeOf75
 v37:=Tryd.zeroValue75
 t70:=Tryd.underlying74
 a70:=Tryd.isAgg74
 z70:=Tryd.sizeOf74
 v70:=Tryd.zeroValue74
 t72:=Tryd.underlying77
 a72:=Tryd.isAgg77
 z72:=Tryd.sizeOf77
 v72:=Tryd.zeroValue77
 t75:=Tryd.underlying65
 a75:=Tryd.isAgg65
 z75:=Tryd.sizeOf65
 v75:=Tryd.zeroValue65
 t76:=Tryd.underlying66
 a76:=Tryd.isAgg66
 z76:=Tryd.sizeOf66
 v76:=Tryd.zeroValue66
 t127:=Tryd.underlying92
 a127:=Tryd.isAgg92
 z127:=Tryd.sizeOf92
 v127:=Tryd.zeroValue92
 t164:=Tryd.underlying102
 a164:=Tryd.isAgg102
 z164:=Tryd.sizeOf102
 v164:=Tryd.zeroValue102}
theorem Tryd.Builder_Extra_156:Builder.Extra Tryd.prog Tryd.lays156_ren:={
 sizeBuilder:=by kernel_rfl
 liesBuilder:=by kernel_rfl
 t5:=Tryd.underlying5
 a5:=Tryd.isAgg5
 z5:=Tryd.sizeOf5
 v5:=Tryd.zeroValue5
 infoByte:=by kernel_rfl
 cellsByte:=by kernel_rfl
 sizeByte:=by kernel_rfl
 neB5:=by decide}
open Go.RowKit in
theorem Tryd.strings_Join_none (a:Option Addr) (c:Nat) (sep:ByteArray) (w:World):
  Calls Tryd.prog 46 #[.slice a 0 c,.string sep] w fun e w'=>e= .returned (.string ⟨#[]⟩)∧w'=w:=Any.strings_Join_none Tryd.lays156 Tryd.Builder_Extra_156 a c sep w
open Go.RowKit in
theorem Tryd.strings_Join (bk o c:Nat) (xs:List ByteArray) (sep:ByteArray) (w:World) (hcells:∀ (j:Nat) x,xs[j]? =some x→w.cell? ⟨bk,o+j,none⟩=some (.string x)) (hbk:bk<w.heap.size) (hN:xs.length≤140737488355328) (hcap:xs.length≤c) (hlen:(Lib.join (xs.map (·.data.toList)) sep.data.toList).length≤140737488355328):
  Calls Tryd.prog 46 #[.slice (some ⟨bk,o,none⟩) xs.length c,.string sep] w fun e w'=>e= .returned (.string ⟨(Lib.join (xs.map (·.data.toList)) sep.data.toList).toArray⟩)∧Below w.heap.size w w':=Any.strings_Join Tryd.lays156 Tryd.Builder_Extra_156 bk o c xs sep w hcells hbk hN hcap hlen
def Tryd.laysM171_ren:Go.Shelf.Ren:=⟨fun|171=>45|243=>61|246=>73|283=>83|284=>84|285=>85|286=>86|129=>93|317=>92|318=>94|319=>95|320=>96|337=>97|338=>98|n=>n,fun|3=>3|9=>9|2=>2|4=>4|171=>114|0=>0|53=>107|37=>75|5=>5|173=>117|212=>129|51=>120|20=>20|213=>130|46=>106|232=>133|233=>134|n=>n,fun|17=>3|18=>4|19=>5|n=>n⟩
theorem Tryd.laysM171:Go.Proofs.LaysM.n171 Tryd.prog Tryd.laysM171_ren:={
 mixed:=by kernel_rfl
 f129:=Tryd.func93.trans (congrArg some (by kernel_rfl))
 f171:=Tryd.func45.trans (congrArg some (by kernel_rfl))
 f243:=Tryd.func61.trans (congrArg some (by kernel_rfl))
 f246:=Tryd.func73.trans (congrArg some (by kernel_rfl))
 f283:=Tryd.func83.trans (congrArg some (by kernel_rfl))
 f284:=Tryd.func84.trans (congrArg some (by kernel_rfl))
 f285:=Tryd.func85.trans (congrArg some (by kernel_rfl))
 f286:=Tryd.func86.trans (congrArg some (by kernel_rfl))
 f317:=Tryd.func92.trans (congrArg some (by kernel_rfl))
 f318:=Tryd.func94.trans (congrArg some (by kernel_rfl))
 f319:=Tryd.func95.trans (congrArg some (by kernel_rfl))
 f320:=Tryd.func96.trans (congrArg some (by kernel_rfl))
 f337:=Tryd.func97.trans (congrArg some (by kernel_rfl))
 f338:=Tryd.func98.trans (congrArg some (by kernel_rfl))
 t0:=Tryd.underlying0
 a0:=Tryd.isAgg0
 z0:=Tryd.sizeOf0
 v0:=Tryd.zeroValue0
 t2:=Tryd.underlying2
 a2:=Tryd.isAgg2
 z2:=Tryd.sizeOf2
 v2:=Tryd.zeroValue2
 t3:=Tryd.underlying3
 a3:=Tryd.isAgg3
 z3:=Tryd.sizeOf3
 v3:=Tryd.zeroValue3
 t4:=Tryd.underlying4
 a4:=Tryd.isAgg4
 z4:=Tryd.sizeOf4
 v4:=Tryd.zeroValue4
 t5:=Tryd.underlying5
 a5:=Tryd.isAgg5
 z5:=Tryd.sizeOf5
 v5:=Tryd.zeroValue5
 t9:=Tryd.underlying9
 a9:=Tryd.isAgg9
 z9:=Tryd.sizeOf9
 v9:=Tryd.zeroValue9
 t20:=Tryd.underlying20
 a20:=Tryd.isAgg20
 z20:=Tryd.sizeOf20
 v20:=Tryd.zeroValue20
 t37:=Tryd.underlying75
 a37:=Tryd.isAgg75
 z37:=Tryd.sizeOf75
 v37:=Tryd.zeroValue75
 t46:=Tryd.underlying106
 a46:=Tryd.isAgg106
 z46:=Tryd.sizeOf106
 v46:=Tryd.zeroValue106
 t51:=Tryd.underlying120
 a51:=Tryd.isAgg120
 z51:=Tryd.sizeOf120
 v51:=Tryd.zeroValue120
 t53:=Tryd.underlying107
 a53:=Tryd.isAgg107
 z53:=Tryd.sizeOf107
 v53:=Tryd.zeroValue107
 t171:=Tryd.underlying114
 a171:=Tryd.isAgg114
 z171:=Tryd.sizeOf114
 v171:=Tryd.zeroValue114
 t173:=Tryd.underlying117
 a173:=Tryd.isAgg117
 z173:=Tryd.sizeOf117
 v173:=Tryd.zeroValue117
 t212:=Tryd.underlying129
 a212:=Tryd.isAgg129
 z212:=Tryd.sizeOf129
 v212:=Tryd.zeroValue129
 t213:=Tryd.underlying130
 a213:=Tryd.isAgg130
 z213:=Tryd.sizeOf130
 t232:=Tryd.underlying133
 a232:=Tryd.isAgg133
 z232:=Tryd.sizeOf133
 v232:=Tryd.zeroValue133
 t233:=Tryd.underlying134
 a233:=Tryd.isAgg134
 z233:=Tryd.sizeOf134
 v233:=Tryd.zeroValue134
 g17:=by kernel_rfl
 g18:=by kernel_rfl
 g19:=by kernel_rfl
 i0:=by kernel_rfl
 i2:=by kernel_rfl
 i3:=by kernel_rfl
 i4:=by kernel_rfl
 i5:=by kernel_rfl
 i9:=by kernel_rfl
 i20:=by kernel_rfl
 i37:=by kernel_rfl
 i46:=by kernel_rfl
 i51:=by kernel_rfl
 i53:=by kernel_rfl
 i171:=by kernel_rfl
 i173:=by kernel_rfl
 i212:=by kernel_rfl
 i232:=by kernel_rfl
 i233:=by kernel_rfl
 m17:=by kernel_rfl
 m18:=by kernel_rfl
 m19:=by kernel_rfl}
open Go.RowKit Go.Sort Go.Lib in
theorem Tryd.strconv_Itoa (n:Int) (h0: -9223372036854775808≤n) (h1:n≤9223372036854775807) (w:World) (htab:Lib.TabIs Tryd.prog w "internal/strconv.uint64pow10" .u64 Lib.pow10Tab):
  Calls Tryd.prog 45 #[.int .i64 n] w fun e w'=>e= .returned (.string ⟨(Lib.itoa n).toArray⟩)∧∃ k os,w'=grow (w.drewN k) os:=Any.strconv_Itoa Tryd.laysM171 n h0 h1 w htab
def Tryd.laysC172_ren:Go.Shelf.Ren:=⟨fun|172=>31|244=>54|245=>55|247=>67|279=>68|280=>69|281=>70|282=>71|287=>80|316=>81|171=>45|205=>82|321=>90|322=>91|243=>61|246=>73|283=>83|284=>84|285=>85|286=>86|129=>93|317=>92|318=>94|319=>95|320=>96|337=>97|338=>98|n=>n,fun|9=>9|3=>3|75=>65|76=>66|4=>4|5=>5|167=>96|37=>75|0=>0|85=>97|2=>2|168=>99|53=>107|175=>108|46=>106|210=>112|127=>92|145=>127|143=>125|21=>21|171=>114|173=>117|212=>129|51=>120|20=>20|213=>130|232=>133|233=>134|80=>79|n=>n,fun|15=>1|16=>2|17=>3|18=>4|19=>5|n=>n⟩
theorem Tryd.laysC172:Go.Proofs.LaysC.n172 Tryd.prog Tryd.laysC172_ren:={
 mixed:=by kernel_rfl
 f129:=Tryd.func93.trans (congrArg some (by kernel_rfl))
 f171:=Tryd.func45.trans (congrArg some (by kernel_rfl))
 f172:=Tryd.func31.trans (congrArg some (by kernel_rfl))
 f205:=Tryd.func82.trans (congrArg some (by kernel_rfl))
 f243:=Tryd.func61.trans (congrArg some (by kernel_rfl))
 f244:=Tryd.func54.trans (congrArg some (by kernel_rfl))
 f245:=Tryd.func55.trans (congrArg some (by kernel_rfl))
 f246:=Tryd.func73.trans (congrArg some (by kernel_rfl))
 f247:=Tryd.func67.trans (congrArg some (by kernel_rfl))
 f279:=Tryd.func68.trans (congrArg some (by kernel_rfl))
 f280:=Tryd.func69.trans (congrArg some (by kernel_rfl))
 f281:=Tryd.func70.trans (congrArg some (by kernel_rfl))
 f282:=Tryd.func71.trans (congrArg some (by kernel_rfl))
 f283:=Tryd.func83.trans (congrArg some (by kernel_rfl))
 f284:=Tryd.func84.trans (congrArg some (by kernel_rfl))
 f285:=Tryd.func85.trans (congrArg some (by kernel_rfl))
 f286:=Tryd.func86.trans (congrArg some (by kernel_rfl))
 f287:=Tryd.func80.trans (congrArg some (by kernel_rfl))
 f316:=Tryd.func81.trans (congrArg some (by kernel_rfl))
 f317:=Tryd.func92.trans (congrArg some (by kernel_rfl))
 f318:=Tryd.func94.trans (congrArg some (by kernel_rfl))
 f319:=Tryd.func95.trans (congrArg some (by kernel_rfl))
 f320:=Tryd.func96.trans (congrArg some (by kernel_rfl))
 f321:=Tryd.func90.trans (congrArg some (by kernel_rfl))
 f322:=Tryd.func91.trans (congrArg some (by kernel_rfl))
 f337:=Tryd.func97.trans (congrArg some (by kernel_rfl))
 f338:=Tryd.func98.trans (congrArg some (by kernel_rfl))
 t0:=Tryd.underlying0
 a0:=Tryd.isAgg0
 z0:=Tryd.sizeOf0
 v0:=Tryd.zeroValue0
 t2:=Tryd.underlying2
 a2:=Tryd.isAgg2
 z2:=Tryd.sizeOf2
 v2:=Tryd.zeroValue2
 t3:=Tryd.underlying3
 a3:=Tryd.isAgg3
 z3:=Tryd.sizeOf3
 v3:=Tryd.zeroValue3
 t4:=Tryd.underlying4
 a4:=Tryd.isAgg4
 z4:=Tryd.sizeOf4
 v4:=Tryd.zeroValue4
 t5:=Tryd.underlying5
 a5:=Tryd.isAgg5
 z5:=Tryd.sizeOf5
 v5:=Tryd.zeroValue5
 t9:=Tryd.underlying9
 a9:=Tryd.isAgg9
 z9:=Tryd.sizeOf9
 v9:=Tryd.zeroValue9
 t20:=Tryd.underlying20
 a20:=Tryd.isAgg20
 z20:=Tryd.sizeOf20
 v20:=Tryd.zeroValue20
 t21:=Tryd.underlying21
 a21:=Tryd.isAgg21
 z21:=Tryd.sizeOf21
 v21:=Tryd.zeroValue21
 t37:=Tryd.underlying75
 a37:=Tryd.isAgg75
 z37:=Tryd.sizeOf75
 v37:=Tryd.zeroValue75
 t46:=Tryd.underlying106
 a46:=Tryd.isAgg106
 z46:=Tryd.sizeOf106
 v46:=Tryd.zeroValue106
 t51:=Tryd.underlying120
 a51:=Tryd.isAgg120
 z51:=Tryd.sizeOf120
 v51:=Tryd.zeroValue120
 t53:=Tryd.underlying107
 a53:=Tryd.isAgg107
 z53:=Tryd.sizeOf107
 v53:=Tryd.zeroValue107
 t75:=Tryd.underlying65
 a75:=Tryd.isAgg65
 z75:=Tryd.sizeOf65
 v75:=Tryd.zeroValue65
 t76:=Tryd.underlying66
 a76:=Tryd.isAgg66
 z76:=Tryd.sizeOf66
 v76:=Tryd.zeroValue66
 t85:=Tryd.underlying97
 a85:=Tryd.isAgg97
 z85:=Tryd.sizeOf97
 v85:=Tryd.zeroValue97
 t127:=Tryd.underlying92
 a127:=Tryd.isAgg92
 z127:=Tryd.sizeOf92
 v127:=Tryd.zeroValue92
 t143:=Tryd.underlying125
 a143:=Tryd.isAgg125
 z143:=Tryd.sizeOf125
 v143:=Tryd.zeroValue125
 t145:=Tryd.underlying127
 a145:=Tryd.isAgg127
 z145:=Tryd.sizeOf127
 v145:=Tryd.zeroValue127
 t167:=Tryd.underlying96
 a167:=Tryd.isAgg96
 z167:=Tryd.sizeOf96
 v167:=Tryd.zeroValue96
 t168:=Tryd.underlying99
 a168:=Tryd.isAgg99
 z168:=Tryd.sizeOf99
 v168:=Tryd.zeroValue99
 t171:=Tryd.underlying114
 a171:=Tryd.isAgg114
 z171:=Tryd.sizeOf114
 v171:=Tryd.zeroValue114
 t173:=Tryd.underlying117
 a173:=Tryd.isAgg117
 z173:=Tryd.sizeOf117
 v173:=Tryd.zeroValue117
 t175:=Tryd.underlying108
 a175:=Tryd.isAgg108
 z175:=Tryd.sizeOf108
 v175:=Tryd.zeroValue108
 t210:=Tryd.underlying112
 a210:=Tryd.isAgg112
 z210:=Tryd.sizeOf112
 v210:=Tryd.zeroValue112
 t212:=Tryd.underlying129
 a212:=Tryd.isAgg129
 z212:=Tryd.sizeOf129
 v212:=Tryd.zeroValue129
 t213:=Tryd.underlying130
 a213:=Tryd.isAgg130
 z213:=Tryd.sizeOf130
 t232:=Tryd.underlying133
 a232:=Tryd.isAgg133
 z232:=Tryd.sizeOf133
 v232:=Tryd.zeroValue133
 t233:=Tryd.underlying134
 a233:=Tryd.isAgg134
 z233:=Tryd.sizeOf134
 v233:=Tryd.zeroValue134
 g15:=by kernel_rfl
 g16:=by kernel_rfl
 g17:=by kernel_rfl
 g18:=by kernel_rfl
 g19:=by kernel_rfl
 t80:=Tryd.underlying79
 a80:=Tryd.isAgg79
 z80:=Tryd.sizeOf79
 v80:=Tryd.zeroValue79
 i0:=by kernel_rfl
 i2:=by kernel_rfl
 i3:=by kernel_rfl
 i4:=by kernel_rfl
 i5:=by kernel_rfl
 i9:=by kernel_rfl
 i20:=by kernel_rfl
 i21:=by kernel_rfl
 i37:=by kernel_rfl
 i46:=by kernel_rfl
 i51:=by kernel_rfl
 i53:=by kernel_rfl
 i75:=by kernel_rfl
 i76:=by kernel_rfl
 i80:=by kernel_rfl
 i85:=by kernel_rfl
 i127:=by kernel_rfl
 i143:=by kernel_rfl
 i145:=by kernel_rfl
 i167:=by kernel_rfl
 i168:=by kernel_rfl
 i171:=by kernel_rfl
 i173:=by kernel_rfl
 i175:=by kernel_rfl
 i210:=by kernel_rfl
 i212:=by kernel_rfl
 i232:=by kernel_rfl
 i233:=by kernel_rfl
 m15:=by kernel_rfl
 m16:=by kernel_rfl
 m17:=by kernel_rfl
 m18:=by kernel_rfl
 m19:=by kernel_rfl
 c0:=by kernel_rfl
 c2:=by kernel_rfl
 c3:=by kernel_rfl
 c4:=by kernel_rfl
 c5:=by kernel_rfl
 c9:=by kernel_rfl
 c20:=by kernel_rfl
 c21:=by kernel_rfl
 c37:=by kernel_rfl
 c46:=by kernel_rfl
 c51:=by kernel_rfl
 c53:=by kernel_rfl
 c75:=by kernel_rfl
 c76:=by kernel_rfl
 c80:=by kernel_rfl
 c85:=by kernel_rfl
 c127:=by kernel_rfl
 c143:=by kernel_rfl
 c145:=by kernel_rfl
 c167:=by kernel_rfl
 c168:=by kernel_rfl
 c171:=by kernel_rfl
 c173:=by kernel_rfl
 c175:=by kernel_rfl
 c210:=by kernel_rfl
 c212:=by kernel_rfl
 c213:=by kernel_rfl
 c232:=by kernel_rfl
 c233:=by kernel_rfl}
open Go.RowKit in
theorem Tryd.strconv_Atoi_ok (s:ByteArray) (hmax:s.size≤9223372036854775806) (v:Int) (h:Lib.atoiAll s.data.toList= .ok v) (w:World):
  Calls Tryd.prog 31 #[.string s] w fun e w'=>e= .returned (.tuple #[.int .i64 v,.nilIface])∧(w'=w∨∃ t,w'=Lib.bytesWorld w 5 t):=Any.strconv_Atoi_ok Tryd.laysC172 s hmax v h w
open Go.RowKit in
theorem Tryd.strconv_Atoi_syntax_var (s:ByteArray) (hlim:s.size≤281474976710656) (h:Lib.atoiAll s.data.toList=Lib.atoiAll []) (tp:TypeId) (p:Value) (w:World) (hvar:w.var? Tryd.prog "strconv.ErrSyntax"=some #[.iface tp p]):
  Calls Tryd.prog 31 #[.string s] w fun e w'=>∃ N,e= .returned (.tuple #[.int .i64 0,.iface 99 (.pointer (some ⟨N,0,none⟩))])∧w.heap.size≤N∧w'.heap[N]? =some (.cells #[.string ⟨#[65,116,111,105]⟩,.string s,.iface tp p] 112 (0,0))∧Below w.heap.size w w':=Any.strconv_Atoi_syntax_var Tryd.laysC172 s hlim h tp p w hvar
open Go.RowKit in
theorem Tryd.strconv_Atoi_range_var (s:ByteArray) (hlim:s.size≤281474976710656) (h:Lib.atoiAll s.data.toList= .range) (tp:TypeId) (p:Value) (w:World) (hvar:w.var? Tryd.prog "strconv.ErrRange"=some #[.iface tp p]):
  Calls Tryd.prog 31 #[.string s] w fun e w'=>∃ N,e= .returned (.tuple #[.int .i64 (Lib.atoiSat s.data.toList),.iface 99 (.pointer (some ⟨N,0,none⟩))])∧w.heap.size≤N∧w'.heap[N]? =some (.cells #[.string ⟨#[65,116,111,105]⟩,.string s,.iface tp p] 112 (0,0))∧Below w.heap.size w w':=Any.strconv_Atoi_range_var Tryd.laysC172 s hlim h tp p w hvar
end Go.Proofs
namespace Go.Proofs.YtbefpfbidgfipaaDoor
open Go Go.Itp
open Go.RowKit (Below)
set_option linter.unusedVariables false
set_option maxRecDepth 100000
theorem own:ownKnob Tryd.prog.godebug=none:=by kernel_rfl
theorem mixed:Tryd.prog.follows .mixedOrders=true:=by kernel_rfl
def prims0:List (FuncId × Prim × TypeId):= [(72,.same,0),(88,.indexByte,0),(59,.count,0)]
theorem prims_all:AllPrims Tryd.prog prims0:=
 ⟨⟨⟨Tryd.f72,Tryd.func72,by kernel_rfl,by kernel_rfl,by kernel_rfl,rfl⟩⟩,⟨⟨Tryd.f88,Tryd.func88,by kernel_rfl,by kernel_rfl,by kernel_rfl,rfl⟩⟩,⟨⟨Tryd.f59,Tryd.func59,by kernel_rfl,by kernel_rfl,by kernel_rfl,rfl⟩⟩,trivial⟩
noncomputable abbrev PR (w:World):FuncId→List Value→St→Option (Value × List Blk):=
 orElseP (primsOf prims0) (orElseP (itoaP 45) (orElseP (joinP (oldOf w) 46)
  (atoiP 31 99 112 (errO Tryd.prog w "strconv.ErrSyntax") (errO Tryd.prog w "strconv.ErrRange"))))
noncomputable abbrev EN (w:World) (n:Nat):Env:=callP (oldOf w) many fns (PR w) n
abbrev Tab (w:World):Prop:=Lib.TabIs Tryd.prog w "internal/strconv.uint64pow10" .u64 Lib.pow10Tab
theorem prims_ok (W:World) (ht:Tab W):PrimsOK Tryd.prog (PR W) W:=
 orElse_ok (primsOf_ok prims0 prims_all W) (orElse_ok
  (itoaP_ok ⟨Tryd.f45,_,Tryd.func45,rfl,by kernel_rfl⟩ ht Tryd.strconv_Itoa) (orElse_ok
  (joinP_ok ⟨Tryd.f46,_,Tryd.func46,rfl,by kernel_rfl⟩ (oldOf_ok W) Tryd.strings_Join_none Tryd.strings_Join)
  (atoiP_ok (u8:=5) ⟨Tryd.f31,_,Tryd.func31,rfl,by kernel_rfl⟩ Tryd.strconv_Atoi_ok Tryd.strconv_Atoi_syntax_var Tryd.strconv_Atoi_range_var)))
theorem law_of {W:World} (ht:Tab W) {f:FuncId} {af:AFun} (hf:fns f=some af) {xs:List Value} (hxs:idsL 0 xs= []) (n:Nat) {v:Value} {s':St} (hb:body (EN W n) af xs St.empty=some (v,s')) (hv:ids 0 v= []):
  Calls Tryd.prog f xs.toArray W fun e w'=>e= .returned v∧Below W.heap.size W w':=
 law_at mixed fns_ok (oldOf_ok W) (prims_ok W ht) hf hxs n hb hv
theorem itoa_s (w:World) (n:Nat) (st:VSt) (k:Int) (h0: -9223372036854775808≤k) (h1:k≤9223372036854775807):VSpecO (EN w (n+1)) 45 st [.sc (.int .i64 k)] (.sc (.string ⟨(Lib.itoa k).toArray⟩)):=
 itoa_o h0 h1 fun xs s r h=>orElse_right rfl (orElse_left h)
theorem join_s (w:World) (n:Nat) (st:VSt) (s:Nat) (hs:s ≠ 1) (ls:List (List UInt8)) (sep:List UInt8) (hl:ls.length≤1099511627776) (hlen:(Lib.join ls sep).length≤140737488355328):
  VSpecO (EN w (n+1)) 46 st [.sl s ls.length (ls.map sD),.sc (.string ⟨sep.toArray⟩)] (.sc (.string ⟨(Lib.join ls sep).toArray⟩)):=
 join_o s hs ls sep hl hlen fun xs s r h=>orElse_right rfl (orElse_right rfl (orElse_left h))
theorem atoi_s (w:World) (n:Nat) (st:VSt) (b:ByteArray) (v:Int) (hb:b.size≤281474976710656) (h:Lib.atoiAll b.data.toList= .ok v):VSpecO (EN w (n+1)) 31 st [.sc (.string b)] (.tup [.sc (.int .i64 v),.sc .nilIface]):=
 atoi_o hb h fun xs s r h=>orElse_right rfl (orElse_right rfl (orElse_right rfl h))
theorem atoi_f (w:World) (n:Nat) (b:ByteArray) (hb:b.size≤281474976710656) (hes:(errO Tryd.prog w "strconv.ErrSyntax").isSome=true) (her:(errO Tryd.prog w "strconv.ErrRange").isSome=true) (h:∀ v,Lib.atoiAll b.data.toList ≠ .ok v):
  ∃ (k:Int) (cs:List Value),VSpec (EN w (n+1)) 31 [.sc (.string b)] (.tup [.sc (.int .i64 k),.ifc 99 (.ptr 0 0)]) ⟨[(0,.box 112 1 (cs.map V.sc))],1,0⟩:=
 atoi_e hb (errO_ok hes) (errO_ok her) h fun xs s r h=>orElse_right rfl (orElse_right rfl (orElse_right rfl h))
end Go.Proofs.YtbefpfbidgfipaaDoor
namespace Go.Itp
set_option linter.unusedVariables false
set_option linter.unusedSimpArgs false
structure Ins where
 op:Nat
 right:Bool
 bed:Nat
 pos:Int
 to:Int
 car:Int
 rack:Int
theorem Ins.ext' {i j:Ins} (h1:i.op=j.op) (h2:i.right=j.right) (h3:i.bed=j.bed) (h4:i.pos=j.pos) (h5:i.to=j.to) (h6:i.car=j.car) (h7:i.rack=j.rack):i=j:=by
 cases i;cases j;simp_all
def ins0:Ins:=⟨0,false,0,0,0,0,0⟩
def insC (i:Ins):List Value:= [.int .u8 i.op,.bool i.right,.int .u8 i.bed,.int .i64 i.pos,.int .i64 i.to,.int .i64 i.car,.int .i64 i.rack]
def insV (i:Ins):V:= .agg [.sc (.int .u8 i.op),.sc (.bool i.right),.sc (.int .u8 i.bed),.sc (.int .i64 i.pos),.sc (.int .i64 i.to),.sc (.int .i64 i.car),.sc (.int .i64 i.rack)]
abbrev ndOK (z:Int):Prop:= -100≤z∧z≤100
def InsP (i:Ins):Prop:=
 (i.op=1∨i.op=2)∧(1≤i.car∧i.car≤6)∧i.right=false∧i.bed=0∧i.pos=0∧i.to=0∧i.rack=0∨
 (i.op=3∨i.op=4∨i.op=5)∧(1≤i.car∧i.car≤6)∧i.bed≤1∧ndOK i.pos∧i.to=0∧i.rack=0∨
 i.op=6∧(1≤i.car∧i.car≤6)∧i.bed≤1∧ndOK i.pos∧ndOK i.to∧i.rack=0∨
 i.op=7∧i.right=false∧i.car=0∧i.rack=0∧i.bed≤1∧ndOK i.pos∧ndOK i.to∨
 i.op=8∧i.right=false∧i.bed=0∧i.pos=0∧i.to=0∧i.car=0∧ -8≤i.rack∧i.rack≤8∨
 i.op=9∧i.right=false∧i.to=0∧i.car=0∧i.rack=0∧i.bed≤1∧ndOK i.pos
open Classical in
noncomputable def insOK (i:Ins):Bool:=decide (InsP i)
open Classical in
theorem insOK_iff {i:Ins}:insOK i=true↔InsP i:=by
 unfold insOK
 constructor
 ·exact of_decide_eq_true
 ·intro h;exact decide_eq_true h
def nameI:Nat→List UInt8
 |1=> [105,110]
 |2=> [111,117,116]
 |3=> [107,110,105,116]
 |4=> [116,117,99,107]
 |5=> [109,105,115,115]
 |6=> [115,112,108,105,116]
 |7=> [120,102,101,114]
 |8=> [114,97,99,107]
 |9=> [100,114,111,112]
 |_=> []
def partsI:Nat→List UInt8
 |1=> [99]
 |2=> [99]
 |3=> [100,110,99]
 |4=> [100,110,99]
 |5=> [100,110,99]
 |6=> [100,110,111,99]
 |7=> [110,111]
 |8=> [114]
 |9=> [110]
 |_=> []
def ndl (b:Nat) (z:Int):List UInt8:=(if b=1 then 98 else 102)::Lib.itoa z
def partT (i:Ins) (c:UInt8):List UInt8:=
 if c=100 then (if i.right=true then [43] else [45]) else if c=110 then ndl i.bed i.pos else if c=111 then ndl (1 - i.bed) i.to else if c=99 then Lib.itoa i.car else Lib.itoa i.rack
def textI (i:Ins):List UInt8:=join 32 (nameI i.op::(partsI i.op).map (partT i))
theorem itoa_chars (z:Int):∀ c ∈ Lib.itoa z,isDig c=true∨c=45:=fun c hc=>by
 rcases Int.lt_or_le z 0 with h|h
 ·have e:Lib.itoa z=45::Lib.decDigits z.natAbs:=by unfold Lib.itoa;rw[if_pos h]
  rw[e] at hc
  rcases List.mem_cons.1 hc with rfl|hc
  ·exact .inr rfl
  ·exact .inl (digits_dig _ _ (Nat.le_refl _) c hc)
 ·exact .inl (itoa_dig h c hc)
theorem itoa_no32 (z:Int):(32:UInt8) ∉ Lib.itoa z∧(10:UInt8) ∉ Lib.itoa z:=by
 constructor
 ·intro h;rcases itoa_chars z _ h with h|h<;>revert h<;>decide
 ·intro h;rcases itoa_chars z _ h with h|h<;>revert h<;>decide
theorem partT_no (i:Ins) (c:UInt8):(32:UInt8) ∉ partT i c∧(10:UInt8) ∉ partT i c:=by
 have hn:∀ (b:Nat) (z:Int),(32:UInt8) ∉ ndl b z∧(10:UInt8) ∉ ndl b z:=fun b z=>by
  have:=itoa_no32 z
  unfold ndl
  simp only[List.mem_cons,not_or]
  refine ⟨⟨?_,this.1⟩,⟨?_,this.2⟩⟩<;>split<;>decide
 unfold partT
 split
 ·split<;>simp
 split
 ·exact hn _ _
 split
 ·exact hn _ _
 split
 ·exact itoa_no32 _
 ·exact itoa_no32 _
theorem nameI_no:∀ op:Nat,(32:UInt8) ∉ nameI op∧(10:UInt8) ∉ nameI op
 |0=>by decide
 |1=>by decide
 |2=>by decide
 |3=>by decide
 |4=>by decide
 |5=>by decide
 |6=>by decide
 |7=>by decide
 |8=>by decide
 |9=>by decide
 |n+10=>by show (32:UInt8) ∉ []∧(10:UInt8) ∉ [];simp
theorem textI_words (i:Ins):words 32 (textI i)=nameI i.op::(partsI i.op).map (partT i):=
 words_join (by simp) fun w hw=>by
  rcases List.mem_cons.1 hw with rfl|hw
  ·exact (nameI_no _).1
  ·obtain ⟨c,_,rfl⟩:=List.mem_map.1 hw
   exact (partT_no i c).1
theorem itoa_inj' {x y:Int} (h:Lib.itoa x=Lib.itoa y):x=y:=by
 have neg:∀ z:Int,z<0→Lib.itoa z=45::Lib.decDigits z.natAbs:=fun z h=>by unfold Lib.itoa;rw[if_pos h]
 have pos:∀ z:Int,0≤z→(45:UInt8) ∉ Lib.itoa z:=fun z h hm=>by have:=itoa_dig h _ hm;revert this;decide
 rcases Int.lt_or_le x 0 with hx|hx<;>rcases Int.lt_or_le y 0 with hy|hy
 ·rw[neg x hx,neg y hy] at h
  have:=decDigits_inj (List.cons.inj h).2
  omega
 ·exact absurd (by rw[← h,neg x hx];simp) (pos y hy)
 ·exact absurd (by rw[h,neg y hy];simp) (pos x hx)
 ·exact itoa_inj hx hy h
theorem ndl_inj {b b':Nat} {z z':Int} (hb:b≤1) (hb':b'≤1) (h:ndl b z=ndl b' z'):b=b'∧z=z':=by
 unfold ndl at h
 obtain ⟨h1,h2⟩:=List.cons.inj h
 refine ⟨?_,itoa_inj' h2⟩
 by_cases e1:b=1<;>by_cases e2:b'=1
 ·omega
 ·rw[if_pos e1,if_neg e2] at h1;exact absurd h1 (by decide)
 ·rw[if_neg e1,if_pos e2] at h1;exact absurd h1 (by decide)
 ·omega
theorem atoi_neg (u:Nat) (h:(Lib.decDigits u).length≤16):Lib.atoiAll (45::Lib.decDigits u)= .ok (-(u:Int)):=by
 rw[Lib.atoiAll_short _ (by simp;omega)]
 have hf:=decFrom_digits u u (Nat.le_refl _)
 have hne:=decDigits_ne u
 cases hw:Lib.decDigits u with
 |nil=>exact absurd hw hne
 |cons b r=>
  rw[hw] at hf
  simp[Lib.atoi,Lib.decNat,hf]
  rfl
theorem atoi_itoa' {z:Int} (h0: -1000000000000<z) (h1:z<1000000000000):Lib.atoiAll (Lib.itoa z)= .ok z:=by
 rcases Int.lt_or_le z 0 with h|h
 ·have e:Lib.itoa z=45::Lib.decDigits z.natAbs:=by unfold Lib.itoa;rw[if_pos h]
  rw[e,atoi_neg _ (by have:=decDigits_len 11 z.natAbs (by simpa using (by omega:z.natAbs<1000000000000));omega)]
  congr 1
  omega
 ·exact atoi_itoa h h1
end Go.Itp
namespace Go.Itp
set_option linter.unusedVariables false
set_option linter.unusedSimpArgs false
theorem InsP.op_lt {i:Ins} (h:InsP i):0<i.op∧i.op<10:=by
 unfold InsP at h
 omega
theorem nameI_inj:∀ a,a<10→∀ b,b<10→0<a→0<b→nameI a=nameI b→a=b:=by decide
theorem nameI_ne:∀ a,a<10→0<a→nameI a ≠ []:=by decide
theorem map_inj_at {α β:Type} {f g:α→β}:∀ {l:List α},l.map f=l.map g→∀ c ∈ l,f c=g c
 | [],_,c,hc=>by cases hc
 |x::l,h,c,hc=>by
  rw[List.map_cons,List.map_cons] at h
  obtain ⟨h1,h2⟩:=List.cons.inj h
  rcases List.mem_cons.1 hc with rfl|hc
  ·exact h1
  ·exact map_inj_at h2 c hc
theorem sign_inj {a b:Bool} (h:(if a=true then [43] else [45]:List UInt8)=if b=true then [43] else [45]):a=b:=by
 cases a<;>cases b<;>first|rfl|(revert h;decide)
theorem textI_inj {i j:Ins} (hi:InsP i) (hj:InsP j) (h:textI i=textI j):i=j:=by
 have hw:=congrArg (words 32) h
 rw[textI_words,textI_words] at hw
 obtain ⟨h1,h2⟩:=List.cons.inj hw
 have hop:=nameI_inj i.op hi.op_lt.2 j.op hj.op_lt.2 hi.op_lt.1 hj.op_lt.1 h1
 rw[← hop] at h2
 have hc:=map_inj_at h2
 have d:(100:UInt8) ∈ partsI i.op→i.right=j.right:=fun hm=>sign_inj (by have:=hc 100 hm;simpa only[partT,if_true] using this)
 have nn:(110:UInt8) ∈ partsI i.op→i.bed≤1→j.bed≤1→i.bed=j.bed∧i.pos=j.pos:=fun hm a b=>by
  have:=hc 110 hm
  exact ndl_inj a b this
 have oo:(111:UInt8) ∈ partsI i.op→i.to=j.to:=fun hm=>by
  have:=hc 111 hm
  exact (ndl_inj (by omega) (by omega) this).2
 have cc:(99:UInt8) ∈ partsI i.op→i.car=j.car:=fun hm=>itoa_inj' (hc 99 hm)
 have rr:(114:UInt8) ∈ partsI i.op→i.rack=j.rack:=fun hm=>itoa_inj' (hc 114 hm)
 unfold InsP at hi hj
 have case1:i.op=1∨i.op=2→i=j:=fun ho=>by
  have hm:(99:UInt8) ∈ partsI i.op:=by rcases ho with e|e<;>rw[e]<;>decide
  have:=cc hm
  have a1:i.right=false∧i.bed=0∧i.pos=0∧i.to=0∧i.rack=0:=by
   rcases hi with h|h|h|h|h|h<;>first|exact h.2.2|(exfalso;omega)
  have a2:j.right=false∧j.bed=0∧j.pos=0∧j.to=0∧j.rack=0:=by
   rcases hj with h|h|h|h|h|h<;>first|exact h.2.2|(exfalso;omega)
  exact Ins.ext' hop (by rw[a1.1,a2.1]) (by omega) (by omega) (by omega) this (by omega)
 have case3:i.op=3∨i.op=4∨i.op=5→i=j:=fun ho=>by
  have hm:(99:UInt8) ∈ partsI i.op∧(100:UInt8) ∈ partsI i.op∧(110:UInt8) ∈ partsI i.op:=by rcases ho with e|e|e<;>rw[e]<;>decide
  have hb:=nn hm.2.2 (by omega) (by omega)
  exact Ins.ext' hop (d hm.2.1) hb.1 hb.2 (by omega) (cc hm.1) (by omega)
 have case6:i.op=6→i=j:=fun e=>by
  have hm:(99:UInt8) ∈ partsI i.op∧(100:UInt8) ∈ partsI i.op∧(110:UInt8) ∈ partsI i.op∧(111:UInt8) ∈ partsI i.op:=by rw[e];decide
  have hb:=nn hm.2.2.1 (by omega) (by omega)
  exact Ins.ext' hop (d hm.2.1) hb.1 hb.2 (oo hm.2.2.2) (cc hm.1) (by omega)
 have case7:i.op=7→i=j:=fun e=>by
  have hm:(110:UInt8) ∈ partsI i.op∧(111:UInt8) ∈ partsI i.op:=by rw[e];decide
  have hb:=nn hm.1 (by omega) (by omega)
  have a1:i.right=false:=by rcases hi with h|h|h|h|h|h<;>first|exact h.2.1|(exfalso;omega)
  have a2:j.right=false:=by rcases hj with h|h|h|h|h|h<;>first|exact h.2.1|(exfalso;omega)
  exact Ins.ext' hop (by rw[a1,a2]) hb.1 hb.2 (oo hm.2) (by omega) (by omega)
 have case8:i.op=8→i=j:=fun e=>by
  have hm:(114:UInt8) ∈ partsI i.op:=by rw[e];decide
  have a1:i.right=false:=by rcases hi with h|h|h|h|h|h<;>first|exact h.2.1|(exfalso;omega)
  have a2:j.right=false:=by rcases hj with h|h|h|h|h|h<;>first|exact h.2.1|(exfalso;omega)
  exact Ins.ext' hop (by rw[a1,a2]) (by omega) (by omega) (by omega) (by omega) (rr hm)
 have case9:i.op=9→i=j:=fun e=>by
  have hm:(110:UInt8) ∈ partsI i.op:=by rw[e];decide
  have hb:=nn hm (by omega) (by omega)
  have a1:i.right=false:=by rcases hi with h|h|h|h|h|h<;>first|exact h.2.1|(exfalso;omega)
  have a2:j.right=false:=by rcases hj with h|h|h|h|h|h<;>first|exact h.2.1|(exfalso;omega)
  exact Ins.ext' hop (by rw[a1,a2]) hb.1 hb.2 (by omega) (by omega) (by omega)
 rcases (by omega:(i.op=1∨i.op=2)∨(i.op=3∨i.op=4∨i.op=5)∨i.op=6∨i.op=7∨i.op=8∨i.op=9) with h|h|h|h|h|h
 ·exact case1 h
 ·exact case3 h
 ·exact case6 h
 ·exact case7 h
 ·exact case8 h
 ·exact case9 h
def accI (s:List UInt8):Option Ins→Prop
 |some i=>InsP i∧textI i=s
 |none=>∀ i,InsP i→textI i ≠ s
open Classical in
noncomputable def readO (s:List UInt8):Option Ins:=if h:∃ i,InsP i∧textI i=s then some (Classical.choose h) else none
theorem readO_acc (s:List UInt8):accI s (readO s):=by
 unfold readO
 split
 ·rename_i h;exact Classical.choose_spec h
 ·rename_i h;exact fun i h1 h2=>h ⟨i,h1,h2⟩
theorem readO_text {i:Ins} (h:InsP i):readO (textI i)=some i:=by
 have:=readO_acc (textI i)
 cases hr:readO (textI i) with
 |none=>rw[hr] at this;exact absurd rfl (this i h)
 |some j=>rw[hr] at this;rw[textI_inj this.1 h this.2]
theorem accI_eq {s:List UInt8} {r:Option Ins} (h:accI s r):r=readO s:=by
 cases r with
 |some i=>rw[← h.2,readO_text h.1]
 |none=>
  have:=readO_acc s
  cases hr:readO s with
  |none=>rfl
  |some j=>rw[hr] at this;exact absurd this.2 (h j this.1)
theorem itoa_len {z:Int} (h0: -1000000000000<z) (h1:z<1000000000000):(Lib.itoa z).length≤13:=by
 have hd:=decDigits_len 11 z.natAbs (by simpa using (by omega:z.natAbs<1000000000000))
 rcases Int.lt_or_le z 0 with h|h
 ·have e:Lib.itoa z=45::Lib.decDigits z.natAbs:=by unfold Lib.itoa;rw[if_pos h]
  rw[e];simp;omega
 ·obtain ⟨u,rfl⟩:=Int.eq_ofNat_of_zero_le h
  rw[Lib.itoa_nonneg]
  simp only[Int.natAbs_natCast] at hd
  omega
def setP (i0 i:Ins) (c:UInt8):Ins:=
 if c=100 then ⟨i.op,i0.right,i.bed,i.pos,i.to,i.car,i.rack⟩
 else if c=110 then ⟨i.op,i.right,i0.bed,i0.pos,i.to,i.car,i.rack⟩
 else if c=111 then ⟨i.op,i.right,i.bed,i.pos,i0.to,i.car,i.rack⟩
 else if c=99 then ⟨i.op,i.right,i.bed,i.pos,i.to,i0.car,i.rack⟩
 else ⟨i.op,i.right,i.bed,i.pos,i.to,i.car,i0.rack⟩
def partI (i0:Ins) (k:Nat):Ins:=((partsI i0.op).take k).foldl (setP i0) ⟨i0.op,false,0,0,0,0,0⟩
theorem partI_zero (i0:Ins):partI i0 0=⟨i0.op,false,0,0,0,0,0⟩:=rfl
theorem partI_succ (i0:Ins) (k:Nat) (h:k<(partsI i0.op).length):partI i0 (k+1)=setP i0 (partI i0 k) (partsI i0.op)[k]! :=by
 unfold partI
 rw[List.take_succ_eq_append_getElem h,List.foldl_append,getElem!_pos _ k h]
 rfl
theorem partI_full {i0:Ins} (h:InsP i0):partI i0 (partsI i0.op).length=i0:=by
 unfold partI
 rw[List.take_length]
 unfold InsP at h
 obtain ⟨op,right,bed,pos,to,car,rack⟩:=i0
 simp only at h ⊢
 rcases h with ⟨h1|h1,h2,h3,h4,h5,h6,h7⟩|⟨h1|h1|h1,h2,h3,h4,h5,h6⟩|⟨h1,h2,h3,h4,h5,h6⟩|⟨h1,h2,h3,h4,h5,h6,h7⟩|⟨h1,h2,h3,h4,h5,h6,h7,h8⟩|⟨h1,h2,h3,h4,h5,h6,h7⟩
 all_goals
  subst h1
  simp_all [partsI,setP]
def restT (i0:Ins) (k:Nat):List UInt8:=join 32 (((partsI i0.op).drop k).map (partT i0))
theorem parts_ne:∀ a,a<10→0<a→partsI a ≠ []:=by decide
theorem textI_eq {i0:Ins} (h:InsP i0):textI i0=nameI i0.op++32::restT i0 0:=by
 unfold textI restT
 rw[List.drop_zero]
 have:=parts_ne i0.op h.op_lt.2 h.op_lt.1
 cases hp:partsI i0.op with
 |nil=>exact absurd hp this
 |cons c r=>rw[List.map_cons,join]
theorem restT_last (i0:Ins) (k:Nat) (h:k+1=(partsI i0.op).length):restT i0 k=partT i0 (partsI i0.op)[k]! ∧restT i0 (k+1)= []:=by
 unfold restT
 constructor
 ·rw[List.drop_eq_getElem_cons (by omega),List.drop_eq_nil_of_le (by omega),← getElem!_pos _ k (by omega)]
  rfl
 ·rw[List.drop_eq_nil_of_le (by omega)];rfl
theorem restT_more (i0:Ins) (k:Nat) (h:k+1<(partsI i0.op).length):restT i0 k=partT i0 (partsI i0.op)[k]! ++32::restT i0 (k+1):=by
 unfold restT
 rw[List.drop_eq_getElem_cons (by omega),List.drop_eq_getElem_cons (i:=k+1) h,← getElem!_pos _ k (by omega),List.map_cons,List.map_cons,join]
theorem InsP.bounds {i:Ins} (h:InsP i):i.bed≤1∧ndOK i.pos∧ndOK i.to∧(0≤i.car∧i.car≤6)∧ -8≤i.rack∧i.rack≤8:=by
 unfold InsP ndOK at h
 unfold ndOK
 omega
theorem partsI_mem {op:Nat} (h:op<10):∀ c ∈ partsI op,c=100∨c=110∨c=111∨c=99∨c=114:=by
 rcases (by omega:op=0∨op=1∨op=2∨op=3∨op=4∨op=5∨op=6∨op=7∨op=8∨op=9) with rfl|rfl|rfl|rfl|rfl|rfl|rfl|rfl|rfl|rfl<;>decide
theorem partsI_len {op:Nat} (h:op<10):(partsI op).length≤4:=by
 rcases (by omega:op=0∨op=1∨op=2∨op=3∨op=4∨op=5∨op=6∨op=7∨op=8∨op=9) with rfl|rfl|rfl|rfl|rfl|rfl|rfl|rfl|rfl|rfl<;>decide
theorem join_len (c:UInt8) (B:Nat):∀ ws:List (List UInt8),(∀ w ∈ ws,w.length≤B)→(join c ws).length≤ws.length*(B+1)
 | [],_=>by simp[join]
 | [w],h=>by have:=h w (by simp);simp[join];omega
 |w::v::ws,h=>by
  have h1:=h w (by simp)
  have h2:=join_len c B (v::ws) fun x hx=>h x (List.mem_cons_of_mem _ hx)
  have e:(w::v::ws).length*(B+1)=(v::ws).length*(B+1)+(B+1):=by rw[List.length_cons,Nat.succ_mul]
  rw[join,List.length_append,List.length_cons,e]
  omega
theorem nameI_len:∀ op,op<10→(nameI op).length≤5:=by decide
theorem textI_len {i:Ins} (h:InsP i):(textI i).length≤100:=by
 have hb:=h.bounds
 have h1:∀ z:Int,-1000≤z∧z≤1000→(Lib.itoa z).length≤13:=fun z hz=>itoa_len (by omega) (by omega)
 have h2:∀ w ∈ nameI i.op::(partsI i.op).map (partT i),w.length≤14:=fun w hw=>by
  rcases List.mem_cons.1 hw with rfl|hw
  ·have:=nameI_len i.op h.op_lt.2;omega
  ·obtain ⟨c,_,rfl⟩:=List.mem_map.1 hw
   unfold partT
   split
   ·split<;>simp
   split
   ·have:=h1 i.pos (by unfold ndOK at hb;omega);unfold ndl;simp;omega
   split
   ·have:=h1 i.to (by unfold ndOK at hb;omega);unfold ndl;simp;omega
   split
   ·have:=h1 i.car (by omega);omega
   ·have:=h1 i.rack (by omega);omega
 have h3:=join_len 32 14 _ h2
 have h4:=partsI_len h.op_lt.2
 have h5:(nameI i.op::(partsI i.op).map (partT i)).length≤5:=by rw[List.length_cons,List.length_map];omega
 unfold textI
 have:=Nat.mul_le_mul_right 15 h5
 omega
end Go.Itp
namespace Go.Proofs.YtbefpfbidgfipaaDoor
open Go Go.Itp
set_option maxRecDepth 100000
set_option linter.unusedSimpArgs false
set_option linter.unusedVariables false
abbrev strV (l:List UInt8):V:= .sc (.string ⟨l.toArray⟩)
abbrev strs (s:Nat) (l:List (List UInt8)):V:= .sl s l.length (l.map sD)
theorem lt_succ_cases {P:Nat→Prop} {k:Nat} (h:∀ j,j<k→P j) (hk:P k):∀ j,j<k+1→P j:=fun j hj=>by
 rcases Nat.lt_or_eq_of_le (Nat.le_of_lt_succ hj) with h1|h1
 ·exact h j h1
 ·subst h1;exact hk
set_option maxHeartbeats 1000000
section
variable (w:World) (n:Nat)
def selfP (b:Nat) (p:V):Prop:=p= .sc (.pointer none)∨p= .ptr b 0
theorem copyCheck_w {C:Ctx} {st:VSt} {Q:V→VSt→Prop} (hC:C.E=EN w (n+2)) (b e:Nat) (p g:V) (hb:aget st.own b=some (.box 77 e [p,g])) (hp:selfP b p) (hro:st.ro≤b)
  (hq:Q (.tup []) ⟨aset st.own b (.box 77 e [.ptr b 0,g]),st.next,st.ro⟩):CallV C 57 [.ptr b 0] st Q:=by
 refine callV_w hC rfl rfl (fun _ _=>rfl) (Nat.le_of_ble_eq_true rfl) hq fun C' hC' hn=>?_
 obtain ⟨H,nx,ro⟩:=st
 have h2:(2:Nat)≤ [p,g].length:=Nat.le_refl _
 rcases hp with rfl|rfl
 ·simp (disch:=first|omega|assumption|exact bd (by with_unfolding_all rfl)|exact Or.inl rfl|(simp only[VVlen]<;>omega)|fail) only[O1,WA,slotsL,opdsA,Nat.reduceEqDiff,Nat.reduceLT,Nat.reduceAdd,Nat.reduceBEq,Int.reduceAdd,Int.reduceSub,Int.reduceLT,Int.reduceLE,Int.reduceEq,Int.reduceNeg,↓reduceIte,reduceCtorEq,List.replicate,c57,hb,eqNilP_ptr,eqNilP_nil]
  refine callV_same hC' (fun x s=>?_) ?_
  ·show PR w _ [x] s=some (x,[])
   rfl
  simp (disch:=first|omega|assumption|exact bd (by with_unfolding_all rfl)|exact Or.inl rfl|(simp only[VVlen]<;>omega)|fail) only[O1,WA,slotsL,opdsA,Nat.reduceEqDiff,Nat.reduceLT,Nat.reduceAdd,Nat.reduceBEq,Int.reduceAdd,Int.reduceSub,Int.reduceLT,Int.reduceLE,Int.reduceEq,Int.reduceNeg,↓reduceIte,reduceCtorEq,List.replicate,hb,eqNilP_ptr]
  exact .refl _ _
 ·have hs:aset H b (.box 77 e [.ptr b 0,g])=H:=aset_self _ _ _ hb
  simp (disch:=first|omega|assumption|exact bd (by with_unfolding_all rfl)|exact Or.inl rfl|(simp only[VVlen]<;>omega)|fail) only[O1,WA,slotsL,opdsA,Nat.reduceEqDiff,Nat.reduceLT,Nat.reduceAdd,Nat.reduceBEq,Int.reduceAdd,Int.reduceSub,Int.reduceLT,Int.reduceLE,Int.reduceEq,Int.reduceNeg,↓reduceIte,reduceCtorEq,List.replicate,c57,hb,eqPtrV_same,eqNilP_ptr,eqNilP_nil]
  rw[hs]
  exact .refl _ _
theorem writeString_w {C:Ctx} {st:VSt} {Q:V→VSt→Prop} (hC:C.E=EN w (n+3)) (b r:Nat) (p:V) (acc s:ByteArray) (hb:aget st.own b=some (.box 77 1 [p,.gr 2 r acc.size])) (hr:aget st.own r=some (.gro 5 1 false (strD acc))) (hp:selfP b p) (hro:st.ro≤b) (hro2:st.ro≤r) (hrb:r ≠ b) (hlt:b ≠ st.next)
  (hsz:acc.size+s.size≤1099511627776) (hq:Q (.tup [.sc (.int .i64 s.size),.sc .nilIface]) ⟨(st.next,.gro 5 1 false (strD (acc++s)))::aset (adel r st.own) b (.box 77 1 [.ptr b 0,.gr 2 st.next (acc.size+s.size)]),st.next+1,st.ro⟩):
  CallV C 36 [.ptr b 0,.sc (.string s)] st Q:=by
 refine callV_w hC rfl rfl (fun _ _=>rfl) (Nat.le_of_ble_eq_true rfl) hq fun C' hC' hn=>?_
 obtain ⟨H,nx,ro⟩:=st
 have h1:=strD_len acc
 have h2:=strD_ok s
 have a1:aget (aset H b (.box 77 1 [.ptr b 0,.gr 2 r acc.size])) b=some (.box 77 1 [.ptr b 0,.gr 2 r acc.size]):=aget_aset_eq hb
 have a2:aget (aset H b (.box 77 1 [.ptr b 0,.gr 2 r acc.size])) r=some (.gro 5 1 false (strD acc)):=by rw[aget_aset _ _ _ _ _ hb,if_neg hrb];exact hr
 have hbr:¬ b=r:=fun e=>hrb e.symm
 have a3:aget (adel r (aset H b (.box 77 1 [.ptr b 0,.gr 2 r acc.size]))) b=some (.box 77 1 [.ptr b 0,.gr 2 r acc.size]):=by rw[aget_adel,if_neg hbr];exact a1
 simp (disch:=first|omega|assumption|exact bd (by with_unfolding_all rfl)|exact Or.inl rfl|(simp only[VVlen]<;>omega)|fail) only[O1,WA,slotsL,opdsA,Nat.reduceEqDiff,Nat.reduceLT,Nat.reduceAdd,Nat.reduceBEq,Int.reduceAdd,Int.reduceSub,Int.reduceLT,Int.reduceLE,Int.reduceEq,Int.reduceNeg,↓reduceIte,reduceCtorEq,List.replicate,c36]
 refine copyCheck_w w n hC' b 1 p _ hb hp hro ?_
 simp (disch:=first|omega|assumption|exact bd (by with_unfolding_all rfl)|exact Or.inl rfl|(simp only[VVlen]<;>omega)|fail) only[O1,WA,slotsL,opdsA,Nat.reduceEqDiff,Nat.reduceLT,Nat.reduceAdd,Nat.reduceBEq,Int.reduceAdd,Int.reduceSub,Int.reduceLT,Int.reduceLE,Int.reduceEq,Int.reduceNeg,↓reduceIte,reduceCtorEq,List.replicate,a1,a2,a3,srcOf_str,strD_eq,hbr,hlt,strD_append,frozA_none]
 rw[adel_aset _ _ _ _ hrb,aset_aset]
 exact .refl _ _
theorem string_w {C:Ctx} {st:VSt} {Q:V→VSt→Prop} (hC:C.E=EN w (n+1)) (b r:Nat) (p:V) (acc:ByteArray) (hb:aget st.own b=some (.box 77 1 [p,.gr 2 r acc.size])) (hr:aget st.own r=some (.gro 5 1 false (strD acc))) (hro:st.ro≤b) (hro2:st.ro≤r)
  (hsz:acc.size≤1099511627776) (hq:∀ st',st'.ro=st.ro→Q (.sc (.string acc)) st'):CallV C 38 [.ptr b 0] st Q:=by
 obtain ⟨H,nx,ro⟩:=st
 by_cases h0:acc.size=0
 ·rw[h0] at hb
  have hs:acc=ByteArray.empty:=by
   apply ByteArray.ext;apply Array.ext'
   rw[List.eq_nil_of_length_eq_zero (show acc.data.toList.length=0 by simpa using h0)]
   rfl
  refine callV_wW (st':=⟨aset H b (.box 77 1 [p,.sc (.slice none 0 0)]),nx,ro⟩) hC rfl rfl (fun _ _=>rfl) (Nat.le_of_ble_eq_true rfl) (hq ⟨aset H b (.box 77 1 [p,.sc (.slice none 0 0)]),nx,ro⟩ rfl) (fun C' hn=>?_) fun C' hC' hn=>?_
  ·exact weak_cell (C:=C') (st:=⟨H,nx,ro⟩) (k:=1) hb rfl same_gr0
  have a1:aget (aset H b (.box 77 1 [p,.sc (.slice none 0 0)])) b=some (.box 77 1 [p,.sc (.slice none 0 0)]):=aget_aset_eq hb
  rw[hs]
  simp (disch:=first|omega|assumption|exact bd (by with_unfolding_all rfl)|exact Or.inl rfl|(simp only[VVlen]<;>omega)|fail) only[O1,WA,slotsL,opdsA,Nat.reduceEqDiff,Nat.reduceLT,Nat.reduceAdd,Nat.reduceBEq,Int.reduceAdd,Int.reduceSub,Int.reduceLT,Int.reduceLE,Int.reduceEq,Int.reduceNeg,↓reduceIte,reduceCtorEq,List.replicate,c38,a1,vustr_nil]
  exact .refl _ _
 ·refine callV_w hC rfl rfl (fun _ _=>rfl) (Nat.le_of_ble_eq_true rfl) (hq ⟨adel r H,nx,ro⟩ rfl) fun C' hC' hn=>?_
  have hv:=vustr_gro ⟨H,nx,ro⟩ 5 1 r acc hr hro2 (by omega) hsz
  simp (disch:=first|omega|assumption|exact bd (by with_unfolding_all rfl)|exact Or.inl rfl|(simp only[VVlen]<;>omega)|fail) only[O1,WA,slotsL,opdsA,Nat.reduceEqDiff,Nat.reduceLT,Nat.reduceAdd,Nat.reduceBEq,Int.reduceAdd,Int.reduceSub,Int.reduceLT,Int.reduceLE,Int.reduceEq,Int.reduceNeg,↓reduceIte,reduceCtorEq,List.replicate,c38,hb,h0,hv]
  exact .refl _ _
end
section
variable (w:World) (n:Nat)
theorem indexByteString_o (st:VSt) (l:List UInt8) (c:UInt8):VSpecO (EN w (n+1)) 88 st [strV l,.sc (.int .u8 c.toNat)] (.sc (.int .i64 (idxB c l))):=by
 refine prim_o (ys:= [.string ⟨l.toArray⟩,.int .u8 c.toNat]) (fun s=>?_) rfl
 refine orElse_left ?_
 show primA .indexByte 0 [.string ⟨l.toArray⟩,.int .u8 c.toNat] s=_
 unfold primA
 simp only[Int.toNat_natCast]
 rw[show c.toNat.toUInt8=c by simp,firstIdxA_l]
theorem indexByte_p (l:List UInt8) (c:UInt8):VSpec (EN w (n+2)) 75 [strV l,.sc (.int .u8 c.toNat)] (.sc (.int .i64 (idxB c l))) ⟨[],0,0⟩:=by
 refine vspec_flat rfl rfl (fun _ _=>rfl) (Nat.le_of_ble_eq_true rfl) (oldVals w) rfl fun C hC h0=>?_
 simp (disch:=first|omega|assumption|exact bd (by with_unfolding_all rfl)|exact Or.inl rfl|(simp only[VVlen]<;>omega)|fail) only[O1,WA,slotsL,opdsA,Nat.reduceEqDiff,Nat.reduceLT,Nat.reduceAdd,Nat.reduceBEq,Int.reduceAdd,Int.reduceSub,Int.reduceLT,Int.reduceLE,Int.reduceEq,Int.reduceNeg,↓reduceIte,reduceCtorEq,List.replicate,c75]
 refine callV_flat (by rw[hC];exact indexByteString_o w n _ l c) ?_
 repeat' (first|(simp (disch:=first|omega|assumption|exact bd (by with_unfolding_all rfl)|exact Or.inl rfl|(simp only[VVlen]<;>omega)|fail) only[O1,WA,slotsL,opdsA,Nat.reduceEqDiff,Nat.reduceLT,Nat.reduceAdd,Nat.reduceBEq,Int.reduceAdd,Int.reduceSub,Int.reduceLT,Int.reduceLE,Int.reduceEq,Int.reduceNeg,↓reduceIte,reduceCtorEq,List.replicate])|apply gC_drawW|((first|apply gI_dec|apply gG_dec|apply gPG_dec|apply gI_var|apply gG_var|apply gPG_var)<;>intro _))
 exact weak_flat rfl h0 rfl
theorem index1_p (l:List UInt8) (c:UInt8) (hl:l.length≤1000000000):VSpec (EN w (n+3)) 64 [strV l,strV [c]] (.sc (.int .i64 (idxB c l))) ⟨[],0,0⟩:=by
 refine vspec_flat rfl rfl (fun _ _=>rfl) (Nat.le_of_ble_eq_true rfl) (oldVals w) rfl fun C hC h0=>?_
 have h1:(ByteArray.mk [c].toArray).size=1:=rfl
 have hlc:((ByteArray.mk [c].toArray)=ByteArray.mk l.toArray)↔l= [c]:=by
  constructor
  ·intro h
   have:=congrArg (fun b:ByteArray=>b.data.toList) h
   simpa using this.symm
  ·rintro rfl;rfl
 by_cases hc:l= [c]
 ·subst hc
  have hi:idxB c [c]=0:=idxB_app (a:= []) [] (by simp)
  rw[hi]
  simp (disch:=first|omega|assumption|exact bd (by with_unfolding_all rfl)|exact Or.inl rfl|(simp only[VVlen]<;>omega)|fail) only[O1,WA,slotsL,opdsA,Nat.reduceEqDiff,Nat.reduceLT,Nat.reduceAdd,Nat.reduceBEq,Int.reduceAdd,Int.reduceSub,Int.reduceLT,Int.reduceLE,Int.reduceEq,Int.reduceNeg,↓reduceIte,reduceCtorEq,List.replicate,c64,h1]
  exact weak_flat rfl h0 rfl
 ·have hb:idxStrV (strV [c]) (.sc (.int .i64 0))=some (.sc (.int .u8 c.toNat)):=by
   rw[idxStr_l _ _ _ (by omega) (by simp)]
   rfl
  simp (disch:=first|omega|assumption|exact bd (by with_unfolding_all rfl)|exact Or.inl rfl|(simp only[VVlen]<;>omega)|fail) only[O1,WA,slotsL,opdsA,Nat.reduceEqDiff,Nat.reduceLT,Nat.reduceAdd,Nat.reduceBEq,Int.reduceAdd,Int.reduceSub,Int.reduceLT,Int.reduceLE,Int.reduceEq,Int.reduceNeg,↓reduceIte,reduceCtorEq,List.replicate,c64,h1,hlc,hc,hb]
  refine callV_flat ((indexByte_p w n l c).of hC rfl _ rfl) ?_
  repeat' (first|(simp (disch:=first|omega|assumption|exact bd (by with_unfolding_all rfl)|exact Or.inl rfl|(simp only[VVlen]<;>omega)|fail) only[O1,WA,slotsL,opdsA,Nat.reduceEqDiff,Nat.reduceLT,Nat.reduceAdd,Nat.reduceBEq,Int.reduceAdd,Int.reduceSub,Int.reduceLT,Int.reduceLE,Int.reduceEq,Int.reduceNeg,↓reduceIte,reduceCtorEq,List.replicate])|apply gC_drawW|((first|apply gI_dec|apply gG_dec|apply gPG_dec|apply gI_var|apply gG_var|apply gPG_var)<;>intro _))
  exact weak_flat rfl h0 rfl
theorem index_p (l:List UInt8) (c:UInt8) (hl:l.length≤1000000000):VSpec (EN w (n+4)) 60 [strV l,strV [c]] (.sc (.int .i64 (idxB c l))) ⟨[],0,0⟩:=by
 refine vspec_flat rfl rfl (fun _ _=>rfl) (Nat.le_of_ble_eq_true rfl) (oldVals w) rfl fun C hC h0=>?_
 simp (disch:=first|omega|assumption|exact bd (by with_unfolding_all rfl)|exact Or.inl rfl|(simp only[VVlen]<;>omega)|fail) only[O1,WA,slotsL,opdsA,Nat.reduceEqDiff,Nat.reduceLT,Nat.reduceAdd,Nat.reduceBEq,Int.reduceAdd,Int.reduceSub,Int.reduceLT,Int.reduceLE,Int.reduceEq,Int.reduceNeg,↓reduceIte,reduceCtorEq,List.replicate,c60]
 refine callV_flat ((index1_p w n l c hl).of hC rfl _ rfl) ?_
 repeat' (first|(simp (disch:=first|omega|assumption|exact bd (by with_unfolding_all rfl)|exact Or.inl rfl|(simp only[VVlen]<;>omega)|fail) only[O1,WA,slotsL,opdsA,Nat.reduceEqDiff,Nat.reduceLT,Nat.reduceAdd,Nat.reduceBEq,Int.reduceAdd,Int.reduceSub,Int.reduceLT,Int.reduceLE,Int.reduceEq,Int.reduceNeg,↓reduceIte,reduceCtorEq,List.replicate])|apply gC_drawW|((first|apply gI_dec|apply gG_dec|apply gPG_dec|apply gI_var|apply gG_var|apply gPG_var)<;>intro _))
 exact weak_flat rfl h0 rfl
def cutB (c:UInt8) (l:List UInt8):List UInt8 × List UInt8 × Bool:=if 0≤idxB c l then (l.take (idxB c l).toNat,l.drop ((idxB c l).toNat+1),true) else (l,[],false)
theorem cut1_p (l:List UInt8) (c:UInt8) (hl:l.length≤1000000000):VSpec (EN w (n+4)) 51 [strV l,strV [c]] (.tup [strV (cutB c l).1,strV (cutB c l).2.1,.sc (.bool (cutB c l).2.2)]) ⟨[],0,0⟩:=by
 refine vspec_flat rfl rfl (fun _ _=>rfl) (Nat.le_of_ble_eq_true rfl) (oldVals w) rfl fun C hC h0=>?_
 have h1:(ByteArray.mk [c].toArray).size=1:=rfl
 simp (disch:=first|omega|assumption|exact bd (by with_unfolding_all rfl)|exact Or.inl rfl|(simp only[VVlen]<;>omega)|fail) only[O1,WA,slotsL,opdsA,Nat.reduceEqDiff,Nat.reduceLT,Nat.reduceAdd,Nat.reduceBEq,Int.reduceAdd,Int.reduceSub,Int.reduceLT,Int.reduceLE,Int.reduceEq,Int.reduceNeg,↓reduceIte,reduceCtorEq,List.replicate,c51]
 refine callV_flat ((index1_p w n l c hl).of hC rfl _ rfl) ?_
 rcases byte_split c l with hf|⟨a,r,rfl,hf⟩
 ·have hi:=idxB_free hf
  have e:cutB c l=(l,[],false):=by unfold cutB;rw[if_neg (by omega)]
  rw[e,hi]
  simp (disch:=first|omega|assumption|exact bd (by with_unfolding_all rfl)|exact Or.inl rfl|(simp only[VVlen]<;>omega)|fail) only[O1,WA,slotsL,opdsA,Nat.reduceEqDiff,Nat.reduceLT,Nat.reduceAdd,Nat.reduceBEq,Int.reduceAdd,Int.reduceSub,Int.reduceLT,Int.reduceLE,Int.reduceEq,Int.reduceNeg,↓reduceIte,reduceCtorEq,List.replicate]
  all_goals try (exfalso;omega)
  exact weak_flat rfl h0 rfl
 ·have hi:=idxB_app r hf
  have e:cutB c (a++c::r)=(a,r,true):=by unfold cutB;rw[if_pos (by omega),hi];simp
  rw[e,hi]
  have hal:a.length≤1000000000:=by simp at hl;omega
  have hb:a.length+(c::r).length≤1000000000:=by simpa using hl
  have e1:=slcS_hi (a++c::r) .i64 a.length (by omega) (by simp;omega)
  have e2:=slcS_lo (a++c::r) .i64 ((a.length:Int)+1) (by omega) (by simp;omega)
  rw[Int.toNat_natCast,List.take_left] at e1
  rw[show ((a.length:Int)+1).toNat=a.length+1 by omega,show (a++c::r).drop (a.length+1)=r by rw[← List.drop_drop];simp] at e2
  have h1i:((1:Nat):Int)=1:=rfl
  simp (disch:=first|omega|assumption|exact bd (by with_unfolding_all rfl)|exact Or.inl rfl|(simp only[VVlen]<;>omega)|fail) only[O1,WA,slotsL,opdsA,Nat.reduceEqDiff,Nat.reduceLT,Nat.reduceAdd,Nat.reduceBEq,Int.reduceAdd,Int.reduceSub,Int.reduceLT,Int.reduceLE,Int.reduceEq,Int.reduceNeg,↓reduceIte,reduceCtorEq,List.replicate,h1,h1i,e1,e2]
  all_goals try (exfalso;omega)
  exact weak_flat rfl h0 rfl
theorem cut_p (l:List UInt8) (c:UInt8) (hl:l.length≤1000000000):VSpec (EN w (n+5)) 26 [strV l,strV [c]] (.tup [strV (cutB c l).1,strV (cutB c l).2.1,.sc (.bool (cutB c l).2.2)]) ⟨[],0,0⟩:=by
 refine vspec_flat rfl rfl (fun _ _=>rfl) (Nat.le_of_ble_eq_true rfl) (oldVals w) rfl fun C hC h0=>?_
 simp (disch:=first|omega|assumption|exact bd (by with_unfolding_all rfl)|exact Or.inl rfl|(simp only[VVlen]<;>omega)|fail) only[O1,WA,slotsL,opdsA,Nat.reduceEqDiff,Nat.reduceLT,Nat.reduceAdd,Nat.reduceBEq,Int.reduceAdd,Int.reduceSub,Int.reduceLT,Int.reduceLE,Int.reduceEq,Int.reduceNeg,↓reduceIte,reduceCtorEq,List.replicate,c26]
 refine callV_flat ((cut1_p w n l c hl).of hC rfl _ rfl) ?_
 simp (disch:=first|omega|assumption|exact bd (by with_unfolding_all rfl)|exact Or.inl rfl|(simp only[VVlen]<;>omega)|fail) only[O1,WA,slotsL,opdsA,Nat.reduceEqDiff,Nat.reduceLT,Nat.reduceAdd,Nat.reduceBEq,Int.reduceAdd,Int.reduceSub,Int.reduceLT,Int.reduceLE,Int.reduceEq,Int.reduceNeg,↓reduceIte,reduceCtorEq,List.replicate]
 exact weak_flat rfl h0 rfl
end
theorem count_words (c:UInt8):∀ (m:Nat) (l:List UInt8),l.length≤m→(words c l).length=Lib.countByte l c+1
 |m,l,hm=>by
  rcases byte_split c l with h|⟨a,r,rfl,h⟩
  ·rw[words_free h]
   unfold Lib.countByte
   rw[List.count_eq_zero_of_not_mem h]
   rfl
  ·rw[words_app r h]
   cases m with
   |zero=>simp at hm
   |succ m=>
    have ih:=count_words c m r (by simp at hm;omega)
    unfold Lib.countByte at ih ⊢
    rw[List.length_cons,ih,List.count_append,List.count_eq_zero_of_not_mem h,List.count_cons_self]
    omega
section
variable (w:World) (n:Nat)
theorem countString_o (st:VSt) (l:List UInt8) (c:UInt8):VSpecO (EN w (n+1)) 59 st [strV l,.sc (.int .u8 c.toNat)] (.sc (.int .i64 (Lib.countByte l c))):=by
 refine prim_o (ys:= [.string ⟨l.toArray⟩,.int .u8 c.toNat]) (fun s=>?_) rfl
 refine orElse_left ?_
 show primA .count 0 [.string ⟨l.toArray⟩,.int .u8 c.toNat] s=_
 unfold primA
 simp only[Int.toNat_natCast]
 have e:c.toNat.toUInt8=c:=by simp
 rw[Lib.foldl_data,Lib.count_foldl,e]
 simp
theorem count_p (l:List UInt8) (c:UInt8) (hl:l.length≤1000000000):VSpec (EN w (n+2)) 39 [strV l,strV [c]] (.sc (.int .i64 (Lib.countByte l c))) ⟨[],0,0⟩:=by
 refine vspec_flat rfl rfl (fun _ _=>rfl) (Nat.le_of_ble_eq_true rfl) (oldVals w) rfl fun C hC h0=>?_
 have h1:(ByteArray.mk [c].toArray).size=1:=rfl
 have hb:idxStrV (strV [c]) (.sc (.int .i64 0))=some (.sc (.int .u8 c.toNat)):=by
  rw[idxStr_l _ _ _ (by omega) (by simp)]
  rfl
 simp (disch:=first|omega|assumption|exact bd (by with_unfolding_all rfl)|exact Or.inl rfl|(simp only[VVlen]<;>omega)|fail) only[O1,WA,slotsL,opdsA,Nat.reduceEqDiff,Nat.reduceLT,Nat.reduceAdd,Nat.reduceBEq,Int.reduceAdd,Int.reduceSub,Int.reduceLT,Int.reduceLE,Int.reduceEq,Int.reduceNeg,↓reduceIte,reduceCtorEq,List.replicate,c39,h1,hb]
 refine callV_flat (by rw[hC];exact countString_o w n _ l c) ?_
 repeat' (first|(simp (disch:=first|omega|assumption|exact bd (by with_unfolding_all rfl)|exact Or.inl rfl|(simp only[VVlen]<;>omega)|fail) only[O1,WA,slotsL,opdsA,Nat.reduceEqDiff,Nat.reduceLT,Nat.reduceAdd,Nat.reduceBEq,Int.reduceAdd,Int.reduceSub,Int.reduceLT,Int.reduceLE,Int.reduceEq,Int.reduceNeg,↓reduceIte,reduceCtorEq,List.replicate])|apply gC_drawW|((first|apply gI_dec|apply gG_dec|apply gPG_dec|apply gI_var|apply gG_var|apply gPG_var)<;>intro _))
 exact weak_flat rfl h0 rfl
end
set_option maxHeartbeats 2000000
section
variable (w:World) (n:Nat)
theorem wStr_w {C:Ctx} {st:VSt} {Q:V→VSt→Prop} (hC:C.E=EN w (n+3)) (b r:Nat) (p:V) (l x:List UInt8) (hb:aget st.own b=some (.box 77 1 [p,.gr 2 r l.length])) (hr:aget st.own r=some (.gro 5 1 false (strD ⟨l.toArray⟩))) (hp:selfP b p) (hro:st.ro≤b) (hro2:st.ro≤r) (hrb:r ≠ b) (hlt:b ≠ st.next)
  (hsz:l.length+x.length≤1099511627776) (hq:Q (.tup [.sc (.int .i64 x.length),.sc .nilIface]) ⟨(st.next,.gro 5 1 false (strD ⟨(l++x).toArray⟩))::aset (adel r st.own) b (.box 77 1 [.ptr b 0,.gr 2 st.next (l.length+x.length)]),st.next+1,st.ro⟩):
  CallV C 36 [.ptr b 0,strV x] st Q:=by
 have h1:=mk_size l
 have h2:=mk_size x
 have h3:(ByteArray.mk l.toArray)++(ByteArray.mk x.toArray)=⟨(l++x).toArray⟩:=by
  apply ByteArray.ext;apply Array.ext'
  rw[ByteArray.data_append,Array.toList_append]
 refine writeString_w w n hC b r p ⟨l.toArray⟩ ⟨x.toArray⟩ (by rw[h1];exact hb) hr hp hro hro2 hrb hlt (by rw[h1,h2];exact hsz) ?_
 rw[h1,h2,h3]
 exact hq
theorem blen_p (st:VSt) (b e r m:Nat) (p:V) (hb:aget st.own b=some (.box 77 e [p,.gr 2 r m])) (hm:m≤1000000):VSpecO (EN w (n+1)) 37 st [.ptr b 0] (.sc (.int .i64 m)):=by
 refine vspecO_g rfl rfl (fun _ _=>rfl) (Nat.le_of_ble_eq_true rfl) rfl fun C hC h0=>⟨⟨st.own,st.next,st.next⟩,?_⟩
 simp (disch:=first|omega|assumption|exact bd (by with_unfolding_all rfl)|exact Or.inl rfl|(simp only[VVlen]<;>omega)|fail) only[O1,WA,slotsL,opdsA,Nat.reduceEqDiff,Nat.reduceLT,Nat.reduceAdd,Nat.reduceBEq,Int.reduceAdd,Int.reduceSub,Int.reduceLT,Int.reduceLE,Int.reduceEq,Int.reduceNeg,↓reduceIte,reduceCtorEq,List.replicate,c37,hb]
 exact .refl _ _
end
theorem dd_split (x:Nat):Lib.decDigits x=(if x / 10=0 then [] else Lib.decDigits (x / 10))++ [UInt8.ofNat (48+x % 10)]:=by
 by_cases h:x<10
 ·rw[Lib.decDigits,dif_pos h,if_pos (by omega),show x % 10=x by omega];rfl
 ·rw[Lib.decDigits,dif_neg h,if_neg (by omega)]
section
variable (w:World) (n:Nat)
theorem decimal_p (x:Nat) (hx:x≤1000000000000):VSpec (EN w (n+1)) 63 [.sc (.int .i64 x)] (strV (Lib.decDigits x)) ⟨[],0,0⟩:=by
 refine vspec_flat rfl rfl (fun _ _=>rfl) (Nat.le_of_ble_eq_true rfl) (oldVals w) rfl fun C hC h0=>?_
 have hs1:∀ (c:UInt8) (s:List UInt8),s.length≤2000000000000→(ByteArray.mk [c].toArray).size+(ByteArray.mk s.toArray).size<9223372036854775807:=fun c s h=>by
  show 1+s.toArray.size<_
  simp;omega
 have e1:(x:Int) % 10=((x % 10:Nat):Int):=by omega
 have e2:(x:Int) / 10=((x / 10:Nat):Int):=by omega
 have e4:(48:Int)+((x % 10:Nat):Int)=((48+x % 10:Nat):Int):=by omega
 have e3:=wrap_byte (48+x % 10) (by omega)
 have e5:=b2s_one (o:=0) (t:=5) (g:=false) (z:=false) (H:= [(0,.row 5 1 false false [.sc (.int .u8 ((48+x % 10:Nat):Int))])]) (48+x % 10) (by omega) rfl 1
 simp (disch:=first|omega|assumption|exact bd (by with_unfolding_all rfl)|exact Or.inl rfl|(simp only[VVlen]<;>omega)|fail) only[O1,WA,slotsL,opdsA,Nat.reduceEqDiff,Nat.reduceLT,Nat.reduceAdd,Nat.reduceBEq,Int.reduceAdd,Int.reduceSub,Int.reduceLT,Int.reduceLE,Int.reduceEq,Int.reduceNeg,↓reduceIte,reduceCtorEq,List.replicate,c63,e1,e2,e4,e3,e5]
 refine g_while (fun m fr st=>∃ (k:Nat) (s:List UInt8),m=k∧k≤x∧Lib.decDigits x=(if k=0 then [] else Lib.decDigits k)++s∧s.length+k≤x+1∧fr= [(0,.sc (.int .i64 k)),(3,strV s)]∧st=⟨[],0,0⟩) (x / 10) ?_ ⟨_,_,weak_to [] 0 h0 rfl rfl rfl rfl,x / 10,[UInt8.ofNat (48+x % 10)],?_⟩ ?_
 ·rw[hC,callP_rounds];unfold many;omega
 ·exact ⟨rfl,by omega,dd_split x,by simp;omega,rfl,rfl⟩
 rintro k fr st ⟨_,s,rfl,hk,hd,hsl,rfl,rfl⟩
 by_cases hlt:0<k
 ·rw[if_neg (by omega),dd_split k] at hd
  have e1:(k:Int) % 10=((k % 10:Nat):Int):=by omega
  have e2:(k:Int) / 10=((k / 10:Nat):Int):=by omega
  have e4:(48:Int)+((k % 10:Nat):Int)=((48+k % 10:Nat):Int):=by omega
  have e3:=wrap_byte (48+k % 10) (by omega)
  have e5:=b2s_one (o:=0) (t:=5) (g:=false) (z:=false) (H:= [(0,.row 5 1 false false [.sc (.int .u8 ((48+k % 10:Nat):Int))])]) (48+k % 10) (by omega) rfl 1
  simp (disch:=first|omega|assumption|exact bd (by with_unfolding_all rfl)|exact Or.inl rfl|(simp only[VVlen]<;>omega)|fail) only[O1,WA,slotsL,opdsA,Nat.reduceEqDiff,Nat.reduceLT,Nat.reduceAdd,Nat.reduceBEq,Int.reduceAdd,Int.reduceSub,Int.reduceLT,Int.reduceLE,Int.reduceEq,Int.reduceNeg,↓reduceIte,reduceCtorEq,List.replicate,c63l0,e1,e2,e4,e3,e5,b_sadd _ _ (hs1 (UInt8.ofNat (48+k % 10)) s (by omega)),bytes_cat]
  all_goals try (exfalso;omega)
  refine ⟨_,_,_,?_,weak_to [] 0 h0 rfl rfl rfl rfl,k / 10,UInt8.ofNat (48+k % 10)::s,rfl,by omega,?_,by simp;omega,?_,?_⟩
  ·omega
  ·rw[hd];simp
  ·simp[renF,vren]
  ·simp[renH]
 ·have:k=0:=by omega
  subst this
  rw[hd]
  simp (disch:=first|omega|assumption|exact bd (by with_unfolding_all rfl)|exact Or.inl rfl|(simp only[VVlen]<;>omega)|fail) only[O1,WA,slotsL,opdsA,Nat.reduceEqDiff,Nat.reduceLT,Nat.reduceAdd,Nat.reduceBEq,Int.reduceAdd,Int.reduceSub,Int.reduceLT,Int.reduceLE,Int.reduceEq,Int.reduceNeg,↓reduceIte,reduceCtorEq,List.replicate,c63l0]
  all_goals try (exfalso;omega)
  exact weak_flat rfl h0 rfl
end
section
variable (w:World) (n:Nat)
theorem rcut_p (l:List UInt8) (c:UInt8) (hl:l.length≤1000000):VSpec (EN w (n+1)) 32 [strV l,.sc (.int .u8 c.toNat)] (.gr 2 0 (words c l).length) ⟨[(0,.gro 9 1 false ((words c l).map sD))],1,0⟩:=by
 refine vspec_g rfl rfl (fun _ _=>rfl) (Nat.le_of_ble_eq_true rfl) (oldVals w) (retOK_gr (map_nil_iff rfl)) rfl fun C hC h0=>?_
 have hrn:C.E.rounds=many:=by rw[hC,callP_rounds]
 have hsz:=mk_size l
 simp (disch:=first|omega|assumption|exact bd (by with_unfolding_all rfl)|exact Or.inl rfl|(simp only[VVlen]<;>omega)|fail) only[O1,WA,slotsL,opdsA,Nat.reduceEqDiff,Nat.reduceLT,Nat.reduceAdd,Nat.reduceBEq,Int.reduceAdd,Int.reduceSub,Int.reduceLT,Int.reduceLE,Int.reduceEq,Int.reduceNeg,↓reduceIte,reduceCtorEq,List.replicate,c32]
 refine g_while (fun m fr st=>∃ (dn:List (List UInt8)) (p x r:List UInt8),m=r.length+1∧l=p++(x++r)∧c ∉ x∧words c l=dn++words c (x++r)∧fr= [(0,strV l),(1,.sc (.int .u8 c.toNat)),(5,.gr 2 0 dn.length),(6,.sc (.int .i64 p.length)),(7,.sc (.int .i64 ((p.length+x.length:Nat):Int)))]∧st=⟨[(0,.gro 9 1 false (dn.map sD))],1,0⟩∨(m=0∧dn=words c l∧fr= [(0,strV l),(1,.sc (.int .u8 c.toNat)),(5,.gr 2 0 dn.length),(6,.sc (.int .i64 ((l.length:Int)+1))),(7,.sc (.int .i64 ((l.length:Int)+1)))]∧st=⟨[(0,.gro 9 1 false (dn.map sD))],1,0⟩)) (l.length+1) ?_ ⟨_,_,weak_nilSlot 5 9 1 rfl,[],[],[],l,.inl ⟨rfl,rfl,by simp,rfl,rfl,rfl⟩⟩ ?_
 ·rw[hrn];unfold many;omega
 rintro m fr st ⟨dn,p,x,r,⟨rfl,hlp,hx,hw,rfl,rfl⟩|⟨rfl,rfl,rfl,rfl⟩⟩
 case inr=>
  simp (disch:=first|omega|assumption|exact bd (by with_unfolding_all rfl)|exact Or.inl rfl|(simp only[VVlen]<;>omega)|fail) only[O1,WA,slotsL,opdsA,Nat.reduceEqDiff,Nat.reduceLT,Nat.reduceAdd,Nat.reduceBEq,Int.reduceAdd,Int.reduceSub,Int.reduceLT,Int.reduceLE,Int.reduceEq,Int.reduceNeg,↓reduceIte,reduceCtorEq,List.replicate,c32l0]
  all_goals try (exfalso;omega)
  exact .refl _ _
 have hll:l.length=p.length+(x.length+r.length):=by rw[hlp];simp
 have hwl:=(words_len (c:=c) l.length (s:=l) (Nat.le_refl _)).1
 have hdl:dn.length≤l.length:=by
  have h1:=congrArg List.length hw
  have h2:=List.length_pos_iff.2 (words_ne c (x++r))
  rw[List.length_append] at h1
  omega
 have hdm:(dn.map sD).length=dn.length:=by rw[List.length_map]
 have e1:=slcS_both l .i64 .i64 (p.length:Int) ((p.length+x.length:Nat):Int) (by omega) (by omega) (by omega)
 have e2:List.take (p.length+x.length - p.length) (List.drop p.length l)=x:=by
  rw[hlp,List.drop_left,Nat.add_sub_cancel_left,List.take_left]
 simp only[Int.toNat_natCast] at e1
 rw[e2] at e1
 cases r with
 |nil=>
  have hr0:([]:List UInt8).length=0:=rfl
  rw[List.append_nil,words_free hx] at hw
  have hpx:((p.length+x.length:Nat):Int)=(l.length:Int):=by omega
  have hxD:D.sc (Value.string ⟨x.toArray⟩)=sD x:=rfl
  simp (disch:=first|omega|assumption|exact bd (by with_unfolding_all rfl)|exact Or.inl rfl|(simp only[VVlen]<;>omega)|fail) only[O1,WA,slotsL,opdsA,Nat.reduceEqDiff,Nat.reduceLT,Nat.reduceAdd,Nat.reduceBEq,Int.reduceAdd,Int.reduceSub,Int.reduceLT,Int.reduceLE,Int.reduceEq,Int.reduceNeg,↓reduceIte,reduceCtorEq,List.replicate,c32l0,e1,sD_dv]
  all_goals try (exfalso;omega)
  rw[hpx]
  refine ⟨_,_,_,by omega,weak_to [(2,0)] 1 h0 rfl rfl rfl rfl,dn++ [x],[],[],[],.inr ⟨rfl,hw.symm,?_,?_⟩⟩
  ·rw[List.length_append];rfl
  ·rw[List.map_append];rfl
 |cons b r=>
  have hr0:(b::r).length=r.length+1:=rfl
  have hb:=idxStr_l l .i64 ((p.length+x.length:Nat):Int) (by omega) (by omega)
  have hg:l[p.length+x.length]! =b:=by
   rw[hlp,← List.append_assoc,getElem!_pos _ _ (by simp),List.getElem_append_right (by simp)]
   simp
  rw[Int.toNat_natCast,hg] at hb
  by_cases hbc:b=c
  ·subst hbc
   rw[words_app r hx] at hw
   simp (disch:=first|omega|assumption|exact bd (by with_unfolding_all rfl)|exact Or.inl rfl|(simp only[VVlen]<;>omega)|fail) only[O1,WA,slotsL,opdsA,Nat.reduceEqDiff,Nat.reduceLT,Nat.reduceAdd,Nat.reduceBEq,Int.reduceAdd,Int.reduceSub,Int.reduceLT,Int.reduceLE,Int.reduceEq,Int.reduceNeg,↓reduceIte,reduceCtorEq,List.replicate,c32l0,e1,hb,sD_dv]
   all_goals try (exfalso;omega)
   refine ⟨_,_,_,?_,weak_to [(2,0)] 1 h0 rfl rfl rfl rfl,dn++ [x],p++(x++ [b]),[],r,.inl ⟨rfl,by rw[hlp];simp,by simp,by rw[hw];simp,?_,?_⟩⟩
   ·omega
   ·have hpx:(p++(x++ [b])).length=p.length+x.length+1:=by simp;omega
    rw[hpx,List.length_append];rfl
   ·rw[List.map_append];rfl
  ·have hne:¬ ((b.toNat:Nat):Int)=((c.toNat:Nat):Int):=fun h=>hbc (UInt8.toNat_inj.1 (by omega))
   simp (disch:=first|omega|assumption|exact bd (by with_unfolding_all rfl)|exact Or.inl rfl|(simp only[VVlen]<;>omega)|fail) only[O1,WA,slotsL,opdsA,Nat.reduceEqDiff,Nat.reduceLT,Nat.reduceAdd,Nat.reduceBEq,Int.reduceAdd,Int.reduceSub,Int.reduceLT,Int.reduceLE,Int.reduceEq,Int.reduceNeg,↓reduceIte,reduceCtorEq,List.replicate,c32l0,e1,hb,hne,sD_dv]
   all_goals try (exfalso;omega)
   refine ⟨_,_,_,?_,.refl _ _,dn,p,x++ [b],r,.inl ⟨rfl,by rw[hlp];simp,?_,by rw[hw];simp,?_,rfl⟩⟩
   ·omega
   ·rw[List.mem_append,List.mem_singleton];rintro (h|h);exact hx h;exact hbc h.symm
   ·rw[List.length_append];rfl
end
def preC (c:UInt8) (l:List UInt8):List UInt8 × Bool:=if l.head? =some c then (l.tail,true) else (l,false)
section
variable (w:World) (n:Nat)
theorem hasPre_p (l:List UInt8) (c:UInt8) (hl:l.length≤1000000):VSpec (EN w (n+1)) 79 [strV l,strV [c]] (.sc (.bool (decide (l.head? =some c)))) ⟨[],0,0⟩:=by
 refine vspec_flat rfl rfl (fun _ _=>rfl) (Nat.le_of_ble_eq_true rfl) (oldVals w) rfl fun C hC h0=>?_
 have hsz:=mk_size l
 have h1:(ByteArray.mk [c].toArray).size=1:=rfl
 cases l with
 |nil=>
  have h0':(ByteArray.mk ([]:List UInt8).toArray).size=0:=rfl
  simp (disch:=first|omega|assumption|exact bd (by with_unfolding_all rfl)|exact Or.inl rfl|(simp only[VVlen]<;>omega)|fail) only[O1,WA,slotsL,opdsA,Nat.reduceEqDiff,Nat.reduceLT,Nat.reduceAdd,Nat.reduceBEq,Int.reduceAdd,Int.reduceSub,Int.reduceLT,Int.reduceLE,Int.reduceEq,Int.reduceNeg,↓reduceIte,reduceCtorEq,List.replicate,c79,h1]
  all_goals try (exfalso;omega)
  exact weak_flat rfl h0 rfl
 |cons b r=>
  have e1:=slcS_hi (b::r) .i64 (1:Nat) (by omega) (by simp;omega)
  have e2:(b::r).take (((1:Nat):Int).toNat)= [b]:=by simp
  rw[e2] at e1
  have e3:((1:Nat):Int)=1:=rfl
  rw[e3] at e1
  have hz:(b::r).length=r.length+1:=rfl
  have e4:([b]= [c])=(b=c):=by simp
  simp (disch:=first|omega|assumption|exact bd (by with_unfolding_all rfl)|exact Or.inl rfl|(simp only[VVlen]<;>omega)|fail) only[O1,WA,slotsL,opdsA,Nat.reduceEqDiff,Nat.reduceLT,Nat.reduceAdd,Nat.reduceBEq,Int.reduceAdd,Int.reduceSub,Int.reduceLT,Int.reduceLE,Int.reduceEq,Int.reduceNeg,↓reduceIte,reduceCtorEq,List.replicate,c79,h1,e1,e3,mk_inj]
  all_goals try (exfalso;omega)
  have e5:decide ((b::r).head? =some c)=decide ([b]= [c]):=by simp
  rw[e5]
  exact weak_flat rfl h0 rfl
theorem cutPre0_p (l:List UInt8) (c:UInt8) (hl:l.length≤1000000):VSpec (EN w (n+2)) 65 [strV l,strV [c]] (.tup [strV (preC c l).1,.sc (.bool (preC c l).2)]) ⟨[],0,0⟩:=by
 refine vspec_flat rfl rfl (fun _ _=>rfl) (Nat.le_of_ble_eq_true rfl) (oldVals w) rfl fun C hC h0=>?_
 have hsz:=mk_size l
 have h1:(ByteArray.mk [c].toArray).size=1:=rfl
 have h3:((1:Nat):Int)=1:=rfl
 have hp:=hasPre_p w n l c hl
 by_cases h:l.head? =some c
 ·have e:preC c l=(l.tail,true):=if_pos h
  rw[e]
  rw[decide_eq_true h] at hp
  have hne:0<l.length:=by cases l with|nil=>cases h|cons=>simp
  have e1:=slcS_lo l .i64 1 (by omega) (by omega)
  rw[show (1:Int).toNat=1 from rfl,List.drop_one] at e1
  simp (disch:=first|omega|assumption|exact bd (by with_unfolding_all rfl)|exact Or.inl rfl|(simp only[VVlen]<;>omega)|fail) only[O1,WA,slotsL,opdsA,Nat.reduceEqDiff,Nat.reduceLT,Nat.reduceAdd,Nat.reduceBEq,Int.reduceAdd,Int.reduceSub,Int.reduceLT,Int.reduceLE,Int.reduceEq,Int.reduceNeg,↓reduceIte,reduceCtorEq,List.replicate,c65]
  refine callV_flat (by rw[hC];exact hp.flat rfl rfl) ?_
  simp (disch:=first|omega|assumption|exact bd (by with_unfolding_all rfl)|exact Or.inl rfl|(simp only[VVlen]<;>omega)|fail) only[O1,WA,slotsL,opdsA,Nat.reduceEqDiff,Nat.reduceLT,Nat.reduceAdd,Nat.reduceBEq,Int.reduceAdd,Int.reduceSub,Int.reduceLT,Int.reduceLE,Int.reduceEq,Int.reduceNeg,↓reduceIte,reduceCtorEq,List.replicate,h1,h3,e1]
  exact weak_flat rfl h0 rfl
 ·have e:preC c l=(l,false):=if_neg h
  rw[e]
  rw[decide_eq_false h] at hp
  simp (disch:=first|omega|assumption|exact bd (by with_unfolding_all rfl)|exact Or.inl rfl|(simp only[VVlen]<;>omega)|fail) only[O1,WA,slotsL,opdsA,Nat.reduceEqDiff,Nat.reduceLT,Nat.reduceAdd,Nat.reduceBEq,Int.reduceAdd,Int.reduceSub,Int.reduceLT,Int.reduceLE,Int.reduceEq,Int.reduceNeg,↓reduceIte,reduceCtorEq,List.replicate,c65]
  refine callV_flat (by rw[hC];exact hp.flat rfl rfl) ?_
  simp (disch:=first|omega|assumption|exact bd (by with_unfolding_all rfl)|exact Or.inl rfl|(simp only[VVlen]<;>omega)|fail) only[O1,WA,slotsL,opdsA,Nat.reduceEqDiff,Nat.reduceLT,Nat.reduceAdd,Nat.reduceBEq,Int.reduceAdd,Int.reduceSub,Int.reduceLT,Int.reduceLE,Int.reduceEq,Int.reduceNeg,↓reduceIte,reduceCtorEq,List.replicate]
  exact weak_flat rfl h0 rfl
theorem cutPre_p (l:List UInt8) (c:UInt8) (hl:l.length≤1000000):VSpec (EN w (n+3)) 52 [strV l,strV [c]] (.tup [strV (preC c l).1,.sc (.bool (preC c l).2)]) ⟨[],0,0⟩:=by
 refine vspec_flat rfl rfl (fun _ _=>rfl) (Nat.le_of_ble_eq_true rfl) (oldVals w) rfl fun C hC h0=>?_
 simp (disch:=first|omega|assumption|exact bd (by with_unfolding_all rfl)|exact Or.inl rfl|(simp only[VVlen]<;>omega)|fail) only[O1,WA,slotsL,opdsA,Nat.reduceEqDiff,Nat.reduceLT,Nat.reduceAdd,Nat.reduceBEq,Int.reduceAdd,Int.reduceSub,Int.reduceLT,Int.reduceLE,Int.reduceEq,Int.reduceNeg,↓reduceIte,reduceCtorEq,List.replicate,c52]
 refine callV_flat (by rw[hC];exact (cutPre0_p w n l c hl).flat rfl rfl) ?_
 simp (disch:=first|omega|assumption|exact bd (by with_unfolding_all rfl)|exact Or.inl rfl|(simp only[VVlen]<;>omega)|fail) only[O1,WA,slotsL,opdsA,Nat.reduceEqDiff,Nat.reduceLT,Nat.reduceAdd,Nat.reduceBEq,Int.reduceAdd,Int.reduceSub,Int.reduceLT,Int.reduceLE,Int.reduceEq,Int.reduceNeg,↓reduceIte,reduceCtorEq,List.replicate]
 exact weak_flat rfl h0 rfl
theorem trimPre_p (l:List UInt8) (c:UInt8) (hl:l.length≤1000000):VSpec (EN w (n+3)) 53 [strV l,strV [c]] (strV (preC c l).1) ⟨[],0,0⟩:=by
 have t0:VSpec (EN w (n+2)) 66 [strV l,strV [c]] (strV (preC c l).1) ⟨[],0,0⟩:=by
  refine vspec_flat rfl rfl (fun _ _=>rfl) (Nat.le_of_ble_eq_true rfl) (oldVals w) rfl fun C hC h0=>?_
  have hsz:=mk_size l
  have h1:(ByteArray.mk [c].toArray).size=1:=rfl
  have h3:((1:Nat):Int)=1:=rfl
  have hp:=hasPre_p w n l c hl
  by_cases h:l.head? =some c
  ·have e:preC c l=(l.tail,true):=if_pos h
   rw[e]
   rw[decide_eq_true h] at hp
   have hne:0<l.length:=by cases l with|nil=>cases h|cons=>simp
   have e1:=slcS_lo l .i64 1 (by omega) (by omega)
   rw[show (1:Int).toNat=1 from rfl,List.drop_one] at e1
   simp (disch:=first|omega|assumption|exact bd (by with_unfolding_all rfl)|exact Or.inl rfl|(simp only[VVlen]<;>omega)|fail) only[O1,WA,slotsL,opdsA,Nat.reduceEqDiff,Nat.reduceLT,Nat.reduceAdd,Nat.reduceBEq,Int.reduceAdd,Int.reduceSub,Int.reduceLT,Int.reduceLE,Int.reduceEq,Int.reduceNeg,↓reduceIte,reduceCtorEq,List.replicate,c66]
   refine callV_flat (by rw[hC];exact hp.flat rfl rfl) ?_
   simp (disch:=first|omega|assumption|exact bd (by with_unfolding_all rfl)|exact Or.inl rfl|(simp only[VVlen]<;>omega)|fail) only[O1,WA,slotsL,opdsA,Nat.reduceEqDiff,Nat.reduceLT,Nat.reduceAdd,Nat.reduceBEq,Int.reduceAdd,Int.reduceSub,Int.reduceLT,Int.reduceLE,Int.reduceEq,Int.reduceNeg,↓reduceIte,reduceCtorEq,List.replicate,h1,h3,e1]
   exact weak_flat rfl h0 rfl
  ·have e:preC c l=(l,false):=if_neg h
   rw[e]
   rw[decide_eq_false h] at hp
   simp (disch:=first|omega|assumption|exact bd (by with_unfolding_all rfl)|exact Or.inl rfl|(simp only[VVlen]<;>omega)|fail) only[O1,WA,slotsL,opdsA,Nat.reduceEqDiff,Nat.reduceLT,Nat.reduceAdd,Nat.reduceBEq,Int.reduceAdd,Int.reduceSub,Int.reduceLT,Int.reduceLE,Int.reduceEq,Int.reduceNeg,↓reduceIte,reduceCtorEq,List.replicate,c66]
   refine callV_flat (by rw[hC];exact hp.flat rfl rfl) ?_
   simp (disch:=first|omega|assumption|exact bd (by with_unfolding_all rfl)|exact Or.inl rfl|(simp only[VVlen]<;>omega)|fail) only[O1,WA,slotsL,opdsA,Nat.reduceEqDiff,Nat.reduceLT,Nat.reduceAdd,Nat.reduceBEq,Int.reduceAdd,Int.reduceSub,Int.reduceLT,Int.reduceLE,Int.reduceEq,Int.reduceNeg,↓reduceIte,reduceCtorEq,List.replicate]
   exact weak_flat rfl h0 rfl
 refine vspec_flat rfl rfl (fun _ _=>rfl) (Nat.le_of_ble_eq_true rfl) (oldVals w) rfl fun C hC h0=>?_
 simp (disch:=first|omega|assumption|exact bd (by with_unfolding_all rfl)|exact Or.inl rfl|(simp only[VVlen]<;>omega)|fail) only[O1,WA,slotsL,opdsA,Nat.reduceEqDiff,Nat.reduceLT,Nat.reduceAdd,Nat.reduceBEq,Int.reduceAdd,Int.reduceSub,Int.reduceLT,Int.reduceLE,Int.reduceEq,Int.reduceNeg,↓reduceIte,reduceCtorEq,List.replicate,c53]
 refine callV_flat (by rw[hC];exact t0.flat rfl rfl) ?_
 repeat' (first|(simp (disch:=first|omega|assumption|exact bd (by with_unfolding_all rfl)|exact Or.inl rfl|(simp only[VVlen]<;>omega)|fail) only[O1,WA,slotsL,opdsA,Nat.reduceEqDiff,Nat.reduceLT,Nat.reduceAdd,Nat.reduceBEq,Int.reduceAdd,Int.reduceSub,Int.reduceLT,Int.reduceLE,Int.reduceEq,Int.reduceNeg,↓reduceIte,reduceCtorEq,List.replicate])|apply gC_drawW|((first|apply gI_dec|apply gG_dec|apply gPG_dec|apply gI_var|apply gG_var|apply gPG_var)<;>intro _))
 exact weak_flat rfl h0 rfl
theorem contains_p (l:List UInt8) (c:UInt8) (hl:l.length≤1000000):VSpec (EN w (n+5)) 40 [strV l,strV [c]] (.sc (.bool (decide (0≤idxB c l)))) ⟨[],0,0⟩:=by
 refine vspec_flat rfl rfl (fun _ _=>rfl) (Nat.le_of_ble_eq_true rfl) (oldVals w) rfl fun C hC h0=>?_
 simp (disch:=first|omega|assumption|exact bd (by with_unfolding_all rfl)|exact Or.inl rfl|(simp only[VVlen]<;>omega)|fail) only[O1,WA,slotsL,opdsA,Nat.reduceEqDiff,Nat.reduceLT,Nat.reduceAdd,Nat.reduceBEq,Int.reduceAdd,Int.reduceSub,Int.reduceLT,Int.reduceLE,Int.reduceEq,Int.reduceNeg,↓reduceIte,reduceCtorEq,List.replicate,c40]
 refine callV_flat (by rw[hC];exact (index_p w n l c (by omega)).flat rfl rfl) ?_
 simp (disch:=first|omega|assumption|exact bd (by with_unfolding_all rfl)|exact Or.inl rfl|(simp only[VVlen]<;>omega)|fail) only[O1,WA,slotsL,opdsA,Nat.reduceEqDiff,Nat.reduceLT,Nat.reduceAdd,Nat.reduceBEq,Int.reduceAdd,Int.reduceSub,Int.reduceLT,Int.reduceLE,Int.reduceEq,Int.reduceNeg,↓reduceIte,reduceCtorEq,List.replicate]
 exact weak_flat rfl h0 rfl
theorem bneedle_p (z:Int):VSpec (EN w (n+1)) 43 [.sc (.int .i64 z)] (.sc (.bool (decide (ndOK z)))) ⟨[],0,0⟩:=by
 refine vspec_flat rfl rfl (fun _ _=>rfl) (Nat.le_of_ble_eq_true rfl) (oldVals w) rfl fun C hC h0=>?_
 by_cases h:ndOK z
 ·rw[decide_eq_true h]
  unfold ndOK at h
  simp (disch:=first|omega|assumption|exact bd (by with_unfolding_all rfl)|exact Or.inl rfl|(simp only[VVlen]<;>omega)|fail) only[O1,WA,slotsL,opdsA,Nat.reduceEqDiff,Nat.reduceLT,Nat.reduceAdd,Nat.reduceBEq,Int.reduceAdd,Int.reduceSub,Int.reduceLT,Int.reduceLE,Int.reduceEq,Int.reduceNeg,↓reduceIte,reduceCtorEq,List.replicate,c43]
  all_goals try (exfalso;omega)
  exact weak_flat rfl h0 rfl
 ·rw[decide_eq_false h]
  unfold ndOK at h
  repeat' (first|(simp (disch:=first|omega|assumption|exact bd (by with_unfolding_all rfl)|exact Or.inl rfl|(simp only[VVlen]<;>omega)|fail) only[O1,WA,slotsL,opdsA,Nat.reduceEqDiff,Nat.reduceLT,Nat.reduceAdd,Nat.reduceBEq,Int.reduceAdd,Int.reduceSub,Int.reduceLT,Int.reduceLE,Int.reduceEq,Int.reduceNeg,↓reduceIte,reduceCtorEq,List.replicate,c43])|apply gC_drawW|((first|apply gI_dec|apply gG_dec|apply gPG_dec|apply gI_var|apply gG_var|apply gPG_var)<;>intro _))
  all_goals try (exfalso;omega)
  all_goals exact weak_flat rfl h0 rfl
theorem rat_p (z:Int):VSpec (EN w (n+1)) 48 [.sc (.int .i64 z)] (.sc (.bool (decide (ndOK z)))) ⟨[],0,0⟩:=by
 refine vspec_flat rfl rfl (fun _ _=>rfl) (Nat.le_of_ble_eq_true rfl) (oldVals w) rfl fun C hC h0=>?_
 by_cases h:ndOK z
 ·rw[decide_eq_true h]
  unfold ndOK at h
  simp (disch:=first|omega|assumption|exact bd (by with_unfolding_all rfl)|exact Or.inl rfl|(simp only[VVlen]<;>omega)|fail) only[O1,WA,slotsL,opdsA,Nat.reduceEqDiff,Nat.reduceLT,Nat.reduceAdd,Nat.reduceBEq,Int.reduceAdd,Int.reduceSub,Int.reduceLT,Int.reduceLE,Int.reduceEq,Int.reduceNeg,↓reduceIte,reduceCtorEq,List.replicate,c48]
  all_goals try (exfalso;omega)
  exact weak_flat rfl h0 rfl
 ·rw[decide_eq_false h]
  unfold ndOK at h
  repeat' (first|(simp (disch:=first|omega|assumption|exact bd (by with_unfolding_all rfl)|exact Or.inl rfl|(simp only[VVlen]<;>omega)|fail) only[O1,WA,slotsL,opdsA,Nat.reduceEqDiff,Nat.reduceLT,Nat.reduceAdd,Nat.reduceBEq,Int.reduceAdd,Int.reduceSub,Int.reduceLT,Int.reduceLE,Int.reduceEq,Int.reduceNeg,↓reduceIte,reduceCtorEq,List.replicate,c48])|apply gC_drawW|((first|apply gI_dec|apply gG_dec|apply gPG_dec|apply gI_var|apply gG_var|apply gPG_var)<;>intro _))
  all_goals try (exfalso;omega)
  all_goals exact weak_flat rfl h0 rfl
theorem rfeed_p (z:Int):VSpec (EN w (n+1)) 47 [.sc (.int .i64 z)] (.sc (.bool (decide (1≤z∧z≤6)))) ⟨[],0,0⟩:=by
 refine vspec_flat rfl rfl (fun _ _=>rfl) (Nat.le_of_ble_eq_true rfl) (oldVals w) rfl fun C hC h0=>?_
 by_cases h:1≤z∧z≤6
 ·rw[decide_eq_true h]
  simp (disch:=first|omega|assumption|exact bd (by with_unfolding_all rfl)|exact Or.inl rfl|(simp only[VVlen]<;>omega)|fail) only[O1,WA,slotsL,opdsA,Nat.reduceEqDiff,Nat.reduceLT,Nat.reduceAdd,Nat.reduceBEq,Int.reduceAdd,Int.reduceSub,Int.reduceLT,Int.reduceLE,Int.reduceEq,Int.reduceNeg,↓reduceIte,reduceCtorEq,List.replicate,c47]
  all_goals try (exfalso;omega)
  exact weak_flat rfl h0 rfl
 ·rw[decide_eq_false h]
  repeat' (first|(simp (disch:=first|omega|assumption|exact bd (by with_unfolding_all rfl)|exact Or.inl rfl|(simp only[VVlen]<;>omega)|fail) only[O1,WA,slotsL,opdsA,Nat.reduceEqDiff,Nat.reduceLT,Nat.reduceAdd,Nat.reduceBEq,Int.reduceAdd,Int.reduceSub,Int.reduceLT,Int.reduceLE,Int.reduceEq,Int.reduceNeg,↓reduceIte,reduceCtorEq,List.replicate,c47])|apply gC_drawW|((first|apply gI_dec|apply gG_dec|apply gPG_dec|apply gI_var|apply gG_var|apply gPG_var)<;>intro _))
  all_goals try (exfalso;omega)
  all_goals exact weak_flat rfl h0 rfl
end
end Go.Proofs.YtbefpfbidgfipaaDoor
namespace Go.Itp
def AC.l:AC→AC
 | .seq a _=>a
 |x=>x
def AC.r:AC→AC
 | .seq _ b=>b
 |x=>x
end Go.Itp
namespace Go.Proofs.YtbefpfbidgfipaaDoor
open Go Go.Itp
set_option maxRecDepth 100000
set_option maxHeartbeats 2000000
set_option linter.unusedSimpArgs false
set_option linter.unusedVariables false
abbrev insL (o:Nat) (r:Bool) (b:Nat) (p t c k:Int):List V:= [.sc (.int .u8 o),.sc (.bool r),.sc (.int .u8 b),.sc (.int .i64 p),.sc (.int .i64 t),.sc (.int .i64 c),.sc (.int .i64 k)]
abbrev insB (o:Nat) (r:Bool) (b:Nat) (p t c k:Int):Itp.Obj:= .box 23 1 (insL o r b p t c k)
section
variable (w:World) (n:Nat)
theorem binstr_tail {C:Ctx} (hC:C.E=EN w (n+1)) (h0:C.w0.nx=0) (o:Nat) (r:Bool) (b:Nat) (p t c k:Int) (o':Nat) (r':Bool) (b':Nat) (p' t' c' k':Int) (ok:Bool) (E:Bool) (R:Int)
  (hE:(decide ((o':Int)=0) && (r'==false && (decide ((b':Int)=0) && (decide (p'=0) && (decide (t'=0) && (decide (c'=0) && decide (k'=0)))))))=E)
  (h:R=if ok=true∧E=true∧b≤1∧ndOK p∧ndOK t then 0 else 8) {T:AC} (hT:T=AC.r (AC.r (AC.r (AC.r (AC.r (AC.r c22.code)))))):
  gC C T [] [(1,.ptr 0 0),(4,.ptr 1 0),(5,.sc (.bool ok))] ⟨[(1,insB o' r' b' p' t' c' k'),(0,insB o r b p t c k)],2,0⟩ (RetV C c22.res (.sc (.int .i64 R)) ⟨[],0,0⟩):=by
 have hp:=(bneedle_p w n p).of hC rfl
 have ht:=(bneedle_p w n t).of hC rfl
 simp only[c22,AC.r] at hT
 subst hT
 cases ok
 ·rw[if_neg (by simp)] at h
  subst h
  simp (disch:=first|omega|assumption|exact bd (by with_unfolding_all rfl)|exact Or.inl rfl|(simp only[VVlen]<;>omega)|fail) only[O1,WA,slotsL,opdsA,Nat.reduceEqDiff,Nat.reduceLT,Nat.reduceAdd,Nat.reduceBEq,Int.reduceAdd,Int.reduceSub,Int.reduceLT,Int.reduceLE,Int.reduceEq,Int.reduceNeg,↓reduceIte,reduceCtorEq,List.replicate,c22]
  exact weak_flat rfl h0 rfl
 cases E
 ·rw[if_neg (by simp)] at h
  subst h
  simp (disch:=first|omega|assumption|exact bd (by with_unfolding_all rfl)|exact Or.inl rfl|(simp only[VVlen]<;>omega)|fail) only[O1,WA,slotsL,opdsA,Nat.reduceEqDiff,Nat.reduceLT,Nat.reduceAdd,Nat.reduceBEq,Int.reduceAdd,Int.reduceSub,Int.reduceLT,Int.reduceLE,Int.reduceEq,Int.reduceNeg,↓reduceIte,reduceCtorEq,List.replicate,c22,hE]
  exact weak_flat rfl h0 rfl
 by_cases hb:b≤1
 case neg=>
  rw[if_neg (fun hh=>hb hh.2.2.1)] at h
  subst h
  simp (disch:=first|omega|assumption|exact bd (by with_unfolding_all rfl)|exact Or.inl rfl|(simp only[VVlen]<;>omega)|fail) only[O1,WA,slotsL,opdsA,Nat.reduceEqDiff,Nat.reduceLT,Nat.reduceAdd,Nat.reduceBEq,Int.reduceAdd,Int.reduceSub,Int.reduceLT,Int.reduceLE,Int.reduceEq,Int.reduceNeg,↓reduceIte,reduceCtorEq,List.replicate,c22,hE]
  all_goals try (exfalso;omega)
  exact weak_flat rfl h0 rfl
 by_cases h1:ndOK p
 case neg=>
  rw[if_neg (fun hh=>h1 hh.2.2.2.1)] at h
  subst h
  rw[decide_eq_false h1] at hp
  simp (disch:=first|omega|assumption|exact bd (by with_unfolding_all rfl)|exact Or.inl rfl|(simp only[VVlen]<;>omega)|fail) only[O1,WA,slotsL,opdsA,Nat.reduceEqDiff,Nat.reduceLT,Nat.reduceAdd,Nat.reduceBEq,Int.reduceAdd,Int.reduceSub,Int.reduceLT,Int.reduceLE,Int.reduceEq,Int.reduceNeg,↓reduceIte,reduceCtorEq,List.replicate,c22,hE]
  all_goals try (exfalso;omega)
  refine callV_flat (hp _ rfl) ?_
  simp (disch:=first|omega|assumption|exact bd (by with_unfolding_all rfl)|exact Or.inl rfl|(simp only[VVlen]<;>omega)|fail) only[O1,WA,slotsL,opdsA,Nat.reduceEqDiff,Nat.reduceLT,Nat.reduceAdd,Nat.reduceBEq,Int.reduceAdd,Int.reduceSub,Int.reduceLT,Int.reduceLE,Int.reduceEq,Int.reduceNeg,↓reduceIte,reduceCtorEq,List.replicate]
  exact weak_flat rfl h0 rfl
 rw[decide_eq_true h1] at hp
 simp (disch:=first|omega|assumption|exact bd (by with_unfolding_all rfl)|exact Or.inl rfl|(simp only[VVlen]<;>omega)|fail) only[O1,WA,slotsL,opdsA,Nat.reduceEqDiff,Nat.reduceLT,Nat.reduceAdd,Nat.reduceBEq,Int.reduceAdd,Int.reduceSub,Int.reduceLT,Int.reduceLE,Int.reduceEq,Int.reduceNeg,↓reduceIte,reduceCtorEq,List.replicate,c22,hE]
 all_goals try (exfalso;omega)
 refine callV_flat (hp _ rfl) ?_
 simp (disch:=first|omega|assumption|exact bd (by with_unfolding_all rfl)|exact Or.inl rfl|(simp only[VVlen]<;>omega)|fail) only[O1,WA,slotsL,opdsA,Nat.reduceEqDiff,Nat.reduceLT,Nat.reduceAdd,Nat.reduceBEq,Int.reduceAdd,Int.reduceSub,Int.reduceLT,Int.reduceLE,Int.reduceEq,Int.reduceNeg,↓reduceIte,reduceCtorEq,List.replicate]
 refine callV_flat (ht _ rfl) ?_
 by_cases h2:ndOK t
 ·rw[if_pos ⟨rfl,rfl,hb,h1,h2⟩] at h
  subst h
  rw[decide_eq_true h2]
  simp (disch:=first|omega|assumption|exact bd (by with_unfolding_all rfl)|exact Or.inl rfl|(simp only[VVlen]<;>omega)|fail) only[O1,WA,slotsL,opdsA,Nat.reduceEqDiff,Nat.reduceLT,Nat.reduceAdd,Nat.reduceBEq,Int.reduceAdd,Int.reduceSub,Int.reduceLT,Int.reduceLE,Int.reduceEq,Int.reduceNeg,↓reduceIte,reduceCtorEq,List.replicate]
  exact weak_flat rfl h0 rfl
 ·rw[if_neg (fun hh=>h2 hh.2.2.2.2)] at h
  subst h
  rw[decide_eq_false h2]
  simp (disch:=first|omega|assumption|exact bd (by with_unfolding_all rfl)|exact Or.inl rfl|(simp only[VVlen]<;>omega)|fail) only[O1,WA,slotsL,opdsA,Nat.reduceEqDiff,Nat.reduceLT,Nat.reduceAdd,Nat.reduceBEq,Int.reduceAdd,Int.reduceSub,Int.reduceLT,Int.reduceLE,Int.reduceEq,Int.reduceNeg,↓reduceIte,reduceCtorEq,List.replicate]
  exact weak_flat rfl h0 rfl
theorem binstr_p (i:Ins):VSpec (EN w (n+2)) 22 [insV i] (.sc (.int .i64 (if insOK i=true then 0 else 8))) ⟨[],0,0⟩:=by
 refine vspec_flat rfl rfl (fun _ _=>rfl) (Nat.le_of_ble_eq_true rfl) (oldVals w) rfl fun C hC h0=>?_
 obtain ⟨T,hT⟩:∃ T,T=AC.r (AC.r (AC.r (AC.r (AC.r (AC.r c22.code))))):=⟨_,rfl⟩
 have hc:c22.code= .seq (AC.l c22.code) (.seq (AC.l (AC.r c22.code)) (.seq (AC.l (AC.r (AC.r c22.code))) (.seq (AC.l (AC.r (AC.r (AC.r c22.code)))) (.seq (AC.l (AC.r (AC.r (AC.r (AC.r c22.code))))) (.seq (AC.l (AC.r (AC.r (AC.r (AC.r (AC.r c22.code)))))) T))))):=by rw[hT];rfl
 rw[hc]
 obtain ⟨op,right,bed,pos,to,car,rack⟩:=i
 have key:∀ x:Prop,[Decidable x]→(InsP ⟨op,right,bed,pos,to,car,rack⟩↔x)→(if insOK ⟨op,right,bed,pos,to,car,rack⟩=true then (0:Int) else 8)=if x then 0 else 8:=fun x _ h=>by
  by_cases hx:x
  ·rw[if_pos hx,if_pos (insOK_iff.2 (h.2 hx))]
  ·rw[if_neg hx,if_neg (fun hh=>hx (h.1 (insOK_iff.1 hh)))]
 have tl:=fun (o':Nat) (r':Bool) (b':Nat) (p' t' c' k':Int) (ok E:Bool) (hE) (h)=>binstr_tail w n hC h0 op right bed pos to car rack o' r' b' p' t' c' k' ok E _ hE (key _ h) hT
 unfold InsP at tl
 by_cases h1:op=1∨op=2
 ·rcases h1 with rfl|rfl
  all_goals
   repeat' (first|(simp (disch:=first|omega|assumption|exact bd (by with_unfolding_all rfl)|exact Or.inl rfl|(simp only[VVlen]<;>omega)|fail) only[O1,WA,slotsL,opdsA,Nat.reduceEqDiff,Nat.reduceLT,Nat.reduceAdd,Nat.reduceBEq,Int.reduceAdd,Int.reduceSub,Int.reduceLT,Int.reduceLE,Int.reduceEq,Int.reduceNeg,↓reduceIte,reduceCtorEq,List.replicate,c22,insV,AC.l,AC.r])|apply gC_drawW|((first|apply gI_dec|apply gG_dec|apply gPG_dec|apply gI_var|apply gG_var|apply gPG_var)<;>intro _))
   all_goals try (exfalso;omega)
   all_goals refine tl 0 right bed pos to 0 rack _ _ rfl ?_
   all_goals
    cases right<;>simp only[ndOK,Bool.and_eq_true,decide_eq_true_eq,beq_iff_eq,true_and,and_true,reduceCtorEq,false_and,and_false,or_false,false_or,Nat.reduceEqDiff,true_or,or_true,iff_false,true_iff,false_iff]<;>omega
 by_cases h2:op=3∨op=4∨op=5
 ·rcases h2 with rfl|rfl|rfl
  all_goals
   repeat' (first|(simp (disch:=first|omega|assumption|exact bd (by with_unfolding_all rfl)|exact Or.inl rfl|(simp only[VVlen]<;>omega)|fail) only[O1,WA,slotsL,opdsA,Nat.reduceEqDiff,Nat.reduceLT,Nat.reduceAdd,Nat.reduceBEq,Int.reduceAdd,Int.reduceSub,Int.reduceLT,Int.reduceLE,Int.reduceEq,Int.reduceNeg,↓reduceIte,reduceCtorEq,List.replicate,c22,insV,AC.l,AC.r])|apply gC_drawW|((first|apply gI_dec|apply gG_dec|apply gPG_dec|apply gI_var|apply gG_var|apply gPG_var)<;>intro _))
   all_goals try (exfalso;omega)
   all_goals refine tl 0 false 0 0 to 0 rack _ _ rfl ?_
   all_goals
    cases right<;>simp only[ndOK,Bool.and_eq_true,decide_eq_true_eq,beq_iff_eq,true_and,and_true,reduceCtorEq,false_and,and_false,or_false,false_or,Nat.reduceEqDiff,true_or,or_true,iff_false,true_iff,false_iff]<;>omega
 by_cases h3:op=6
 ·subst h3
  all_goals
   repeat' (first|(simp (disch:=first|omega|assumption|exact bd (by with_unfolding_all rfl)|exact Or.inl rfl|(simp only[VVlen]<;>omega)|fail) only[O1,WA,slotsL,opdsA,Nat.reduceEqDiff,Nat.reduceLT,Nat.reduceAdd,Nat.reduceBEq,Int.reduceAdd,Int.reduceSub,Int.reduceLT,Int.reduceLE,Int.reduceEq,Int.reduceNeg,↓reduceIte,reduceCtorEq,List.replicate,c22,insV,AC.l,AC.r])|apply gC_drawW|((first|apply gI_dec|apply gG_dec|apply gPG_dec|apply gI_var|apply gG_var|apply gPG_var)<;>intro _))
   all_goals try (exfalso;omega)
   all_goals refine tl 0 false 0 0 0 0 rack _ _ rfl ?_
   all_goals
    cases right<;>simp only[ndOK,Bool.and_eq_true,decide_eq_true_eq,beq_iff_eq,true_and,and_true,reduceCtorEq,false_and,and_false,or_false,false_or,Nat.reduceEqDiff,true_or,or_true,iff_false,true_iff,false_iff]<;>omega
 by_cases h4:op=7
 ·subst h4
  all_goals
   repeat' (first|(simp (disch:=first|omega|assumption|exact bd (by with_unfolding_all rfl)|exact Or.inl rfl|(simp only[VVlen]<;>omega)|fail) only[O1,WA,slotsL,opdsA,Nat.reduceEqDiff,Nat.reduceLT,Nat.reduceAdd,Nat.reduceBEq,Int.reduceAdd,Int.reduceSub,Int.reduceLT,Int.reduceLE,Int.reduceEq,Int.reduceNeg,↓reduceIte,reduceCtorEq,List.replicate,c22,insV,AC.l,AC.r])|apply gC_drawW|((first|apply gI_dec|apply gG_dec|apply gPG_dec|apply gI_var|apply gG_var|apply gPG_var)<;>intro _))
   all_goals try (exfalso;omega)
   all_goals refine tl 0 right 0 0 0 car rack _ _ rfl ?_
   all_goals
    cases right<;>simp only[ndOK,Bool.and_eq_true,decide_eq_true_eq,beq_iff_eq,true_and,and_true,reduceCtorEq,false_and,and_false,or_false,false_or,Nat.reduceEqDiff,true_or,or_true,iff_false,true_iff,false_iff]<;>omega
 by_cases h5:op=8
 ·subst h5
  have hw:IntKind.i64.wrap (0 - rack)= -rack∨8<rack∨rack< -8:=by
   by_cases h: -8≤rack∧rack≤8
   ·left;rw[wrap64 _ (by omega) (by omega)];omega
   ·omega
  repeat' (first|(simp (disch:=first|omega|assumption|exact bd (by with_unfolding_all rfl)|exact Or.inl rfl|(simp only[VVlen]<;>omega)|fail) only[O1,WA,slotsL,opdsA,Nat.reduceEqDiff,Nat.reduceLT,Nat.reduceAdd,Nat.reduceBEq,Int.reduceAdd,Int.reduceSub,Int.reduceLT,Int.reduceLE,Int.reduceEq,Int.reduceNeg,↓reduceIte,reduceCtorEq,List.replicate,c22,insV,AC.l,AC.r])|apply gC_drawW|((first|apply gI_dec|apply gG_dec|apply gPG_dec|apply gI_var|apply gG_var|apply gPG_var)<;>intro _))
  all_goals refine tl 0 right bed pos to car 0 _ _ rfl ?_
  all_goals generalize IntKind.i64.wrap (0 - rack)=NR at*
  all_goals
   cases right<;>simp only[ndOK,Bool.and_eq_true,decide_eq_true_eq,beq_iff_eq,true_and,and_true,reduceCtorEq,false_and,and_false,or_false,false_or,Nat.reduceEqDiff,true_or,or_true,iff_false,true_iff,false_iff]<;>omega
 by_cases h6:op=9
 ·subst h6
  all_goals
   repeat' (first|(simp (disch:=first|omega|assumption|exact bd (by with_unfolding_all rfl)|exact Or.inl rfl|(simp only[VVlen]<;>omega)|fail) only[O1,WA,slotsL,opdsA,Nat.reduceEqDiff,Nat.reduceLT,Nat.reduceAdd,Nat.reduceBEq,Int.reduceAdd,Int.reduceSub,Int.reduceLT,Int.reduceLE,Int.reduceEq,Int.reduceNeg,↓reduceIte,reduceCtorEq,List.replicate,c22,insV,AC.l,AC.r])|apply gC_drawW|((first|apply gI_dec|apply gG_dec|apply gPG_dec|apply gI_var|apply gG_var|apply gPG_var)<;>intro _))
   all_goals try (exfalso;omega)
   all_goals refine tl 0 right 0 0 to car rack _ _ rfl ?_
   all_goals
    cases right<;>simp only[ndOK,Bool.and_eq_true,decide_eq_true_eq,beq_iff_eq,true_and,and_true,reduceCtorEq,false_and,and_false,or_false,false_or,Nat.reduceEqDiff,true_or,or_true,iff_false,true_iff,false_iff]<;>omega
 repeat' (first|(simp (disch:=first|omega|assumption|exact bd (by with_unfolding_all rfl)|exact Or.inl rfl|(simp only[VVlen]<;>omega)|fail) only[O1,WA,slotsL,opdsA,Nat.reduceEqDiff,Nat.reduceLT,Nat.reduceAdd,Nat.reduceBEq,Int.reduceAdd,Int.reduceSub,Int.reduceLT,Int.reduceLE,Int.reduceEq,Int.reduceNeg,↓reduceIte,reduceCtorEq,List.replicate,c22,insV,AC.l,AC.r])|apply gC_drawW|((first|apply gI_dec|apply gG_dec|apply gPG_dec|apply gI_var|apply gG_var|apply gPG_var)<;>intro _))
 all_goals try (exfalso;omega)
 all_goals refine tl 0 right bed pos to car rack _ _ rfl ?_
 all_goals
  cases right<;>simp only[ndOK,Bool.and_eq_true,decide_eq_true_eq,beq_iff_eq,true_and,and_true,reduceCtorEq,false_and,and_false,or_false,false_or,Nat.reduceEqDiff,true_or,or_true,iff_false,true_iff,false_iff]<;>omega
end
end Go.Proofs.YtbefpfbidgfipaaDoor
namespace Go.Proofs.YtbefpfbidgfipaaDoor
open Go Go.Itp
set_option maxRecDepth 100000
set_option maxHeartbeats 2000000
set_option linter.unusedSimpArgs false
set_option linter.unusedVariables false
def wordsD:List D:=(List.range 10).flatMap fun k=> [sD (nameI k),sD (partsI k)]
section
variable (w:World) (n:Nat)
theorem wordsD_sc:∀ d ∈ wordsD,∃ x,d= .sc x:=fun d hd=>by
 obtain ⟨k,_,hk⟩:=List.mem_flatMap.1 hd
 simp only[List.mem_cons,List.not_mem_nil,or_false] at hk
 rcases hk with rfl|rfl<;>exact ⟨_,rfl⟩
theorem codewords_1 (H:VHp) (nx:Nat):VSpec1 (EN w (n+1)) 28 ⟨H,nx,nx⟩ [] (.ref nx 0 10 10) (.row 59 2 false false wordsD):=by
 refine vspec1_r rfl rfl (fun _ _=>rfl) (Nat.le_of_ble_eq_true rfl) wordsD_sc fun C hC h0=>⟨⟨(nx,.row 59 2 false false wordsD)::H,nx+1,nx⟩,nx,?_,Nat.le_refl _,?_⟩
 ·simp[aget]
 ·simp (disch:=first|omega|assumption|exact bd (by with_unfolding_all rfl)|exact Or.inl rfl|(simp only[VVlen]<;>omega)|fail) only[O1,WA,slotsL,opdsA,Nat.reduceEqDiff,Nat.reduceLT,Nat.reduceAdd,Nat.reduceBEq,Int.reduceAdd,Int.reduceSub,Int.reduceLT,Int.reduceLE,Int.reduceEq,Int.reduceNeg,↓reduceIte,reduceCtorEq,List.replicate,c28]
  change gV C (some (.ref nx 0 10 10,some (.row 59 2 false false wordsD),[])) _ _ _ _ _ _ _ _
  simp (disch:=first|omega|assumption|exact bd (by with_unfolding_all rfl)|exact Or.inl rfl|(simp only[VVlen]<;>omega)|fail) only[O1,WA,slotsL,opdsA,Nat.reduceEqDiff,Nat.reduceLT,Nat.reduceAdd,Nat.reduceBEq,Int.reduceAdd,Int.reduceSub,Int.reduceLT,Int.reduceLE,Int.reduceEq,Int.reduceNeg,↓reduceIte,reduceCtorEq,List.replicate]
  rw[frozA_none]
  exact .refl _ _
theorem codewords_p:VSpec (EN w (n+1)) 28 [] (.ref 0 0 10 10) ⟨[(0,.row 59 2 false false wordsD)],1,0⟩:=by
 refine vspec_g rfl rfl (fun _ _=>rfl) (Nat.le_of_ble_eq_true rfl) (oldVals w) retOK_ref rfl fun C hC h0=>?_
 simp (disch:=first|omega|assumption|exact bd (by with_unfolding_all rfl)|exact Or.inl rfl|(simp only[VVlen]<;>omega)|fail) only[O1,WA,slotsL,opdsA,Nat.reduceEqDiff,Nat.reduceLT,Nat.reduceAdd,Nat.reduceBEq,Int.reduceAdd,Int.reduceSub,Int.reduceLT,Int.reduceLE,Int.reduceEq,Int.reduceNeg,↓reduceIte,reduceCtorEq,List.replicate,c28]
 change gV C (some (.ref 0 0 10 10,some (.row 59 2 false false wordsD),[])) _ _ _ _ _ _ _ _
 simp (disch:=first|omega|assumption|exact bd (by with_unfolding_all rfl)|exact Or.inl rfl|(simp only[VVlen]<;>omega)|fail) only[O1,WA,slotsL,opdsA,Nat.reduceEqDiff,Nat.reduceLT,Nat.reduceAdd,Nat.reduceBEq,Int.reduceAdd,Int.reduceSub,Int.reduceLT,Int.reduceLE,Int.reduceEq,Int.reduceNeg,↓reduceIte,reduceCtorEq,List.replicate]
 exact .refl _ _
theorem cneedle_p (b:Nat) (hb:b≤1) (z:Int) (h0: -1000000≤z) (h1:z≤1000000):VSpec (EN w (n+2)) 44 [.sc (.int .u8 b),.sc (.int .i64 z)] (strV (ndl b z)) ⟨[],0,0⟩:=by
 refine vspec_flat rfl rfl (fun _ _=>rfl) (Nat.le_of_ble_eq_true rfl) (oldVals w) rfl fun C hC hz=>?_
 have hi:∀ st,VSpecO C.E 45 st [.sc (.int .i64 z)] (strV (Lib.itoa z)):=fun st=>by rw[hC];exact itoa_s w n st z (by omega) (by omega)
 have hs:slcSV (some (.int .u8 b)) (some (.int .u8 (IntKind.u8.wrap ((b:Int)+1)))) (.sc (.string ⟨#[102,98]⟩))=some (strV [if b=1 then 98 else 102]):=by
  rcases (by omega:b=0∨b=1) with rfl|rfl<;>rfl
 simp (disch:=first|omega|assumption|exact bd (by with_unfolding_all rfl)|exact Or.inl rfl|(simp only[VVlen]<;>omega)|fail) only[O1,WA,slotsL,opdsA,Nat.reduceEqDiff,Nat.reduceLT,Nat.reduceAdd,Nat.reduceBEq,Int.reduceAdd,Int.reduceSub,Int.reduceLT,Int.reduceLE,Int.reduceEq,Int.reduceNeg,↓reduceIte,reduceCtorEq,List.replicate,c44,hs]
 have hil:=itoa_len (z:=z) (by omega) (by omega)
 have hc:=cat_l [if b=1 then 98 else 102] (Lib.itoa z) (by simp;omega)
 refine call0_of (hi _) ?_
 simp (disch:=first|omega|assumption|exact bd (by with_unfolding_all rfl)|exact Or.inl rfl|(simp only[VVlen]<;>omega)|fail) only[O1,WA,slotsL,opdsA,Nat.reduceEqDiff,Nat.reduceLT,Nat.reduceAdd,Nat.reduceBEq,Int.reduceAdd,Int.reduceSub,Int.reduceLT,Int.reduceLE,Int.reduceEq,Int.reduceNeg,↓reduceIte,reduceCtorEq,List.replicate,hc]
 exact weak_flat rfl hz rfl
def wordAt (op:Nat):V:= .agg [strV (nameI op),strV (partsI op)]
theorem wordsD_at {op:Nat} (h:op<10):dload wordsD (op*2) (some 2)=some (wordAt op):=by
 rcases (by omega:op=0∨op=1∨op=2∨op=3∨op=4∨op=5∨op=6∨op=7∨op=8∨op=9) with rfl|rfl|rfl|rfl|rfl|rfl|rfl|rfl|rfl|rfl<;>rfl
attribute [local irreducible] wordsD
abbrev insB' (i:Ins):Itp.Obj:= .box 23 1 [.sc (.int .u8 i.op),.sc (.bool i.right),.sc (.int .u8 i.bed),.sc (.int .i64 i.pos),.sc (.int .i64 i.to),.sc (.int .i64 i.car),.sc (.int .i64 i.rack)]
abbrev outL (i:Ins) (p:List UInt8):List (List UInt8):=nameI i.op::p.map (partT i)
abbrev lineH (i:Ins) (k:Nat) (ob:Itp.Obj):VHp:= [(4,itO ⟨(partsI i.op).toArray⟩ k),(3,ob),(0,insB' i)]
def lineS (i:Ins) (p:List UInt8) (fr:VFr) (st:VSt):Prop:=
 (p= []∧fr= [(1,.ptr 0 0),(4,.ref 3 0 1 1),(17,.ptr 4 0)]∧st=⟨lineH i 0 (.row 9 1 false false [sD (nameI i.op)]),5,0⟩)∨
 (0<p.length∧fr= [(1,.ptr 0 0),(4,.gr 2 3 (p.length+1)),(17,.ptr 4 0)]∧st=⟨lineH i p.length (.gro 9 1 false ((outL i p).map sD)),5,0⟩)
theorem line_p (i:Ins) (hv:InsP i):VSpec (EN w (n+3)) 23 [insV i] (strV (textI i)) ⟨[],0,0⟩:=by
 refine vspec_flat rfl rfl (fun _ _=>rfl) (Nat.le_of_ble_eq_true rfl) (oldVals w) rfl fun C hC h0=>?_
 have hop:=hv.op_lt
 have hbd:=hv.bounds
 have hwo:=wordsD_at hop.2
 have hpl:=partsI_len hop.2
 have hrn:C.E.rounds=many:=by rw[hC,callP_rounds]
 have hrs:=fun nx=>rangeSV_str nx ⟨(partsI i.op).toArray⟩ (by rw[mk_size];omega)
 simp (disch:=first|omega|assumption|exact bd (by with_unfolding_all rfl)|exact Or.inl rfl|(simp only[VVlen]<;>omega)|fail) only[O1,WA,slotsL,opdsA,Nat.reduceEqDiff,Nat.reduceLT,Nat.reduceAdd,Nat.reduceBEq,Int.reduceAdd,Int.reduceSub,Int.reduceLT,Int.reduceLE,Int.reduceEq,Int.reduceNeg,↓reduceIte,reduceCtorEq,List.replicate,c23,insV]
 refine call1_of (by rw[hC];exact codewords_1 w (n+1) _ _) ?_
 simp (disch:=first|omega|assumption|exact bd (by with_unfolding_all rfl)|exact Or.inl rfl|(simp only[VVlen]<;>omega)|fail) only[O1,WA,slotsL,opdsA,Nat.reduceEqDiff,Nat.reduceLT,Nat.reduceAdd,Nat.reduceBEq,Int.reduceAdd,Int.reduceSub,Int.reduceLT,Int.reduceLE,Int.reduceEq,Int.reduceNeg,↓reduceIte,reduceCtorEq,List.replicate,hwo,wordAt,pv_rangeS,hrs]
 refine g_while (fun m fr st=>∃ p r:List UInt8,m=r.length∧partsI i.op=p++r∧lineS i p fr st) (partsI i.op).length ?_ ⟨_,_,?_,[],_,rfl,rfl,.inl ⟨rfl,rfl,rfl⟩⟩ ?_
 ·rw[hrn];unfold many;omega
 ·exact weak_to [(4,4),(3,3),(0,0)] 5 h0 rfl rfl rfl rfl
 rintro m fr st ⟨p,r,rfl,hs,hst⟩
 have hsl:(partsI i.op).length=p.length+r.length:=by rw[hs];simp
 have hne:=parts_ne i.op hop.2 hop.1
 cases r with
 |nil=>
  rw[List.append_nil] at hs
  rcases hst with ⟨rfl,rfl,rfl⟩|⟨hp0,rfl,rfl⟩
  ·exact absurd hs hne
  have hnx:=fun ob=>next_end (partsI i.op) (by omega) (lineH i p.length ob) 5 4 (by show some (itO ⟨(partsI i.op).toArray⟩ p.length)=_;rw[hs])
  have hol:((outL i p).map sD).length=p.length+1:=by simp
  have htx:join 32 (outL i p)=textI i:=by unfold textI;rw[hs]
  have hjl:=textI_len hv
  have hjs:∀ st:VSt,aget st.own 3=some (.gro 9 1 false ((outL i p).map sD))→VSpecO C.E 46 st [.gr 2 3 (p.length+1),strV [32]] (strV (textI i)):=fun st h=>by
   have h1:snapL st.own [.gr 2 3 (p.length+1),strV [32]]=some [strs 2 (outL i p),strV [32]]:=by
    have e3:snapV st.own (.gr 2 3 (p.length+1))=some (strs 2 (outL i p)):=by
     have:=snap_grD (n:=p.length+1) h hol
     rw[this]
     simp
    show (snapV st.own (.gr 2 3 (p.length+1))).bind _=_
    rw[e3]
    rfl
   have hj:=(VSpec.ofO (join_s w (n+1) ⟨[],0,0⟩ 2 (by decide) (outL i p) [32] (by simp;omega) (by rw[join_one,htx];omega)))
   rw[join_one,htx] at hj
   rw[hC]
   exact hj.flat rfl h1
  simp (disch:=first|omega|assumption|exact bd (by with_unfolding_all rfl)|exact Or.inl rfl|(simp only[VVlen]<;>omega)|fail) only[O1,WA,slotsL,opdsA,Nat.reduceEqDiff,Nat.reduceLT,Nat.reduceAdd,Nat.reduceBEq,Int.reduceAdd,Int.reduceSub,Int.reduceLT,Int.reduceLE,Int.reduceEq,Int.reduceNeg,↓reduceIte,reduceCtorEq,List.replicate,c23l0,pv_nextS,wv_nextS,hnx]
  refine callV_flat (hjs _ rfl) ?_
  repeat' (first|(simp (disch:=first|omega|assumption|exact bd (by with_unfolding_all rfl)|exact Or.inl rfl|(simp only[VVlen]<;>omega)|fail) only[O1,WA,slotsL,opdsA,Nat.reduceEqDiff,Nat.reduceLT,Nat.reduceAdd,Nat.reduceBEq,Int.reduceAdd,Int.reduceSub,Int.reduceLT,Int.reduceLE,Int.reduceEq,Int.reduceNeg,↓reduceIte,reduceCtorEq,List.replicate])|apply gC_drawW|((first|apply gI_dec|apply gG_dec|apply gPG_dec|apply gI_var|apply gG_var|apply gPG_var)<;>intro _))
  exact weak_flat rfl h0 rfl
 |cons b r3=>
  have hmem:b ∈ partsI i.op:=by rw[hs];simp
  have hb:=partsI_mem hop.2 b hmem
  have hb128:b.toNat<128:=by rcases hb with rfl|rfl|rfl|rfl|rfl<;>decide
  have hnx:=fun ob=>next_small (partsI i.op) p r3 b hs hb128 (by omega) (lineH i p.length ob) 5 4 rfl
  have hdone:∀ (x:List UInt8) (fr:VFr) (st:VSt),x=partT i b→Weak C fr st [(1,.ptr 0 0),(4,.gr 2 3 (p.length+2)),(17,.ptr 4 0)] ⟨lineH i (p.length+1) (.gro 9 1 false ((outL i p).map sD++ [sD x])),5,0⟩→
    ∃ m' fr' st',m'<(b::r3).length∧Weak C fr st fr' st'∧∃ p r:List UInt8,m'=r.length∧partsI i.op=p++r∧lineS i p fr' st':=fun x fr st hx hw=>by
   subst hx
   refine ⟨r3.length,_,_,by simp,hw,p++ [b],r3,rfl,by rw[hs];simp,.inr ⟨by simp,?_,?_⟩⟩
   ·rw[List.length_append];rfl
   ·rw[List.length_append]
    simp[outL]
  have hi:∀ st z,-1000000≤z→z≤1000000→VSpecO C.E 45 st [.sc (.int .i64 z)] (strV (Lib.itoa z)):=fun st z h1 h2=>by rw[hC];exact itoa_s w (n+1) st z (by omega) (by omega)
  obtain ⟨hb1,hb2,hb3,hb4,hb5⟩:=hbd
  have hn1:=fun st=>(cneedle_p w n i.bed hb1 i.pos (by omega) (by omega)).of hC rfl st rfl
  have hn2:=fun st=>(cneedle_p w n (1 - i.bed) (by omega) i.to (by omega) (by omega)).of hC rfl st rfl
  have hwr:IntKind.u8.wrap (1 - (i.bed:Int))=((1 - i.bed:Nat):Int):=by rw[wrap_u8 _ (by omega) (by omega)];omega
  have d100:(((100:UInt8).toNat:Nat):Int)=100:=rfl
  have d110:(((110:UInt8).toNat:Nat):Int)=110:=rfl
  have d111:(((111:UInt8).toNat:Nat):Int)=111:=rfl
  have d99:(((99:UInt8).toNat:Nat):Int)=99:=rfl
  have d114:(((114:UInt8).toNat:Nat):Int)=114:=rfl
  rcases hb with rfl|rfl|rfl|rfl|rfl
  ·rcases hst with ⟨rfl,rfl,rfl⟩|⟨hp0,rfl,rfl⟩
   all_goals try simp only[List.length_nil] at hnx
   all_goals
    repeat' (first|(simp (disch:=first|omega|assumption|exact bd (by with_unfolding_all rfl)|exact Or.inl rfl|(simp only[VVlen]<;>omega)|fail) only[O1,WA,slotsL,opdsA,Nat.reduceEqDiff,Nat.reduceLT,Nat.reduceAdd,Nat.reduceBEq,Int.reduceAdd,Int.reduceSub,Int.reduceLT,Int.reduceLE,Int.reduceEq,Int.reduceNeg,↓reduceIte,reduceCtorEq,List.replicate,c23l0,pv_nextS,wv_nextS,hnx,d100,d110,d111,d99,d114])|apply gC_drawW|((first|apply gI_dec|apply gG_dec|apply gPG_dec|apply gI_var|apply gG_var|apply gPG_var)<;>intro _))
   all_goals exact hdone _ _ _ (by rename_i hr;simp[partT,hr]) (weak_to [(4,4),(6,3),(0,0)] 5 h0 rfl rfl rfl rfl)
  ·rcases hst with ⟨rfl,rfl,rfl⟩|⟨hp0,rfl,rfl⟩
   all_goals try simp only[List.length_nil] at hnx
   all_goals
    repeat' (first|(simp (disch:=first|omega|assumption|exact bd (by with_unfolding_all rfl)|exact Or.inl rfl|(simp only[VVlen]<;>omega)|fail) only[O1,WA,slotsL,opdsA,Nat.reduceEqDiff,Nat.reduceLT,Nat.reduceAdd,Nat.reduceBEq,Int.reduceAdd,Int.reduceSub,Int.reduceLT,Int.reduceLE,Int.reduceEq,Int.reduceNeg,↓reduceIte,reduceCtorEq,List.replicate,c23l0,pv_nextS,wv_nextS,hnx,d100,d110,d111,d99,d114])|apply gC_drawW|((first|apply gI_dec|apply gG_dec|apply gPG_dec|apply gI_var|apply gG_var|apply gPG_var)<;>intro _))
    refine callV_flat (hn1 _) ?_
    repeat' (first|(simp (disch:=first|omega|assumption|exact bd (by with_unfolding_all rfl)|exact Or.inl rfl|(simp only[VVlen]<;>omega)|fail) only[O1,WA,slotsL,opdsA,Nat.reduceEqDiff,Nat.reduceLT,Nat.reduceAdd,Nat.reduceBEq,Int.reduceAdd,Int.reduceSub,Int.reduceLT,Int.reduceLE,Int.reduceEq,Int.reduceNeg,↓reduceIte,reduceCtorEq,List.replicate])|apply gC_drawW|((first|apply gI_dec|apply gG_dec|apply gPG_dec|apply gI_var|apply gG_var|apply gPG_var)<;>intro _))
   all_goals exact hdone _ _ _ rfl (weak_to [(4,4),(6,3),(0,0)] 5 h0 rfl rfl rfl rfl)
  ·rcases hst with ⟨rfl,rfl,rfl⟩|⟨hp0,rfl,rfl⟩
   all_goals try simp only[List.length_nil] at hnx
   all_goals
    repeat' (first|(simp (disch:=first|omega|assumption|exact bd (by with_unfolding_all rfl)|exact Or.inl rfl|(simp only[VVlen]<;>omega)|fail) only[O1,WA,slotsL,opdsA,Nat.reduceEqDiff,Nat.reduceLT,Nat.reduceAdd,Nat.reduceBEq,Int.reduceAdd,Int.reduceSub,Int.reduceLT,Int.reduceLE,Int.reduceEq,Int.reduceNeg,↓reduceIte,reduceCtorEq,List.replicate,c23l0,pv_nextS,wv_nextS,hnx,d100,d110,d111,d99,d114,hwr])|apply gC_drawW|((first|apply gI_dec|apply gG_dec|apply gPG_dec|apply gI_var|apply gG_var|apply gPG_var)<;>intro _))
    refine callV_flat (hn2 _) ?_
    repeat' (first|(simp (disch:=first|omega|assumption|exact bd (by with_unfolding_all rfl)|exact Or.inl rfl|(simp only[VVlen]<;>omega)|fail) only[O1,WA,slotsL,opdsA,Nat.reduceEqDiff,Nat.reduceLT,Nat.reduceAdd,Nat.reduceBEq,Int.reduceAdd,Int.reduceSub,Int.reduceLT,Int.reduceLE,Int.reduceEq,Int.reduceNeg,↓reduceIte,reduceCtorEq,List.replicate])|apply gC_drawW|((first|apply gI_dec|apply gG_dec|apply gPG_dec|apply gI_var|apply gG_var|apply gPG_var)<;>intro _))
   all_goals exact hdone _ _ _ rfl (weak_to [(4,4),(6,3),(0,0)] 5 h0 rfl rfl rfl rfl)
  ·rcases hst with ⟨rfl,rfl,rfl⟩|⟨hp0,rfl,rfl⟩
   all_goals try simp only[List.length_nil] at hnx
   all_goals
    repeat' (first|(simp (disch:=first|omega|assumption|exact bd (by with_unfolding_all rfl)|exact Or.inl rfl|(simp only[VVlen]<;>omega)|fail) only[O1,WA,slotsL,opdsA,Nat.reduceEqDiff,Nat.reduceLT,Nat.reduceAdd,Nat.reduceBEq,Int.reduceAdd,Int.reduceSub,Int.reduceLT,Int.reduceLE,Int.reduceEq,Int.reduceNeg,↓reduceIte,reduceCtorEq,List.replicate,c23l0,pv_nextS,wv_nextS,hnx,d100,d110,d111,d99,d114])|apply gC_drawW|((first|apply gI_dec|apply gG_dec|apply gPG_dec|apply gI_var|apply gG_var|apply gPG_var)<;>intro _))
    refine callV_flat (hi _ _ (by omega) (by omega)) ?_
    repeat' (first|(simp (disch:=first|omega|assumption|exact bd (by with_unfolding_all rfl)|exact Or.inl rfl|(simp only[VVlen]<;>omega)|fail) only[O1,WA,slotsL,opdsA,Nat.reduceEqDiff,Nat.reduceLT,Nat.reduceAdd,Nat.reduceBEq,Int.reduceAdd,Int.reduceSub,Int.reduceLT,Int.reduceLE,Int.reduceEq,Int.reduceNeg,↓reduceIte,reduceCtorEq,List.replicate])|apply gC_drawW|((first|apply gI_dec|apply gG_dec|apply gPG_dec|apply gI_var|apply gG_var|apply gPG_var)<;>intro _))
   all_goals exact hdone _ _ _ rfl (weak_to [(4,4),(6,3),(0,0)] 5 h0 rfl rfl rfl rfl)
  ·rcases hst with ⟨rfl,rfl,rfl⟩|⟨hp0,rfl,rfl⟩
   all_goals try simp only[List.length_nil] at hnx
   all_goals
    repeat' (first|(simp (disch:=first|omega|assumption|exact bd (by with_unfolding_all rfl)|exact Or.inl rfl|(simp only[VVlen]<;>omega)|fail) only[O1,WA,slotsL,opdsA,Nat.reduceEqDiff,Nat.reduceLT,Nat.reduceAdd,Nat.reduceBEq,Int.reduceAdd,Int.reduceSub,Int.reduceLT,Int.reduceLE,Int.reduceEq,Int.reduceNeg,↓reduceIte,reduceCtorEq,List.replicate,c23l0,pv_nextS,wv_nextS,hnx,d100,d110,d111,d99,d114])|apply gC_drawW|((first|apply gI_dec|apply gG_dec|apply gPG_dec|apply gI_var|apply gG_var|apply gPG_var)<;>intro _))
    refine callV_flat (hi _ _ (by omega) (by omega)) ?_
    repeat' (first|(simp (disch:=first|omega|assumption|exact bd (by with_unfolding_all rfl)|exact Or.inl rfl|(simp only[VVlen]<;>omega)|fail) only[O1,WA,slotsL,opdsA,Nat.reduceEqDiff,Nat.reduceLT,Nat.reduceAdd,Nat.reduceBEq,Int.reduceAdd,Int.reduceSub,Int.reduceLT,Int.reduceLE,Int.reduceEq,Int.reduceNeg,↓reduceIte,reduceCtorEq,List.replicate])|apply gC_drawW|((first|apply gI_dec|apply gG_dec|apply gPG_dec|apply gI_var|apply gG_var|apply gPG_var)<;>intro _))
   all_goals exact hdone _ _ _ rfl (weak_to [(4,4),(6,3),(0,0)] 5 h0 rfl rfl rfl rfl)
end
set_option maxHeartbeats 20000000
section
variable (w:World) (n:Nat)
theorem rinstr_tail {C:Ctx} (hC:C.E=EN w (n+1)) (h0:C.w0.nx=0) (o:Nat) (r:Bool) (b:Nat) (p t c k:Int) (o':Nat) (r':Bool) (b':Nat) (p' t' c' k':Int) (ok:Bool) (E:Bool) (R:Int)
  (hE:(decide ((o':Int)=o) && (r'==r && (decide ((b':Int)=b) && (decide (p'=p) && (decide (t'=t) && (decide (c'=c) && decide (k'=k)))))))=E)
  (h:R=if ok=true∧E=true∧b≤1∧ndOK p∧ndOK t then 0 else 8) {T:AC} (hT:T=AC.r (AC.r (AC.r (AC.r c24.code)))):
  gC C T [] [(1,.ptr 0 0),(3,.ptr 1 0),(4,.sc (.bool ok))] ⟨[(1,insB o' r' b' p' t' c' k'),(0,insB o r b p t c k)],2,0⟩ (RetV C c24.res (.sc (.int .i64 R)) ⟨[],0,0⟩):=by
 have hp:=(rat_p w n p).of hC rfl
 have ht:=(rat_p w n t).of hC rfl
 simp only[c24,AC.r] at hT
 subst hT
 cases ok
 ·rw[if_neg (by simp)] at h
  subst h
  simp (disch:=first|omega|assumption|exact bd (by with_unfolding_all rfl)|exact Or.inl rfl|exact Or.inl trivial|exact okL_map _ (fun _=>rfl) _|(simp only[VVlen]<;>omega)|fail) only[O1,WA,slotsL,opdsA,Nat.reduceEqDiff,Nat.reduceLT,Nat.reduceAdd,Nat.reduceBEq,Int.reduceAdd,Int.reduceSub,Int.reduceLT,Int.reduceLE,Int.reduceEq,Int.reduceNeg,↓reduceIte,reduceCtorEq,List.replicate,c24]
  exact weak_flat rfl h0 rfl
 cases E
 ·rw[if_neg (by simp)] at h
  subst h
  simp (disch:=first|omega|assumption|exact bd (by with_unfolding_all rfl)|exact Or.inl rfl|exact Or.inl trivial|exact okL_map _ (fun _=>rfl) _|(simp only[VVlen]<;>omega)|fail) only[O1,WA,slotsL,opdsA,Nat.reduceEqDiff,Nat.reduceLT,Nat.reduceAdd,Nat.reduceBEq,Int.reduceAdd,Int.reduceSub,Int.reduceLT,Int.reduceLE,Int.reduceEq,Int.reduceNeg,↓reduceIte,reduceCtorEq,List.replicate,c24,hE]
  exact weak_flat rfl h0 rfl
 by_cases hb:b≤1
 case neg=>
  rw[if_neg (fun hh=>hb hh.2.2.1)] at h
  subst h
  simp (disch:=first|omega|assumption|exact bd (by with_unfolding_all rfl)|exact Or.inl rfl|exact Or.inl trivial|exact okL_map _ (fun _=>rfl) _|(simp only[VVlen]<;>omega)|fail) only[O1,WA,slotsL,opdsA,Nat.reduceEqDiff,Nat.reduceLT,Nat.reduceAdd,Nat.reduceBEq,Int.reduceAdd,Int.reduceSub,Int.reduceLT,Int.reduceLE,Int.reduceEq,Int.reduceNeg,↓reduceIte,reduceCtorEq,List.replicate,c24,hE]
  all_goals try (exfalso;omega)
  exact weak_flat rfl h0 rfl
 by_cases h1:ndOK p
 case neg=>
  rw[if_neg (fun hh=>h1 hh.2.2.2.1)] at h
  subst h
  rw[decide_eq_false h1] at hp
  simp (disch:=first|omega|assumption|exact bd (by with_unfolding_all rfl)|exact Or.inl rfl|exact Or.inl trivial|exact okL_map _ (fun _=>rfl) _|(simp only[VVlen]<;>omega)|fail) only[O1,WA,slotsL,opdsA,Nat.reduceEqDiff,Nat.reduceLT,Nat.reduceAdd,Nat.reduceBEq,Int.reduceAdd,Int.reduceSub,Int.reduceLT,Int.reduceLE,Int.reduceEq,Int.reduceNeg,↓reduceIte,reduceCtorEq,List.replicate,c24,hE]
  all_goals try (exfalso;omega)
  refine callV_flat (hp _ rfl) ?_
  simp (disch:=first|omega|assumption|exact bd (by with_unfolding_all rfl)|exact Or.inl rfl|exact Or.inl trivial|exact okL_map _ (fun _=>rfl) _|(simp only[VVlen]<;>omega)|fail) only[O1,WA,slotsL,opdsA,Nat.reduceEqDiff,Nat.reduceLT,Nat.reduceAdd,Nat.reduceBEq,Int.reduceAdd,Int.reduceSub,Int.reduceLT,Int.reduceLE,Int.reduceEq,Int.reduceNeg,↓reduceIte,reduceCtorEq,List.replicate]
  exact weak_flat rfl h0 rfl
 rw[decide_eq_true h1] at hp
 simp (disch:=first|omega|assumption|exact bd (by with_unfolding_all rfl)|exact Or.inl rfl|exact Or.inl trivial|exact okL_map _ (fun _=>rfl) _|(simp only[VVlen]<;>omega)|fail) only[O1,WA,slotsL,opdsA,Nat.reduceEqDiff,Nat.reduceLT,Nat.reduceAdd,Nat.reduceBEq,Int.reduceAdd,Int.reduceSub,Int.reduceLT,Int.reduceLE,Int.reduceEq,Int.reduceNeg,↓reduceIte,reduceCtorEq,List.replicate,c24,hE]
 all_goals try (exfalso;omega)
 refine callV_flat (hp _ rfl) ?_
 simp (disch:=first|omega|assumption|exact bd (by with_unfolding_all rfl)|exact Or.inl rfl|exact Or.inl trivial|exact okL_map _ (fun _=>rfl) _|(simp only[VVlen]<;>omega)|fail) only[O1,WA,slotsL,opdsA,Nat.reduceEqDiff,Nat.reduceLT,Nat.reduceAdd,Nat.reduceBEq,Int.reduceAdd,Int.reduceSub,Int.reduceLT,Int.reduceLE,Int.reduceEq,Int.reduceNeg,↓reduceIte,reduceCtorEq,List.replicate]
 refine callV_flat (ht _ rfl) ?_
 by_cases h2:ndOK t
 ·rw[if_pos ⟨rfl,rfl,hb,h1,h2⟩] at h
  subst h
  rw[decide_eq_true h2]
  simp (disch:=first|omega|assumption|exact bd (by with_unfolding_all rfl)|exact Or.inl rfl|exact Or.inl trivial|exact okL_map _ (fun _=>rfl) _|(simp only[VVlen]<;>omega)|fail) only[O1,WA,slotsL,opdsA,Nat.reduceEqDiff,Nat.reduceLT,Nat.reduceAdd,Nat.reduceBEq,Int.reduceAdd,Int.reduceSub,Int.reduceLT,Int.reduceLE,Int.reduceEq,Int.reduceNeg,↓reduceIte,reduceCtorEq,List.replicate]
  exact weak_flat rfl h0 rfl
 ·rw[if_neg (fun hh=>h2 hh.2.2.2.2)] at h
  subst h
  rw[decide_eq_false h2]
  simp (disch:=first|omega|assumption|exact bd (by with_unfolding_all rfl)|exact Or.inl rfl|exact Or.inl trivial|exact okL_map _ (fun _=>rfl) _|(simp only[VVlen]<;>omega)|fail) only[O1,WA,slotsL,opdsA,Nat.reduceEqDiff,Nat.reduceLT,Nat.reduceAdd,Nat.reduceBEq,Int.reduceAdd,Int.reduceSub,Int.reduceLT,Int.reduceLE,Int.reduceEq,Int.reduceNeg,↓reduceIte,reduceCtorEq,List.replicate]
  exact weak_flat rfl h0 rfl
theorem rinstr_p (i:Ins):VSpec (EN w (n+2)) 24 [insV i] (.sc (.int .i64 (if insOK i=true then 0 else 8))) ⟨[],0,0⟩:=by
 refine vspec_flat rfl rfl (fun _ _=>rfl) (Nat.le_of_ble_eq_true rfl) (oldVals w) rfl fun C hC h0=>?_
 obtain ⟨T,hT⟩:∃ T,T=AC.r (AC.r (AC.r (AC.r c24.code))):=⟨_,rfl⟩
 have hc:c24.code= .seq (AC.l c24.code) (.seq (AC.l (AC.r c24.code)) (.seq (AC.l (AC.r (AC.r c24.code))) (.seq (AC.l (AC.r (AC.r (AC.r c24.code)))) T))):=by rw[hT];rfl
 rw[hc]
 obtain ⟨op,right,bed,pos,to,car,rack⟩:=i
 have key:∀ x:Prop,[Decidable x]→(InsP ⟨op,right,bed,pos,to,car,rack⟩↔x)→(if insOK ⟨op,right,bed,pos,to,car,rack⟩=true then (0:Int) else 8)=if x then 0 else 8:=fun x _ h=>by
  by_cases hx:x
  ·rw[if_pos hx,if_pos (insOK_iff.2 (h.2 hx))]
  ·rw[if_neg hx,if_neg (fun hh=>hx (h.1 (insOK_iff.1 hh)))]
 have tl:=fun (o':Nat) (r':Bool) (b':Nat) (p' t' c' k':Int) (ok E:Bool) (hE) (h)=>rinstr_tail w n hC h0 op right bed pos to car rack o' r' b' p' t' c' k' ok E _ hE (key _ h) hT
 unfold InsP at tl
 have hf:=(rfeed_p w n car).of hC rfl
 by_cases h1:op=1∨op=2
 ·rcases h1 with h1|h1
  all_goals
   repeat' (first|(simp (disch:=first|omega|assumption|exact bd (by with_unfolding_all rfl)|exact Or.inl rfl|exact Or.inl trivial|exact okL_map _ (fun _=>rfl) _|(simp only[VVlen]<;>omega)|fail) only[O1,WA,slotsL,opdsA,Nat.reduceEqDiff,Nat.reduceLT,Nat.reduceAdd,Nat.reduceBEq,Int.reduceAdd,Int.reduceSub,Int.reduceLT,Int.reduceLE,Int.reduceEq,Int.reduceNeg,↓reduceIte,reduceCtorEq,List.replicate,c24,insV,AC.l,AC.r])|apply gC_drawW|((first|apply gI_dec|apply gG_dec|apply gPG_dec|apply gI_var|apply gG_var|apply gPG_var)<;>intro _))
   all_goals try (exfalso;omega)
   refine callV_flat (hf _ rfl) ?_
   repeat' (first|(simp (disch:=first|omega|assumption|exact bd (by with_unfolding_all rfl)|exact Or.inl rfl|exact Or.inl trivial|exact okL_map _ (fun _=>rfl) _|(simp only[VVlen]<;>omega)|fail) only[O1,WA,slotsL,opdsA,Nat.reduceEqDiff,Nat.reduceLT,Nat.reduceAdd,Nat.reduceBEq,Int.reduceAdd,Int.reduceSub,Int.reduceLT,Int.reduceLE,Int.reduceEq,Int.reduceNeg,↓reduceIte,reduceCtorEq,List.replicate])|apply gC_drawW|((first|apply gI_dec|apply gG_dec|apply gPG_dec|apply gI_var|apply gG_var|apply gPG_var)<;>intro _))
   all_goals refine tl op false 0 0 0 car 0 _ _ rfl ?_
   all_goals
    cases right<;>simp only[ndOK,Bool.and_eq_true,decide_eq_true_eq,beq_iff_eq,true_and,and_true,reduceCtorEq,false_and,and_false,or_false,false_or,Nat.reduceEqDiff,true_or,or_true,iff_false,true_iff,false_iff]<;>omega
 by_cases h2:op=3∨op=4∨op=5
 ·rcases h2 with h2|h2|h2
  all_goals
   repeat' (first|(simp (disch:=first|omega|assumption|exact bd (by with_unfolding_all rfl)|exact Or.inl rfl|exact Or.inl trivial|exact okL_map _ (fun _=>rfl) _|(simp only[VVlen]<;>omega)|fail) only[O1,WA,slotsL,opdsA,Nat.reduceEqDiff,Nat.reduceLT,Nat.reduceAdd,Nat.reduceBEq,Int.reduceAdd,Int.reduceSub,Int.reduceLT,Int.reduceLE,Int.reduceEq,Int.reduceNeg,↓reduceIte,reduceCtorEq,List.replicate,c24,insV,AC.l,AC.r])|apply gC_drawW|((first|apply gI_dec|apply gG_dec|apply gPG_dec|apply gI_var|apply gG_var|apply gPG_var)<;>intro _))
   all_goals try (exfalso;omega)
   refine callV_flat (hf _ rfl) ?_
   repeat' (first|(simp (disch:=first|omega|assumption|exact bd (by with_unfolding_all rfl)|exact Or.inl rfl|exact Or.inl trivial|exact okL_map _ (fun _=>rfl) _|(simp only[VVlen]<;>omega)|fail) only[O1,WA,slotsL,opdsA,Nat.reduceEqDiff,Nat.reduceLT,Nat.reduceAdd,Nat.reduceBEq,Int.reduceAdd,Int.reduceSub,Int.reduceLT,Int.reduceLE,Int.reduceEq,Int.reduceNeg,↓reduceIte,reduceCtorEq,List.replicate])|apply gC_drawW|((first|apply gI_dec|apply gG_dec|apply gPG_dec|apply gI_var|apply gG_var|apply gPG_var)<;>intro _))
   all_goals refine tl op right bed pos 0 car 0 _ _ rfl ?_
   all_goals
    cases right<;>simp only[ndOK,Bool.and_eq_true,decide_eq_true_eq,beq_iff_eq,true_and,and_true,reduceCtorEq,false_and,and_false,or_false,false_or,Nat.reduceEqDiff,true_or,or_true,iff_false,true_iff,false_iff]<;>omega
 by_cases h3:op=6
 ·all_goals
   simp (disch:=first|omega|assumption|exact bd (by with_unfolding_all rfl)|exact Or.inl rfl|exact Or.inl trivial|exact okL_map _ (fun _=>rfl) _|(simp only[VVlen]<;>omega)|fail) only[O1,WA,slotsL,opdsA,Nat.reduceEqDiff,Nat.reduceLT,Nat.reduceAdd,Nat.reduceBEq,Int.reduceAdd,Int.reduceSub,Int.reduceLT,Int.reduceLE,Int.reduceEq,Int.reduceNeg,↓reduceIte,reduceCtorEq,List.replicate,c24,insV,AC.l,AC.r]
   all_goals try (exfalso;omega)
   refine callV_flat (hf _ rfl) ?_
   repeat' (first|(simp (disch:=first|omega|assumption|exact bd (by with_unfolding_all rfl)|exact Or.inl rfl|exact Or.inl trivial|exact okL_map _ (fun _=>rfl) _|(simp only[VVlen]<;>omega)|fail) only[O1,WA,slotsL,opdsA,Nat.reduceEqDiff,Nat.reduceLT,Nat.reduceAdd,Nat.reduceBEq,Int.reduceAdd,Int.reduceSub,Int.reduceLT,Int.reduceLE,Int.reduceEq,Int.reduceNeg,↓reduceIte,reduceCtorEq,List.replicate])|apply gC_drawW|((first|apply gI_dec|apply gG_dec|apply gPG_dec|apply gI_var|apply gG_var|apply gPG_var)<;>intro _))
   all_goals refine tl op right bed pos to car 0 _ _ rfl ?_
   all_goals
    cases right<;>simp only[ndOK,Bool.and_eq_true,decide_eq_true_eq,beq_iff_eq,true_and,and_true,reduceCtorEq,false_and,and_false,or_false,false_or,Nat.reduceEqDiff,true_or,or_true,iff_false,true_iff,false_iff]<;>omega
 by_cases h4:op=7
 ·all_goals
   repeat' (first|(simp (disch:=first|omega|assumption|exact bd (by with_unfolding_all rfl)|exact Or.inl rfl|exact Or.inl trivial|exact okL_map _ (fun _=>rfl) _|(simp only[VVlen]<;>omega)|fail) only[O1,WA,slotsL,opdsA,Nat.reduceEqDiff,Nat.reduceLT,Nat.reduceAdd,Nat.reduceBEq,Int.reduceAdd,Int.reduceSub,Int.reduceLT,Int.reduceLE,Int.reduceEq,Int.reduceNeg,↓reduceIte,reduceCtorEq,List.replicate,c24,insV,AC.l,AC.r])|apply gC_drawW|((first|apply gI_dec|apply gG_dec|apply gPG_dec|apply gI_var|apply gG_var|apply gPG_var)<;>intro _))
   all_goals try (exfalso;omega)
   all_goals refine tl op false bed pos to 0 0 _ _ rfl ?_
   all_goals
    cases right<;>simp only[ndOK,Bool.and_eq_true,decide_eq_true_eq,beq_iff_eq,true_and,and_true,reduceCtorEq,false_and,and_false,or_false,false_or,Nat.reduceEqDiff,true_or,or_true,iff_false,true_iff,false_iff]<;>omega
 by_cases h5:op=8
 ·all_goals
   repeat' (first|(simp (disch:=first|omega|assumption|exact bd (by with_unfolding_all rfl)|exact Or.inl rfl|exact Or.inl trivial|exact okL_map _ (fun _=>rfl) _|(simp only[VVlen]<;>omega)|fail) only[O1,WA,slotsL,opdsA,Nat.reduceEqDiff,Nat.reduceLT,Nat.reduceAdd,Nat.reduceBEq,Int.reduceAdd,Int.reduceSub,Int.reduceLT,Int.reduceLE,Int.reduceEq,Int.reduceNeg,↓reduceIte,reduceCtorEq,List.replicate,c24,insV,AC.l,AC.r])|apply gC_drawW|((first|apply gI_dec|apply gG_dec|apply gPG_dec|apply gI_var|apply gG_var|apply gPG_var)<;>intro _))
   all_goals try (exfalso;omega)
   all_goals refine tl op false 0 0 0 0 rack _ _ rfl ?_
   all_goals
    cases right<;>simp only[ndOK,Bool.and_eq_true,decide_eq_true_eq,beq_iff_eq,true_and,and_true,reduceCtorEq,false_and,and_false,or_false,false_or,Nat.reduceEqDiff,true_or,or_true,iff_false,true_iff,false_iff]<;>omega
 by_cases h6:op=9
 ·all_goals
   repeat' (first|(simp (disch:=first|omega|assumption|exact bd (by with_unfolding_all rfl)|exact Or.inl rfl|exact Or.inl trivial|exact okL_map _ (fun _=>rfl) _|(simp only[VVlen]<;>omega)|fail) only[O1,WA,slotsL,opdsA,Nat.reduceEqDiff,Nat.reduceLT,Nat.reduceAdd,Nat.reduceBEq,Int.reduceAdd,Int.reduceSub,Int.reduceLT,Int.reduceLE,Int.reduceEq,Int.reduceNeg,↓reduceIte,reduceCtorEq,List.replicate,c24,insV,AC.l,AC.r])|apply gC_drawW|((first|apply gI_dec|apply gG_dec|apply gPG_dec|apply gI_var|apply gG_var|apply gPG_var)<;>intro _))
   all_goals try (exfalso;omega)
   all_goals refine tl op false bed pos 0 0 0 _ _ rfl ?_
   all_goals
    cases right<;>simp only[ndOK,Bool.and_eq_true,decide_eq_true_eq,beq_iff_eq,true_and,and_true,reduceCtorEq,false_and,and_false,or_false,false_or,Nat.reduceEqDiff,true_or,or_true,iff_false,true_iff,false_iff]<;>omega
 rw[key False ?_]
 ·simp (disch:=first|omega|assumption|exact bd (by with_unfolding_all rfl)|exact Or.inl rfl|exact Or.inl trivial|exact okL_map _ (fun _=>rfl) _|(simp only[VVlen]<;>omega)|fail) only[O1,WA,slotsL,opdsA,Nat.reduceEqDiff,Nat.reduceLT,Nat.reduceAdd,Nat.reduceBEq,Int.reduceAdd,Int.reduceSub,Int.reduceLT,Int.reduceLE,Int.reduceEq,Int.reduceNeg,↓reduceIte,reduceCtorEq,List.replicate,c24,insV,AC.l,AC.r]
  all_goals try (exfalso;omega)
  exact weak_flat rfl h0 rfl
 ·unfold InsP
  simp only[iff_false]
  omega
end
set_option maxHeartbeats 2000000
noncomputable def lineF (i:Ins):List UInt8 × Int:=if insOK i=true then (textI i,0) else ([],8)
section
variable (w:World) (n:Nat)
theorem cLine_p (i:Ins):VSpec (EN w (n+4)) 8 [insV i] (.tup [strV (lineF i).1,.sc (.int .i64 (lineF i).2)]) ⟨[],0,0⟩:=by
 refine vspec_flat rfl rfl (fun _ _=>rfl) (Nat.le_of_ble_eq_true rfl) (oldVals w) rfl fun C hC h0=>?_
 have hi:=binstr_p w (n+1) i
 by_cases h:insOK i=true
 ·have e:lineF i=(textI i,0):=if_pos h
  rw[e]
  rw[if_pos h] at hi
  have hl:=line_p w n i (insOK_iff.1 h)
  unfold insV at hi hl ⊢
  simp (disch:=first|omega|assumption|exact bd (by with_unfolding_all rfl)|exact Or.inl rfl|(simp only[VVlen]<;>omega)|fail) only[O1,WA,slotsL,opdsA,Nat.reduceEqDiff,Nat.reduceLT,Nat.reduceAdd,Nat.reduceBEq,Int.reduceAdd,Int.reduceSub,Int.reduceLT,Int.reduceLE,Int.reduceEq,Int.reduceNeg,↓reduceIte,reduceCtorEq,List.replicate,c8]
  refine callV_flat (by rw[hC];exact hi.flat rfl rfl) ?_
  simp (disch:=first|omega|assumption|exact bd (by with_unfolding_all rfl)|exact Or.inl rfl|(simp only[VVlen]<;>omega)|fail) only[O1,WA,slotsL,opdsA,Nat.reduceEqDiff,Nat.reduceLT,Nat.reduceAdd,Nat.reduceBEq,Int.reduceAdd,Int.reduceSub,Int.reduceLT,Int.reduceLE,Int.reduceEq,Int.reduceNeg,↓reduceIte,reduceCtorEq,List.replicate]
  refine callV_flat (by rw[hC];exact hl.flat rfl rfl) ?_
  repeat' (first|(simp (disch:=first|omega|assumption|exact bd (by with_unfolding_all rfl)|exact Or.inl rfl|(simp only[VVlen]<;>omega)|fail) only[O1,WA,slotsL,opdsA,Nat.reduceEqDiff,Nat.reduceLT,Nat.reduceAdd,Nat.reduceBEq,Int.reduceAdd,Int.reduceSub,Int.reduceLT,Int.reduceLE,Int.reduceEq,Int.reduceNeg,↓reduceIte,reduceCtorEq,List.replicate])|apply gC_drawW|((first|apply gI_dec|apply gG_dec|apply gPG_dec|apply gI_var|apply gG_var|apply gPG_var)<;>intro _))
  exact weak_flat rfl h0 rfl
 ·have e:lineF i=([],8):=if_neg h
  rw[e]
  rw[if_neg h] at hi
  unfold insV at hi ⊢
  simp (disch:=first|omega|assumption|exact bd (by with_unfolding_all rfl)|exact Or.inl rfl|(simp only[VVlen]<;>omega)|fail) only[O1,WA,slotsL,opdsA,Nat.reduceEqDiff,Nat.reduceLT,Nat.reduceAdd,Nat.reduceBEq,Int.reduceAdd,Int.reduceSub,Int.reduceLT,Int.reduceLE,Int.reduceEq,Int.reduceNeg,↓reduceIte,reduceCtorEq,List.replicate,c8]
  refine callV_flat (by rw[hC];exact hi.flat rfl rfl) ?_
  simp (disch:=first|omega|assumption|exact bd (by with_unfolding_all rfl)|exact Or.inl rfl|(simp only[VVlen]<;>omega)|fail) only[O1,WA,slotsL,opdsA,Nat.reduceEqDiff,Nat.reduceLT,Nat.reduceAdd,Nat.reduceBEq,Int.reduceAdd,Int.reduceSub,Int.reduceLT,Int.reduceLE,Int.reduceEq,Int.reduceNeg,↓reduceIte,reduceCtorEq,List.replicate]
  exact weak_flat rfl h0 rfl
end
set_option maxHeartbeats 4000000
section
variable (w:World) (n:Nat)
theorem rdec_p (z:Int) (h1: -1000000≤z) (h2:z≤1000000):VSpec (EN w (n+2)) 49 [.sc (.int .i64 z)] (strV (Lib.itoa z)) ⟨[],0,0⟩:=by
 refine vspec_flat rfl rfl (fun _ _=>rfl) (Nat.le_of_ble_eq_true rfl) (oldVals w) rfl fun C hC h0=>?_
 rcases Int.lt_or_le z 0 with h|h
 ·have e:Lib.itoa z=45::Lib.decDigits z.natAbs:=by unfold Lib.itoa;rw[if_pos h]
  have hd:=decimal_p w n z.natAbs (by omega)
  have hw:IntKind.i64.wrap (0 - z)=((z.natAbs:Nat):Int):=by rw[wrap64 _ (by omega) (by omega)];omega
  have hl:=decDigits_len 11 z.natAbs (by simpa using (by omega:z.natAbs<1000000000000))
  have hc:=cat_l [45] (Lib.decDigits z.natAbs) (by simp;omega)
  rw[e]
  simp (disch:=first|omega|assumption|exact bd (by with_unfolding_all rfl)|exact Or.inl rfl|(simp only[VVlen]<;>omega)|fail) only[O1,WA,slotsL,opdsA,Nat.reduceEqDiff,Nat.reduceLT,Nat.reduceAdd,Nat.reduceBEq,Int.reduceAdd,Int.reduceSub,Int.reduceLT,Int.reduceLE,Int.reduceEq,Int.reduceNeg,↓reduceIte,reduceCtorEq,List.replicate,c49,hw]
  all_goals try (exfalso;omega)
  refine callV_flat (by rw[hC];exact hd.flat rfl rfl) ?_
  simp (disch:=first|omega|assumption|exact bd (by with_unfolding_all rfl)|exact Or.inl rfl|(simp only[VVlen]<;>omega)|fail) only[O1,WA,slotsL,opdsA,Nat.reduceEqDiff,Nat.reduceLT,Nat.reduceAdd,Nat.reduceBEq,Int.reduceAdd,Int.reduceSub,Int.reduceLT,Int.reduceLE,Int.reduceEq,Int.reduceNeg,↓reduceIte,reduceCtorEq,List.replicate,hc]
  exact weak_flat rfl h0 rfl
 ·obtain ⟨u,rfl⟩:=Int.eq_ofNat_of_zero_le h
  have hd:=decimal_p w n u (by omega)
  rw[Lib.itoa_nonneg]
  simp (disch:=first|omega|assumption|exact bd (by with_unfolding_all rfl)|exact Or.inl rfl|(simp only[VVlen]<;>omega)|fail) only[O1,WA,slotsL,opdsA,Nat.reduceEqDiff,Nat.reduceLT,Nat.reduceAdd,Nat.reduceBEq,Int.reduceAdd,Int.reduceSub,Int.reduceLT,Int.reduceLE,Int.reduceEq,Int.reduceNeg,↓reduceIte,reduceCtorEq,List.replicate,c49]
  all_goals try (exfalso;omega)
  refine callV_flat (by rw[hC];exact hd.flat rfl rfl) ?_
  repeat' (first|(simp (disch:=first|omega|assumption|exact bd (by with_unfolding_all rfl)|exact Or.inl rfl|(simp only[VVlen]<;>omega)|fail) only[O1,WA,slotsL,opdsA,Nat.reduceEqDiff,Nat.reduceLT,Nat.reduceAdd,Nat.reduceBEq,Int.reduceAdd,Int.reduceSub,Int.reduceLT,Int.reduceLE,Int.reduceEq,Int.reduceNeg,↓reduceIte,reduceCtorEq,List.replicate])|apply gC_drawW|((first|apply gI_dec|apply gG_dec|apply gPG_dec|apply gI_var|apply gG_var|apply gPG_var)<;>intro _))
  exact weak_flat rfl h0 rfl
theorem rhook_p (b:Nat) (z:Int) (h1: -1000000≤z) (h2:z≤1000000):VSpec (EN w (n+3)) 50 [.sc (.int .u8 b),.sc (.int .i64 z)] (strV (ndl b z)) ⟨[],0,0⟩:=by
 refine vspec_flat rfl rfl (fun _ _=>rfl) (Nat.le_of_ble_eq_true rfl) (oldVals w) rfl fun C hC h0=>?_
 have hd:=rdec_p w n z h1 h2
 have hil:=itoa_len (z:=z) (by omega) (by omega)
 have hc:=fun c:UInt8=>cat_l [c] (Lib.itoa z) (by simp;omega)
 by_cases hb:b=1
 ·have e:ndl b z=98::Lib.itoa z:=by unfold ndl;rw[if_pos hb]
  rw[e]
  simp (disch:=first|omega|assumption|exact bd (by with_unfolding_all rfl)|exact Or.inl rfl|(simp only[VVlen]<;>omega)|fail) only[O1,WA,slotsL,opdsA,Nat.reduceEqDiff,Nat.reduceLT,Nat.reduceAdd,Nat.reduceBEq,Int.reduceAdd,Int.reduceSub,Int.reduceLT,Int.reduceLE,Int.reduceEq,Int.reduceNeg,↓reduceIte,reduceCtorEq,List.replicate,c50]
  all_goals try (exfalso;omega)
  refine callV_flat (by rw[hC];exact hd.flat rfl rfl) ?_
  simp (disch:=first|omega|assumption|exact bd (by with_unfolding_all rfl)|exact Or.inl rfl|(simp only[VVlen]<;>omega)|fail) only[O1,WA,slotsL,opdsA,Nat.reduceEqDiff,Nat.reduceLT,Nat.reduceAdd,Nat.reduceBEq,Int.reduceAdd,Int.reduceSub,Int.reduceLT,Int.reduceLE,Int.reduceEq,Int.reduceNeg,↓reduceIte,reduceCtorEq,List.replicate,hc]
  exact weak_flat rfl h0 rfl
 ·have e:ndl b z=102::Lib.itoa z:=by unfold ndl;rw[if_neg hb]
  rw[e]
  simp (disch:=first|omega|assumption|exact bd (by with_unfolding_all rfl)|exact Or.inl rfl|(simp only[VVlen]<;>omega)|fail) only[O1,WA,slotsL,opdsA,Nat.reduceEqDiff,Nat.reduceLT,Nat.reduceAdd,Nat.reduceBEq,Int.reduceAdd,Int.reduceSub,Int.reduceLT,Int.reduceLE,Int.reduceEq,Int.reduceNeg,↓reduceIte,reduceCtorEq,List.replicate,c50]
  all_goals try (exfalso;omega)
  refine callV_flat (by rw[hC];exact hd.flat rfl rfl) ?_
  simp (disch:=first|omega|assumption|exact bd (by with_unfolding_all rfl)|exact Or.inl rfl|(simp only[VVlen]<;>omega)|fail) only[O1,WA,slotsL,opdsA,Nat.reduceEqDiff,Nat.reduceLT,Nat.reduceAdd,Nat.reduceBEq,Int.reduceAdd,Int.reduceSub,Int.reduceLT,Int.reduceLE,Int.reduceEq,Int.reduceNeg,↓reduceIte,reduceCtorEq,List.replicate,hc]
  exact weak_flat rfl h0 rfl
def namesD:List D:=(List.range 10).map fun k=>sD (nameI k)
theorem namesD_at {op:Nat} (h:op<10):dload namesD op none=some (strV (nameI op)):=by
 rcases (by omega:op=0∨op=1∨op=2∨op=3∨op=4∨op=5∨op=6∨op=7∨op=8∨op=9) with rfl|rfl|rfl|rfl|rfl|rfl|rfl|rfl|rfl|rfl<;>rfl
theorem rnames_p (op:Nat) (h:op<10):VSpec (EN w (n+1)) 33 [.sc (.int .u8 op)] (strV (nameI op)) ⟨[],0,0⟩:=by
 refine vspec_flat rfl rfl (fun _ _=>rfl) (Nat.le_of_ble_eq_true rfl) (oldVals w) rfl fun C hC h0=>?_
 have hat:=namesD_at h
 have hwr:IntKind.i64.wrap (op:Int)=op:=wrap64 _ (by omega) (by omega)
 simp (disch:=first|omega|assumption|exact bd (by with_unfolding_all rfl)|exact Or.inl rfl|(simp only[VVlen]<;>omega)|fail) only[O1,WA,slotsL,opdsA,Nat.reduceEqDiff,Nat.reduceLT,Nat.reduceAdd,Nat.reduceBEq,Int.reduceAdd,Int.reduceSub,Int.reduceLT,Int.reduceLE,Int.reduceEq,Int.reduceNeg,↓reduceIte,reduceCtorEq,List.replicate,c33,hwr]
 change gV C (some (.ref 0 0 10 10,some (.row 9 1 false false namesD),[])) _ _ _ _ _ _ _ _
 simp (disch:=first|omega|assumption|exact bd (by with_unfolding_all rfl)|exact Or.inl rfl|(simp only[VVlen]<;>omega)|fail) only[O1,WA,slotsL,opdsA,Nat.reduceEqDiff,Nat.reduceLT,Nat.reduceAdd,Nat.reduceBEq,Int.reduceAdd,Int.reduceSub,Int.reduceLT,Int.reduceLE,Int.reduceEq,Int.reduceNeg,↓reduceIte,reduceCtorEq,List.replicate,hwr,hat]
 all_goals try (exfalso;omega)
 exact weak_flat rfl h0 rfl
theorem written_p (i:Ins) (hv:InsP i):VSpec (EN w (n+4)) 25 [insV i] (strV (textI i)) ⟨[],0,0⟩:=by
 refine vspec_flat rfl rfl (fun _ _=>rfl) (Nat.le_of_ble_eq_true rfl) (oldVals w) rfl fun C hC h0=>?_
 have hop:=hv.op_lt
 obtain ⟨hb1,hb2,hb3,hb4,hb5⟩:=hv.bounds
 unfold ndOK at hb2 hb3
 have hn:=(rnames_p w (n+2) i.op hop.2).of hC rfl
 have hnl:=nameI_len i.op hop.2
 have hcar:=(rdec_p w (n+1) i.car (by omega) (by omega)).of hC rfl
 have hrack:=(rdec_p w (n+1) i.rack (by omega) (by omega)).of hC rfl
 have hk1:=(rhook_p w n i.bed i.pos (by omega) (by omega)).of hC rfl
 have hk2:=(rhook_p w n (1 - i.bed) i.to (by omega) (by omega)).of hC rfl
 have l1:=itoa_len (z:=i.car) (by omega) (by omega)
 have l2:=itoa_len (z:=i.rack) (by omega) (by omega)
 have l3:(ndl i.bed i.pos).length≤14:=by have:=itoa_len (z:=i.pos) (by omega) (by omega);unfold ndl;simp;omega
 have l4:(ndl (1 - i.bed) i.to).length≤14:=by have:=itoa_len (z:=i.to) (by omega) (by omega);unfold ndl;simp;omega
 have hwr:IntKind.u8.wrap (1 - (i.bed:Int))=((1 - i.bed:Nat):Int):=by rw[wrap_u8 _ (by omega) (by omega)];omega
 by_cases h1:i.op=1∨i.op=2
 ·have e:textI i=nameI i.op++32::Lib.itoa i.car:=by unfold textI;rcases h1 with h|h<;>rw[h]<;>rfl
  rw[e]
  generalize nameI i.op=nm at*
  generalize Lib.itoa i.car=ic at*
  generalize Lib.itoa i.rack=ik at*
  generalize ndl i.bed i.pos=n1 at*
  generalize ndl (1 - i.bed) i.to=n2 at*
  cases hr:i.right
  all_goals
   repeat' (first|(simp (disch:=first|omega|assumption|exact bd (by with_unfolding_all rfl)|exact Or.inl rfl|(simp only[VVlen]<;>omega)|fail) only[O1,WA,slotsL,opdsA,Nat.reduceEqDiff,Nat.reduceLT,Nat.reduceAdd,Nat.reduceBEq,Int.reduceAdd,Int.reduceSub,Int.reduceLT,Int.reduceLE,Int.reduceEq,Int.reduceNeg,↓reduceIte,reduceCtorEq,List.replicate,c25,insV,hr])|apply gC_drawW|((first|apply gI_dec|apply gG_dec|apply gPG_dec|apply gI_var|apply gG_var|apply gPG_var)<;>intro _))
   refine callV_flat (hn _ rfl) ?_
   repeat' (first|(simp (disch:=first|omega|assumption|exact bd (by with_unfolding_all rfl)|exact Or.inl rfl|(simp only[VVlen]<;>omega)|fail) only[O1,WA,slotsL,opdsA,Nat.reduceEqDiff,Nat.reduceLT,Nat.reduceAdd,Nat.reduceBEq,Int.reduceAdd,Int.reduceSub,Int.reduceLT,Int.reduceLE,Int.reduceEq,Int.reduceNeg,↓reduceIte,reduceCtorEq,List.replicate,cat_l,List.append_assoc])|apply gC_drawW|((first|apply gI_dec|apply gG_dec|apply gPG_dec|apply gI_var|apply gG_var|apply gPG_var)<;>intro _))
   all_goals try (exfalso;omega)
   all_goals refine callV_flat (hcar _ rfl) ?_
   all_goals repeat' (first|(simp (disch:=first|omega|assumption|exact bd (by with_unfolding_all rfl)|exact Or.inl rfl|(simp only[VVlen]<;>omega)|fail) only[O1,WA,slotsL,opdsA,Nat.reduceEqDiff,Nat.reduceLT,Nat.reduceAdd,Nat.reduceBEq,Int.reduceAdd,Int.reduceSub,Int.reduceLT,Int.reduceLE,Int.reduceEq,Int.reduceNeg,↓reduceIte,reduceCtorEq,List.replicate,cat_l,List.append_assoc,hwr])|apply gC_drawW|((first|apply gI_dec|apply gG_dec|apply gPG_dec|apply gI_var|apply gG_var|apply gPG_var)<;>intro _))
   all_goals exact weak_flat rfl h0 rfl
 by_cases h2:i.op=3∨i.op=4∨i.op=5
 ·have e:textI i=nameI i.op++32::(if i.right=true then [43] else [45])++32::(ndl i.bed i.pos++32::Lib.itoa i.car):=by unfold textI;rcases h2 with h|h|h<;>rw[h]<;>rfl
  rw[e]
  generalize nameI i.op=nm at*
  generalize Lib.itoa i.car=ic at*
  generalize Lib.itoa i.rack=ik at*
  generalize ndl i.bed i.pos=n1 at*
  generalize ndl (1 - i.bed) i.to=n2 at*
  cases hr:i.right
  all_goals
   repeat' (first|(simp (disch:=first|omega|assumption|exact bd (by with_unfolding_all rfl)|exact Or.inl rfl|(simp only[VVlen]<;>omega)|fail) only[O1,WA,slotsL,opdsA,Nat.reduceEqDiff,Nat.reduceLT,Nat.reduceAdd,Nat.reduceBEq,Int.reduceAdd,Int.reduceSub,Int.reduceLT,Int.reduceLE,Int.reduceEq,Int.reduceNeg,↓reduceIte,reduceCtorEq,List.replicate,c25,insV,hr])|apply gC_drawW|((first|apply gI_dec|apply gG_dec|apply gPG_dec|apply gI_var|apply gG_var|apply gPG_var)<;>intro _))
   refine callV_flat (hn _ rfl) ?_
   repeat' (first|(simp (disch:=first|omega|assumption|exact bd (by with_unfolding_all rfl)|exact Or.inl rfl|(simp only[VVlen]<;>omega)|fail) only[O1,WA,slotsL,opdsA,Nat.reduceEqDiff,Nat.reduceLT,Nat.reduceAdd,Nat.reduceBEq,Int.reduceAdd,Int.reduceSub,Int.reduceLT,Int.reduceLE,Int.reduceEq,Int.reduceNeg,↓reduceIte,reduceCtorEq,List.replicate,cat_l,List.append_assoc])|apply gC_drawW|((first|apply gI_dec|apply gG_dec|apply gPG_dec|apply gI_var|apply gG_var|apply gPG_var)<;>intro _))
   all_goals try (exfalso;omega)
   all_goals refine call0_of (hk1 _ rfl) ?_
   all_goals repeat' (first|(simp (disch:=first|omega|assumption|exact bd (by with_unfolding_all rfl)|exact Or.inl rfl|(simp only[VVlen]<;>omega)|fail) only[O1,WA,slotsL,opdsA,Nat.reduceEqDiff,Nat.reduceLT,Nat.reduceAdd,Nat.reduceBEq,Int.reduceAdd,Int.reduceSub,Int.reduceLT,Int.reduceLE,Int.reduceEq,Int.reduceNeg,↓reduceIte,reduceCtorEq,List.replicate,cat_l,List.append_assoc,hwr])|apply gC_drawW|((first|apply gI_dec|apply gG_dec|apply gPG_dec|apply gI_var|apply gG_var|apply gPG_var)<;>intro _))
   all_goals refine call0_of (hcar _ rfl) ?_
   all_goals repeat' (first|(simp (disch:=first|omega|assumption|exact bd (by with_unfolding_all rfl)|exact Or.inl rfl|(simp only[VVlen]<;>omega)|fail) only[O1,WA,slotsL,opdsA,Nat.reduceEqDiff,Nat.reduceLT,Nat.reduceAdd,Nat.reduceBEq,Int.reduceAdd,Int.reduceSub,Int.reduceLT,Int.reduceLE,Int.reduceEq,Int.reduceNeg,↓reduceIte,reduceCtorEq,List.replicate,cat_l,List.append_assoc,hwr])|apply gC_drawW|((first|apply gI_dec|apply gG_dec|apply gPG_dec|apply gI_var|apply gG_var|apply gPG_var)<;>intro _))
   all_goals exact weak_flat rfl h0 rfl
 by_cases h3:i.op=6
 ·have e:textI i=nameI i.op++32::(if i.right=true then [43] else [45])++32::(ndl i.bed i.pos++32::(ndl (1 - i.bed) i.to++32::Lib.itoa i.car)):=by unfold textI;have h:=h3<;>rw[h]<;>rfl
  rw[e]
  generalize nameI i.op=nm at*
  generalize Lib.itoa i.car=ic at*
  generalize Lib.itoa i.rack=ik at*
  generalize ndl i.bed i.pos=n1 at*
  generalize ndl (1 - i.bed) i.to=n2 at*
  cases hr:i.right
  all_goals
   repeat' (first|(simp (disch:=first|omega|assumption|exact bd (by with_unfolding_all rfl)|exact Or.inl rfl|(simp only[VVlen]<;>omega)|fail) only[O1,WA,slotsL,opdsA,Nat.reduceEqDiff,Nat.reduceLT,Nat.reduceAdd,Nat.reduceBEq,Int.reduceAdd,Int.reduceSub,Int.reduceLT,Int.reduceLE,Int.reduceEq,Int.reduceNeg,↓reduceIte,reduceCtorEq,List.replicate,c25,insV,hr])|apply gC_drawW|((first|apply gI_dec|apply gG_dec|apply gPG_dec|apply gI_var|apply gG_var|apply gPG_var)<;>intro _))
   refine callV_flat (hn _ rfl) ?_
   repeat' (first|(simp (disch:=first|omega|assumption|exact bd (by with_unfolding_all rfl)|exact Or.inl rfl|(simp only[VVlen]<;>omega)|fail) only[O1,WA,slotsL,opdsA,Nat.reduceEqDiff,Nat.reduceLT,Nat.reduceAdd,Nat.reduceBEq,Int.reduceAdd,Int.reduceSub,Int.reduceLT,Int.reduceLE,Int.reduceEq,Int.reduceNeg,↓reduceIte,reduceCtorEq,List.replicate,cat_l,List.append_assoc])|apply gC_drawW|((first|apply gI_dec|apply gG_dec|apply gPG_dec|apply gI_var|apply gG_var|apply gPG_var)<;>intro _))
   all_goals try (exfalso;omega)
   all_goals refine call0_of (hk1 _ rfl) ?_
   all_goals repeat' (first|(simp (disch:=first|omega|assumption|exact bd (by with_unfolding_all rfl)|exact Or.inl rfl|(simp only[VVlen]<;>omega)|fail) only[O1,WA,slotsL,opdsA,Nat.reduceEqDiff,Nat.reduceLT,Nat.reduceAdd,Nat.reduceBEq,Int.reduceAdd,Int.reduceSub,Int.reduceLT,Int.reduceLE,Int.reduceEq,Int.reduceNeg,↓reduceIte,reduceCtorEq,List.replicate,cat_l,List.append_assoc,hwr])|apply gC_drawW|((first|apply gI_dec|apply gG_dec|apply gPG_dec|apply gI_var|apply gG_var|apply gPG_var)<;>intro _))
   all_goals refine call0_of (hk2 _ rfl) ?_
   all_goals repeat' (first|(simp (disch:=first|omega|assumption|exact bd (by with_unfolding_all rfl)|exact Or.inl rfl|(simp only[VVlen]<;>omega)|fail) only[O1,WA,slotsL,opdsA,Nat.reduceEqDiff,Nat.reduceLT,Nat.reduceAdd,Nat.reduceBEq,Int.reduceAdd,Int.reduceSub,Int.reduceLT,Int.reduceLE,Int.reduceEq,Int.reduceNeg,↓reduceIte,reduceCtorEq,List.replicate,cat_l,List.append_assoc,hwr])|apply gC_drawW|((first|apply gI_dec|apply gG_dec|apply gPG_dec|apply gI_var|apply gG_var|apply gPG_var)<;>intro _))
   all_goals refine call0_of (hcar _ rfl) ?_
   all_goals repeat' (first|(simp (disch:=first|omega|assumption|exact bd (by with_unfolding_all rfl)|exact Or.inl rfl|(simp only[VVlen]<;>omega)|fail) only[O1,WA,slotsL,opdsA,Nat.reduceEqDiff,Nat.reduceLT,Nat.reduceAdd,Nat.reduceBEq,Int.reduceAdd,Int.reduceSub,Int.reduceLT,Int.reduceLE,Int.reduceEq,Int.reduceNeg,↓reduceIte,reduceCtorEq,List.replicate,cat_l,List.append_assoc,hwr])|apply gC_drawW|((first|apply gI_dec|apply gG_dec|apply gPG_dec|apply gI_var|apply gG_var|apply gPG_var)<;>intro _))
   all_goals exact weak_flat rfl h0 rfl
 by_cases h4:i.op=7
 ·have e:textI i=nameI i.op++32::(ndl i.bed i.pos++32::ndl (1 - i.bed) i.to):=by unfold textI;have h:=h4<;>rw[h]<;>rfl
  rw[e]
  generalize nameI i.op=nm at*
  generalize Lib.itoa i.car=ic at*
  generalize Lib.itoa i.rack=ik at*
  generalize ndl i.bed i.pos=n1 at*
  generalize ndl (1 - i.bed) i.to=n2 at*
  cases hr:i.right
  all_goals
   repeat' (first|(simp (disch:=first|omega|assumption|exact bd (by with_unfolding_all rfl)|exact Or.inl rfl|(simp only[VVlen]<;>omega)|fail) only[O1,WA,slotsL,opdsA,Nat.reduceEqDiff,Nat.reduceLT,Nat.reduceAdd,Nat.reduceBEq,Int.reduceAdd,Int.reduceSub,Int.reduceLT,Int.reduceLE,Int.reduceEq,Int.reduceNeg,↓reduceIte,reduceCtorEq,List.replicate,c25,insV,hr])|apply gC_drawW|((first|apply gI_dec|apply gG_dec|apply gPG_dec|apply gI_var|apply gG_var|apply gPG_var)<;>intro _))
   refine callV_flat (hn _ rfl) ?_
   repeat' (first|(simp (disch:=first|omega|assumption|exact bd (by with_unfolding_all rfl)|exact Or.inl rfl|(simp only[VVlen]<;>omega)|fail) only[O1,WA,slotsL,opdsA,Nat.reduceEqDiff,Nat.reduceLT,Nat.reduceAdd,Nat.reduceBEq,Int.reduceAdd,Int.reduceSub,Int.reduceLT,Int.reduceLE,Int.reduceEq,Int.reduceNeg,↓reduceIte,reduceCtorEq,List.replicate,cat_l,List.append_assoc])|apply gC_drawW|((first|apply gI_dec|apply gG_dec|apply gPG_dec|apply gI_var|apply gG_var|apply gPG_var)<;>intro _))
   all_goals try (exfalso;omega)
   all_goals refine call0_of (hk1 _ rfl) ?_
   all_goals repeat' (first|(simp (disch:=first|omega|assumption|exact bd (by with_unfolding_all rfl)|exact Or.inl rfl|(simp only[VVlen]<;>omega)|fail) only[O1,WA,slotsL,opdsA,Nat.reduceEqDiff,Nat.reduceLT,Nat.reduceAdd,Nat.reduceBEq,Int.reduceAdd,Int.reduceSub,Int.reduceLT,Int.reduceLE,Int.reduceEq,Int.reduceNeg,↓reduceIte,reduceCtorEq,List.replicate,cat_l,List.append_assoc,hwr])|apply gC_drawW|((first|apply gI_dec|apply gG_dec|apply gPG_dec|apply gI_var|apply gG_var|apply gPG_var)<;>intro _))
   all_goals refine call0_of (hk2 _ rfl) ?_
   all_goals repeat' (first|(simp (disch:=first|omega|assumption|exact bd (by with_unfolding_all rfl)|exact Or.inl rfl|(simp only[VVlen]<;>omega)|fail) only[O1,WA,slotsL,opdsA,Nat.reduceEqDiff,Nat.reduceLT,Nat.reduceAdd,Nat.reduceBEq,Int.reduceAdd,Int.reduceSub,Int.reduceLT,Int.reduceLE,Int.reduceEq,Int.reduceNeg,↓reduceIte,reduceCtorEq,List.replicate,cat_l,List.append_assoc,hwr])|apply gC_drawW|((first|apply gI_dec|apply gG_dec|apply gPG_dec|apply gI_var|apply gG_var|apply gPG_var)<;>intro _))
   all_goals exact weak_flat rfl h0 rfl
 by_cases h5:i.op=8
 ·have e:textI i=nameI i.op++32::Lib.itoa i.rack:=by unfold textI;have h:=h5<;>rw[h]<;>rfl
  rw[e]
  generalize nameI i.op=nm at*
  generalize Lib.itoa i.car=ic at*
  generalize Lib.itoa i.rack=ik at*
  generalize ndl i.bed i.pos=n1 at*
  generalize ndl (1 - i.bed) i.to=n2 at*
  cases hr:i.right
  all_goals
   repeat' (first|(simp (disch:=first|omega|assumption|exact bd (by with_unfolding_all rfl)|exact Or.inl rfl|(simp only[VVlen]<;>omega)|fail) only[O1,WA,slotsL,opdsA,Nat.reduceEqDiff,Nat.reduceLT,Nat.reduceAdd,Nat.reduceBEq,Int.reduceAdd,Int.reduceSub,Int.reduceLT,Int.reduceLE,Int.reduceEq,Int.reduceNeg,↓reduceIte,reduceCtorEq,List.replicate,c25,insV,hr])|apply gC_drawW|((first|apply gI_dec|apply gG_dec|apply gPG_dec|apply gI_var|apply gG_var|apply gPG_var)<;>intro _))
   refine callV_flat (hn _ rfl) ?_
   repeat' (first|(simp (disch:=first|omega|assumption|exact bd (by with_unfolding_all rfl)|exact Or.inl rfl|(simp only[VVlen]<;>omega)|fail) only[O1,WA,slotsL,opdsA,Nat.reduceEqDiff,Nat.reduceLT,Nat.reduceAdd,Nat.reduceBEq,Int.reduceAdd,Int.reduceSub,Int.reduceLT,Int.reduceLE,Int.reduceEq,Int.reduceNeg,↓reduceIte,reduceCtorEq,List.replicate,cat_l,List.append_assoc])|apply gC_drawW|((first|apply gI_dec|apply gG_dec|apply gPG_dec|apply gI_var|apply gG_var|apply gPG_var)<;>intro _))
   all_goals try (exfalso;omega)
   all_goals refine callV_flat (hrack _ rfl) ?_
   all_goals repeat' (first|(simp (disch:=first|omega|assumption|exact bd (by with_unfolding_all rfl)|exact Or.inl rfl|(simp only[VVlen]<;>omega)|fail) only[O1,WA,slotsL,opdsA,Nat.reduceEqDiff,Nat.reduceLT,Nat.reduceAdd,Nat.reduceBEq,Int.reduceAdd,Int.reduceSub,Int.reduceLT,Int.reduceLE,Int.reduceEq,Int.reduceNeg,↓reduceIte,reduceCtorEq,List.replicate,cat_l,List.append_assoc,hwr])|apply gC_drawW|((first|apply gI_dec|apply gG_dec|apply gPG_dec|apply gI_var|apply gG_var|apply gPG_var)<;>intro _))
   all_goals exact weak_flat rfl h0 rfl
 by_cases h6:i.op=9
 ·have e:textI i=nameI i.op++32::ndl i.bed i.pos:=by unfold textI;have h:=h6<;>rw[h]<;>rfl
  rw[e]
  generalize nameI i.op=nm at*
  generalize Lib.itoa i.car=ic at*
  generalize Lib.itoa i.rack=ik at*
  generalize ndl i.bed i.pos=n1 at*
  generalize ndl (1 - i.bed) i.to=n2 at*
  cases hr:i.right
  all_goals
   repeat' (first|(simp (disch:=first|omega|assumption|exact bd (by with_unfolding_all rfl)|exact Or.inl rfl|(simp only[VVlen]<;>omega)|fail) only[O1,WA,slotsL,opdsA,Nat.reduceEqDiff,Nat.reduceLT,Nat.reduceAdd,Nat.reduceBEq,Int.reduceAdd,Int.reduceSub,Int.reduceLT,Int.reduceLE,Int.reduceEq,Int.reduceNeg,↓reduceIte,reduceCtorEq,List.replicate,c25,insV,hr])|apply gC_drawW|((first|apply gI_dec|apply gG_dec|apply gPG_dec|apply gI_var|apply gG_var|apply gPG_var)<;>intro _))
   refine callV_flat (hn _ rfl) ?_
   repeat' (first|(simp (disch:=first|omega|assumption|exact bd (by with_unfolding_all rfl)|exact Or.inl rfl|(simp only[VVlen]<;>omega)|fail) only[O1,WA,slotsL,opdsA,Nat.reduceEqDiff,Nat.reduceLT,Nat.reduceAdd,Nat.reduceBEq,Int.reduceAdd,Int.reduceSub,Int.reduceLT,Int.reduceLE,Int.reduceEq,Int.reduceNeg,↓reduceIte,reduceCtorEq,List.replicate,cat_l,List.append_assoc])|apply gC_drawW|((first|apply gI_dec|apply gG_dec|apply gPG_dec|apply gI_var|apply gG_var|apply gPG_var)<;>intro _))
   all_goals try (exfalso;omega)
   all_goals refine callV_flat (hk1 _ rfl) ?_
   all_goals repeat' (first|(simp (disch:=first|omega|assumption|exact bd (by with_unfolding_all rfl)|exact Or.inl rfl|(simp only[VVlen]<;>omega)|fail) only[O1,WA,slotsL,opdsA,Nat.reduceEqDiff,Nat.reduceLT,Nat.reduceAdd,Nat.reduceBEq,Int.reduceAdd,Int.reduceSub,Int.reduceLT,Int.reduceLE,Int.reduceEq,Int.reduceNeg,↓reduceIte,reduceCtorEq,List.replicate,cat_l,List.append_assoc,hwr])|apply gC_drawW|((first|apply gI_dec|apply gG_dec|apply gPG_dec|apply gI_var|apply gG_var|apply gPG_var)<;>intro _))
   all_goals exact weak_flat rfl h0 rfl
 exfalso
 unfold InsP at hv
 omega
end
set_option maxHeartbeats 2000000
def numA (l:List UInt8):Option Int:=match Lib.atoiAll l with
 | .ok v=>some v
 |_=>none
theorem numA_ok {l:List UInt8} {v:Int} (h:numA l=some v):Lib.atoiAll l= .ok v:=by
 unfold numA at h
 split at h
 ·rename_i u hu;cases h;exact hu
 ·cases h
theorem numA_none {l:List UInt8} (h:numA l=none) (v:Int):Lib.atoiAll l ≠ .ok v:=by
 intro e
 unfold numA at h
 rw[e] at h
 cases h
theorem numA_itoa {z:Int} (h0: -1000000≤z) (h1:z≤1000000):numA (Lib.itoa z)=some z:=by
 unfold numA
 rw[atoi_itoa' (by omega) (by omega)]
section
variable (w:World) (n:Nat)
theorem atoi_ex (l:List UInt8) (hl:l.length≤1000000) (hes:(errO Tryd.prog w "strconv.ErrSyntax").isSome=true) (her:(errO Tryd.prog w "strconv.ErrRange").isSome=true):
  ∃ z:Int,(∀ z0,numA l=some z0→z=z0)∧((VSpec (EN w (n+1)) 31 [strV l] (.tup [.sc (.int .i64 z),.sc .nilIface]) ⟨[],0,0⟩)∨∃ cs:List Value,VSpec (EN w (n+1)) 31 [strV l] (.tup [.sc (.int .i64 z),.ifc 99 (.ptr 0 0)]) ⟨[(0,.box 112 1 (cs.map V.sc))],1,0⟩):=by
 have hs:(ByteArray.mk l.toArray).size≤281474976710656:=by rw[mk_size];omega
 cases hu:numA l with
 |some v=>exact ⟨v,fun z0 h=>Option.some.inj h,.inl (VSpec.ofO (atoi_s w n ⟨[],0,0⟩ ⟨l.toArray⟩ v hs (numA_ok hu)))⟩
 |none=>
  obtain ⟨k,cs,sp⟩:=atoi_f w n ⟨l.toArray⟩ hs hes her (numA_none hu)
  exact ⟨k,fun z0 h=>(by cases h),.inr ⟨cs,sp⟩⟩
theorem atoi_call {C:Ctx} {st:VSt} {Q:V→VSt→Prop} {l:List UInt8} {z:Int} (hC:C.E=EN w (n+1)) (hz:(VSpec (EN w (n+1)) 31 [strV l] (.tup [.sc (.int .i64 z),.sc .nilIface]) ⟨[],0,0⟩)∨∃ cs:List Value,VSpec (EN w (n+1)) 31 [strV l] (.tup [.sc (.int .i64 z),.ifc 99 (.ptr 0 0)]) ⟨[(0,.box 112 1 (cs.map V.sc))],1,0⟩)
  (h1:Q (.tup [.sc (.int .i64 z),.sc .nilIface]) st) (h2:∀ (o:Nat) (cs:List V),o=st.next→Q (.tup [.sc (.int .i64 z),.ifc 99 (.ptr o 0)]) ⟨(o,.box 112 1 cs)::st.own,st.next+1,st.ro⟩):CallV C 31 [strV l] st Q:=by
 rcases hz with hz|⟨cs,hz⟩
 ·exact callV_fin (by rw[hC];exact hz) rfl rfl (fun _=>rfl) h1
 ·refine callV_of (by rw[hC];exact hz) rfl rfl rfl ?_
  obtain ⟨H,nx,ro⟩:=st
  have:=h2 nx (vshL nx (cs.map V.sc)) rfl
  simp only[vsh,vshL,shH,shO,fzSL,fzS,frozA_none,Nat.add_zero,Nat.zero_add,List.nil_append,List.cons_append] at this ⊢
  exact this
theorem hook_ex (s:List UInt8) (hs:s.length≤1000000) (hes:(errO Tryd.prog w "strconv.ErrSyntax").isSome=true) (her:(errO Tryd.prog w "strconv.ErrRange").isSome=true):
  ∃ (b:Nat) (z:Int),(VSpec (EN w (n+4)) 30 [strV s] (.tup [.sc (.int .u8 b),.sc (.int .i64 z)]) ⟨[],0,0⟩)∧b≤1∧∀ b0 z0,b0≤1→ -1000000≤z0→z0≤1000000→s=ndl b0 z0→b=b0∧z=z0:=by
 by_cases hb:s.head? =some 98
 ·obtain ⟨z,hz1,hz2⟩:=atoi_ex w (n+2) s.tail (by simp;omega) hes her
  refine ⟨1,z,?_,Nat.le_refl _,fun b0 z0 h1 h2 h3 h4=>?_⟩
  ·refine vspec_flat rfl rfl (fun _ _=>rfl) (Nat.le_of_ble_eq_true rfl) (oldVals w) rfl fun C hC h0=>?_
   have e:preC 98 s=(s.tail,true):=if_pos hb
   have hp:=cutPre_p w n s 98 hs
   rw[e] at hp
   simp (disch:=first|omega|assumption|exact bd (by with_unfolding_all rfl)|exact Or.inl rfl|(simp only[VVlen]<;>omega)|fail) only[O1,WA,slotsL,opdsA,Nat.reduceEqDiff,Nat.reduceLT,Nat.reduceAdd,Nat.reduceBEq,Int.reduceAdd,Int.reduceSub,Int.reduceLT,Int.reduceLE,Int.reduceEq,Int.reduceNeg,↓reduceIte,reduceCtorEq,List.replicate,c30]
   refine callV_flat (by rw[hC];exact hp.flat rfl rfl) ?_
   simp (disch:=first|omega|assumption|exact bd (by with_unfolding_all rfl)|exact Or.inl rfl|(simp only[VVlen]<;>omega)|fail) only[O1,WA,slotsL,opdsA,Nat.reduceEqDiff,Nat.reduceLT,Nat.reduceAdd,Nat.reduceBEq,Int.reduceAdd,Int.reduceSub,Int.reduceLT,Int.reduceLE,Int.reduceEq,Int.reduceNeg,↓reduceIte,reduceCtorEq,List.replicate]
   refine atoi_call w (n+2) hC hz2 ?_ (fun o cs ho=>?_)
   all_goals
    repeat' (first|(simp (disch:=first|omega|assumption|exact bd (by with_unfolding_all rfl)|exact Or.inl rfl|(simp only[VVlen]<;>omega)|fail) only[O1,WA,slotsL,opdsA,Nat.reduceEqDiff,Nat.reduceLT,Nat.reduceAdd,Nat.reduceBEq,Int.reduceAdd,Int.reduceSub,Int.reduceLT,Int.reduceLE,Int.reduceEq,Int.reduceNeg,↓reduceIte,reduceCtorEq,List.replicate])|apply gC_drawW|((first|apply gI_dec|apply gG_dec|apply gPG_dec|apply gI_var|apply gG_var|apply gPG_var)<;>intro _))
    exact weak_flat rfl h0 rfl
  ·subst h4
   rcases (by omega:b0=0∨b0=1) with rfl|rfl
   ·exact absurd hb (by simp[ndl])
   ·exact ⟨rfl,hz1 z0 (numA_itoa h2 h3)⟩
 ·obtain ⟨z,hz1,hz2⟩:=atoi_ex w (n+2) (preC 102 s).1 (by unfold preC;split<;>(try simp)<;>omega) hes her
  refine ⟨0,z,?_,by omega,fun b0 z0 h1 h2 h3 h4=>?_⟩
  ·refine vspec_flat rfl rfl (fun _ _=>rfl) (Nat.le_of_ble_eq_true rfl) (oldVals w) rfl fun C hC h0=>?_
   have e:preC 98 s=(s,false):=if_neg hb
   have hp:=cutPre_p w n s 98 hs
   have ht:=trimPre_p w n s 102 hs
   rw[e] at hp
   simp (disch:=first|omega|assumption|exact bd (by with_unfolding_all rfl)|exact Or.inl rfl|(simp only[VVlen]<;>omega)|fail) only[O1,WA,slotsL,opdsA,Nat.reduceEqDiff,Nat.reduceLT,Nat.reduceAdd,Nat.reduceBEq,Int.reduceAdd,Int.reduceSub,Int.reduceLT,Int.reduceLE,Int.reduceEq,Int.reduceNeg,↓reduceIte,reduceCtorEq,List.replicate,c30]
   refine callV_flat (by rw[hC];exact hp.flat rfl rfl) ?_
   simp (disch:=first|omega|assumption|exact bd (by with_unfolding_all rfl)|exact Or.inl rfl|(simp only[VVlen]<;>omega)|fail) only[O1,WA,slotsL,opdsA,Nat.reduceEqDiff,Nat.reduceLT,Nat.reduceAdd,Nat.reduceBEq,Int.reduceAdd,Int.reduceSub,Int.reduceLT,Int.reduceLE,Int.reduceEq,Int.reduceNeg,↓reduceIte,reduceCtorEq,List.replicate]
   refine callV_flat (by rw[hC];exact ht.flat rfl rfl) ?_
   repeat' (first|(simp (disch:=first|omega|assumption|exact bd (by with_unfolding_all rfl)|exact Or.inl rfl|(simp only[VVlen]<;>omega)|fail) only[O1,WA,slotsL,opdsA,Nat.reduceEqDiff,Nat.reduceLT,Nat.reduceAdd,Nat.reduceBEq,Int.reduceAdd,Int.reduceSub,Int.reduceLT,Int.reduceLE,Int.reduceEq,Int.reduceNeg,↓reduceIte,reduceCtorEq,List.replicate])|apply gC_drawW|((first|apply gI_dec|apply gG_dec|apply gPG_dec|apply gI_var|apply gG_var|apply gPG_var)<;>intro _))
   refine atoi_call w (n+2) hC hz2 ?_ (fun o cs ho=>?_)
   all_goals
    repeat' (first|(simp (disch:=first|omega|assumption|exact bd (by with_unfolding_all rfl)|exact Or.inl rfl|(simp only[VVlen]<;>omega)|fail) only[O1,WA,slotsL,opdsA,Nat.reduceEqDiff,Nat.reduceLT,Nat.reduceAdd,Nat.reduceBEq,Int.reduceAdd,Int.reduceSub,Int.reduceLT,Int.reduceLE,Int.reduceEq,Int.reduceNeg,↓reduceIte,reduceCtorEq,List.replicate])|apply gC_drawW|((first|apply gI_dec|apply gG_dec|apply gPG_dec|apply gI_var|apply gG_var|apply gPG_var)<;>intro _))
    exact weak_flat rfl h0 rfl
  ·subst h4
   rcases (by omega:b0=0∨b0=1) with rfl|rfl
   ·refine ⟨rfl,hz1 z0 ?_⟩
    have:(preC 102 (ndl 0 z0)).1=Lib.itoa z0:=by unfold ndl preC;simp
    rw[this]
    exact numA_itoa h2 h3
   ·exact absurd rfl hb
end
theorem dig_val {b:UInt8} (h:isDig b=true):Lib.digitVal b=some (b.toNat - 48):=by
 simp only[isDig,Bool.and_eq_true,decide_eq_true_eq] at h
 unfold Lib.digitVal
 rw[if_pos h]
def num4 (l:List UInt8):Option Int:=if l ≠ []∧l.length≤4∧(1<l.length→l[0]! ≠ 48)∧l.all isDig=true then some (((Lib.decFrom 0 l).getD 0:Nat):Int) else none
section
variable (w:World) (n:Nat)
def num4V (r:Option Int):V:= .tup [.sc (.int .i64 (r.getD 0)),.sc (.bool r.isSome)]
theorem num25_p (l:List UInt8) (hl:l.length≤1000000):VSpec (EN w (n+1)) 56 [strV l] (num4V (num4 l)) ⟨[],0,0⟩:=by
 refine vspec_flat rfl rfl (fun _ _=>rfl) (Nat.le_of_ble_eq_true rfl) (oldVals w) (by cases num4 l<;>rfl) fun C hC h0=>?_
 have hsz:=mk_size l
 have no:¬ (l ≠ []∧l.length≤4∧(1<l.length→l[0]! ≠ 48)∧l.all isDig=true)→num4 l=none:=fun h=>by unfold num4;rw[if_neg h]
 by_cases h1:l.length=0∨4<l.length
 ·rw[no (fun h=>by
   have:=List.length_pos_iff.2 h.1
   omega)]
  repeat' (first|(simp (disch:=first|omega|assumption|exact bd (by with_unfolding_all rfl)|exact Or.inl rfl|(simp only[VVlen]<;>omega)|fail) only[O1,WA,slotsL,opdsA,Nat.reduceEqDiff,Nat.reduceLT,Nat.reduceAdd,Nat.reduceBEq,Int.reduceAdd,Int.reduceSub,Int.reduceLT,Int.reduceLE,Int.reduceEq,Int.reduceNeg,↓reduceIte,reduceCtorEq,List.replicate,c56,num4V])|apply gC_drawW|((first|apply gI_dec|apply gG_dec|apply gPG_dec|apply gI_var|apply gG_var|apply gPG_var)<;>intro _))
  all_goals try (exfalso;omega)
  all_goals exact weak_flat rfl h0 rfl
 have hb0:=idxStr_l l .i64 (0:Nat) (by omega) (by omega)
 have hx48:((l[0]!.toNat:Nat):Int)=48↔l[0]! =48:=by
  constructor
  ·intro h;apply UInt8.toNat_inj.1;rw[show (48:UInt8).toNat=48 by rfl];omega
  ·intro h;rw[h];rfl
 rw[Int.toNat_natCast] at hb0
 simp only[Int.natCast_zero] at hb0
 by_cases h2:1<l.length∧l[0]! =48
 ·rw[no (fun h=>h.2.2.1 h2.1 h2.2)]
  have h3:=hx48.2 h2.2
  generalize l[0]!.toNat=B at*
  simp (disch:=first|omega|assumption|exact bd (by with_unfolding_all rfl)|exact Or.inl rfl|(simp only[VVlen]<;>omega)|fail) only[O1,WA,slotsL,opdsA,Nat.reduceEqDiff,Nat.reduceLT,Nat.reduceAdd,Nat.reduceBEq,Int.reduceAdd,Int.reduceSub,Int.reduceLT,Int.reduceLE,Int.reduceEq,Int.reduceNeg,↓reduceIte,reduceCtorEq,List.replicate,c56,num4V,hb0]
  all_goals try (exfalso;omega)
  all_goals exact weak_flat rfl h0 rfl
 have h3:1<l.length→¬ ((l[0]!.toNat:Nat):Int)=48:=fun h hh=>h2 ⟨h,hx48.1 hh⟩
 have h3:¬ 1<l.length∨¬ ((l[0]!.toNat:Nat):Int)=48:=by
  by_cases h:1<l.length
  ·exact .inr (h3 h)
  ·exact .inl h
 have hR:l.all isDig=true→num4 l=some (((Lib.decFrom 0 l).getD 0:Nat):Int):=fun h=>by
  unfold num4
  rw[if_pos ⟨List.length_pos_iff.1 (by omega),by omega,fun h5=>fun h6=>h2 ⟨h5,h6⟩,h⟩]
 generalize l[0]!.toNat=B at hb0 h3
 repeat' (first|(simp (disch:=first|omega|assumption|exact bd (by with_unfolding_all rfl)|exact Or.inl rfl|(simp only[VVlen]<;>omega)|fail) only[O1,WA,slotsL,opdsA,Nat.reduceEqDiff,Nat.reduceLT,Nat.reduceAdd,Nat.reduceBEq,Int.reduceAdd,Int.reduceSub,Int.reduceLT,Int.reduceLE,Int.reduceEq,Int.reduceNeg,↓reduceIte,reduceCtorEq,List.replicate,c56,hb0])|apply gC_drawW|((first|apply gI_dec|apply gG_dec|apply gPG_dec|apply gI_var|apply gG_var|apply gPG_var)<;>intro _))
 all_goals try (exfalso;omega)
 all_goals
  refine g_while (fun m fr st=>∃ k u:Nat,m=l.length - k∧k≤l.length∧u<10 ^ k∧(∀ j,j<k→isDig l[j]! =true)∧Lib.decFrom 0 (l.take k)=some u∧fr= [(0,strV l),(4,.sc (.int .i64 u)),(5,.sc (.int .i64 k))]∧st=⟨[],0,0⟩) l.length ?_ ⟨_,_,.refl _ _,0,0,?_⟩ ?_
  ·rw[hC,callP_rounds];unfold many;omega
  ·exact ⟨by omega,by omega,by decide,(fun j hj=>absurd hj (Nat.not_lt_zero _)),rfl,rfl,rfl⟩
  rintro m fr st ⟨k,u,rfl,hk,hu,hd,hf,rfl,rfl⟩
  have hu9:u<10000:=Nat.lt_of_lt_of_le hu (by have:=Nat.pow_le_pow_right (show 1≤10 by omega) (show k≤4 by omega);simpa using this)
  by_cases hlt:k<l.length
  ·have hb:=idxStr_l l .i64 k (by omega) (by omega)
   rw[Int.toNat_natCast] at hb
   by_cases hdg:isDig l[k]! =true
   ·have hdg1:=hdg
    have hv:=dig_val hdg
    have hstep:=Lib.decFrom_take l k 0 u l[k]! _ hf (by rw[List.getElem?_eq_getElem hlt,getElem!_pos l k hlt]) hv
    have hnx:=lt_succ_cases hd hdg
    simp only[isDig,Bool.and_eq_true,decide_eq_true_eq] at hdg1
    generalize l[k]!.toNat=b at hb hstep hdg1
    have e1:IntKind.u8.wrap ((b:Int) - 48)=((b - 48:Nat):Int):=by rw[wrap_u8 _ (by omega) (by omega)];omega
    repeat' (first|(simp (disch:=first|omega|assumption|exact bd (by with_unfolding_all rfl)|exact Or.inl rfl|(simp only[VVlen]<;>omega)|fail) only[O1,WA,slotsL,opdsA,Nat.reduceEqDiff,Nat.reduceLT,Nat.reduceAdd,Nat.reduceBEq,Int.reduceAdd,Int.reduceSub,Int.reduceLT,Int.reduceLE,Int.reduceEq,Int.reduceNeg,↓reduceIte,reduceCtorEq,List.replicate,c56l0,hb,e1])|apply gC_drawW|((first|apply gI_dec|apply gG_dec|apply gPG_dec|apply gI_var|apply gG_var|apply gPG_var)<;>intro _))
    all_goals try (exfalso;omega)
    refine ⟨_,_,_,by omega,.refl _ _,k+1,u*10+(b - 48),rfl,hlt,?_,hnx,hstep,?_,rfl⟩
    ·rw[Nat.pow_succ];omega
    ·have:(10:Int)*u+((b - 48:Nat):Int)=((u*10+(b - 48):Nat):Int):=by omega
     rw[this];simp
   ·have e:num4 l=none:=no fun h=>hdg (List.all_eq_true.1 h.2.2.2 l[k]! (by rw[getElem!_pos l k hlt];exact List.getElem_mem hlt))
    rw[e]
    have hdg2:¬ (48≤l[k]!.toNat∧l[k]!.toNat≤57):=fun h=>hdg (by simp only[isDig,Bool.and_eq_true,decide_eq_true_eq];exact h)
    generalize l[k]!.toNat=b at hb hdg2
    repeat' (first|(simp (disch:=first|omega|assumption|exact bd (by with_unfolding_all rfl)|exact Or.inl rfl|(simp only[VVlen]<;>omega)|fail) only[O1,WA,slotsL,opdsA,Nat.reduceEqDiff,Nat.reduceLT,Nat.reduceAdd,Nat.reduceBEq,Int.reduceAdd,Int.reduceSub,Int.reduceLT,Int.reduceLE,Int.reduceEq,Int.reduceNeg,↓reduceIte,reduceCtorEq,List.replicate,c56l0,hb,num4V])|apply gC_drawW|((first|apply gI_dec|apply gG_dec|apply gPG_dec|apply gI_var|apply gG_var|apply gPG_var)<;>intro _))
    all_goals try (exfalso;omega)
    all_goals exact weak_flat rfl h0 rfl
  ·have:k=l.length:=by omega
   subst this
   rw[List.take_length] at hf
   have hall:l.all isDig=true:=List.all_eq_true.2 fun c hc=>by
    obtain ⟨i,hi,rfl⟩:=List.getElem_of_mem hc
    have:=hd i hi
    rw[getElem!_pos l i hi] at this
    exact this
   rw[hR hall,hf]
   repeat' (first|(simp (disch:=first|omega|assumption|exact bd (by with_unfolding_all rfl)|exact Or.inl rfl|(simp only[VVlen]<;>omega)|fail) only[O1,WA,slotsL,opdsA,Nat.reduceEqDiff,Nat.reduceLT,Nat.reduceAdd,Nat.reduceBEq,Int.reduceAdd,Int.reduceSub,Int.reduceLT,Int.reduceLE,Int.reduceEq,Int.reduceNeg,↓reduceIte,reduceCtorEq,List.replicate,c56l0,num4V,Option.getD])|apply gC_drawW|((first|apply gI_dec|apply gG_dec|apply gPG_dec|apply gI_var|apply gG_var|apply gPG_var)<;>intro _))
   exact weak_flat rfl h0 rfl
theorem cutF_p (l:List UInt8) (c:UInt8) (hl:l.length≤1000000):VSpec (EN w (n+1)) 32 [strV l,.sc (.int .u8 c.toNat)] (.sl 2 (words c l).length ((words c l).map sD)) ⟨[],0,0⟩:=by
 refine (rcut_p w n l c hl).fin ?_ rfl rfl rfl (fun h=>by cases h)
 exact snap_grD rfl (by simp)
end
theorem dd_head:∀ (n u:Nat),u≤n→0<u→(Lib.decDigits u)[0]! ≠ 48
 |0,u,h,h2=>by omega
 |n+1,u,h,h2=>by
  rw[Lib.decDigits]
  split
  ·rename_i h3
   show UInt8.ofNat (48+u) ≠ 48
   intro e
   have:=congrArg UInt8.toNat e
   rw[UInt8.toNat_ofNat'] at this
   have e2:(48:UInt8).toNat=48:=rfl
   rw[e2] at this
   omega
  ·rename_i h3
   have ih:=dd_head n (u / 10) (by omega) (by omega)
   have hne:=decDigits_ne (u / 10)
   obtain ⟨a,r,hr⟩:∃ a r,Lib.decDigits (u / 10)=a::r:=by
    cases h4:Lib.decDigits (u / 10) with
    |nil=>exact absurd h4 hne
    |cons a r=>exact ⟨a,r,rfl⟩
   rw[hr] at ih ⊢
   exact ih
theorem num4_dec (u:Nat) (h:u<10000):num4 (Lib.decDigits u)=some (u:Int):=by
 have hd:∀ c ∈ Lib.decDigits u,isDig c=true:=digits_dig u u (Nat.le_refl _)
 have h1:=decDigits_len 3 u (by omega)
 have h2:=decDigits_ne u
 have h3:=decFrom_digits u u (Nat.le_refl _)
 have h4:1<(Lib.decDigits u).length→(Lib.decDigits u)[0]! ≠ 48:=fun hl=>by
  refine dd_head u u (Nat.le_refl _) (Nat.pos_of_ne_zero fun h0=>?_)
  subst h0
  rw[Lib.decDigits,dif_pos (by omega)] at hl
  simp at hl
 unfold num4
 rw[if_pos ⟨h2,h1,h4,List.all_eq_true.2 hd⟩,h3]
 rfl
section
variable (w:World) (n:Nat)
theorem rnum_ex (s:List UInt8) (hs:s.length≤1000000):∃ (z:Int) (f:Bool),(VSpec (EN w (n+2)) 35 [strV s] (.tup [.sc (.int .i64 z),.sc (.bool f)]) ⟨[],0,0⟩)∧∀ z0,-1000≤z0→z0≤1000→s=Lib.itoa z0→z=z0:=by
 have hsz:=mk_size s
 cases s with
 |nil=>
  have hn:=num25_p w n [] (by simp)
  refine ⟨(num4 []).getD 0,(num4 []).isSome,?_,fun z0 _ _ h=>absurd h.symm itoa_ne⟩
  refine vspec_flat rfl rfl (fun _ _=>rfl) (Nat.le_of_ble_eq_true rfl) (oldVals w) rfl fun C hC h0=>?_
  have h0':(ByteArray.mk ([]:List UInt8).toArray).size=0:=rfl
  unfold num4V at hn
  simp (disch:=first|omega|assumption|exact bd (by with_unfolding_all rfl)|exact Or.inl rfl|(simp only[VVlen]<;>omega)|fail) only[O1,WA,slotsL,opdsA,Nat.reduceEqDiff,Nat.reduceLT,Nat.reduceAdd,Nat.reduceBEq,Int.reduceAdd,Int.reduceSub,Int.reduceLT,Int.reduceLE,Int.reduceEq,Int.reduceNeg,↓reduceIte,reduceCtorEq,List.replicate,c35]
  all_goals try (exfalso;omega)
  all_goals refine callV_flat (by rw[hC];exact hn.flat rfl rfl) ?_
  all_goals
   simp (disch:=first|omega|assumption|exact bd (by with_unfolding_all rfl)|exact Or.inl rfl|(simp only[VVlen]<;>omega)|fail) only[O1,WA,slotsL,opdsA,Nat.reduceEqDiff,Nat.reduceLT,Nat.reduceAdd,Nat.reduceBEq,Int.reduceAdd,Int.reduceSub,Int.reduceLT,Int.reduceLE,Int.reduceEq,Int.reduceNeg,↓reduceIte,reduceCtorEq,List.replicate]
   exact weak_flat rfl h0 rfl
 |cons b r=>
  have hz:(b::r).length=r.length+1:=rfl
  have hb0:=idxStr_l (b::r) .i64 (0:Nat) (by omega) (by omega)
  rw[Int.toNat_natCast,show (b::r)[0]! =b from rfl] at hb0
  simp only[Int.natCast_zero] at hb0
  have h45:((b.toNat:Nat):Int)=45↔b=45:=by
   constructor
   ·intro h;apply UInt8.toNat_inj.1;rw[show (45:UInt8).toNat=45 by rfl];omega
   ·intro h;rw[h];rfl
  by_cases hb:b=45
  ·have hn:=num25_p w n r (by omega)
   have e1:=slcS_lo (b::r) .i64 1 (by omega) (by omega)
   rw[show (1:Int).toNat=1 from rfl,show (b::r).drop 1=r from rfl] at e1
   have hneg:IntKind.i64.wrap (0 - (num4 r).getD 0)= -(num4 r).getD 0∨True:= .inr trivial
   refine ⟨IntKind.i64.wrap (0 - (num4 r).getD 0),(num4 r).isSome && decide (0<(num4 r).getD 0),?_,fun z0 h1 h2 h=>?_⟩
   ·refine vspec_flat rfl rfl (fun _ _=>rfl) (Nat.le_of_ble_eq_true rfl) (oldVals w) rfl fun C hC h0=>?_
    have h45:=h45.2 hb
    generalize b.toNat=B at*
    unfold num4V at hn
    simp (disch:=first|omega|assumption|exact bd (by with_unfolding_all rfl)|exact Or.inl rfl|(simp only[VVlen]<;>omega)|fail) only[O1,WA,slotsL,opdsA,Nat.reduceEqDiff,Nat.reduceLT,Nat.reduceAdd,Nat.reduceBEq,Int.reduceAdd,Int.reduceSub,Int.reduceLT,Int.reduceLE,Int.reduceEq,Int.reduceNeg,↓reduceIte,reduceCtorEq,List.replicate,c35,hb0,e1]
    all_goals try (exfalso;omega)
    refine callV_flat (by rw[hC];exact hn.flat rfl rfl) ?_
    cases hu:(num4 r).isSome
    ·simp (disch:=first|omega|assumption|exact bd (by with_unfolding_all rfl)|exact Or.inl rfl|(simp only[VVlen]<;>omega)|fail) only[O1,WA,slotsL,opdsA,Nat.reduceEqDiff,Nat.reduceLT,Nat.reduceAdd,Nat.reduceBEq,Int.reduceAdd,Int.reduceSub,Int.reduceLT,Int.reduceLE,Int.reduceEq,Int.reduceNeg,↓reduceIte,reduceCtorEq,List.replicate,hu,e1]
     all_goals exact weak_flat rfl h0 rfl
    ·simp (disch:=first|omega|assumption|exact bd (by with_unfolding_all rfl)|exact Or.inl rfl|(simp only[VVlen]<;>omega)|fail) only[O1,WA,slotsL,opdsA,Nat.reduceEqDiff,Nat.reduceLT,Nat.reduceAdd,Nat.reduceBEq,Int.reduceAdd,Int.reduceSub,Int.reduceLT,Int.reduceLE,Int.reduceEq,Int.reduceNeg,↓reduceIte,reduceCtorEq,List.replicate,hu,e1]
     all_goals exact weak_flat rfl h0 rfl
   ·rcases Int.lt_or_le z0 0 with hz0|hz0
    ·have e:Lib.itoa z0=45::Lib.decDigits z0.natAbs:=by unfold Lib.itoa;rw[if_pos hz0]
     rw[e] at h
     rw[(List.cons.inj h).2,num4_dec _ (by omega),Option.getD_some,wrap64 _ (by omega) (by omega)]
     omega
    ·have:=itoa_dig hz0 b (by rw[← h];simp)
     rw[hb] at this
     exact absurd this (by decide)
  ·have hn:=num25_p w n (b::r) hs
   refine ⟨(num4 (b::r)).getD 0,(num4 (b::r)).isSome,?_,fun z0 h1 h2 h=>?_⟩
   ·refine vspec_flat rfl rfl (fun _ _=>rfl) (Nat.le_of_ble_eq_true rfl) (oldVals w) rfl fun C hC h0=>?_
    have h45:=mt h45.1 hb
    generalize b.toNat=B at*
    unfold num4V at hn
    simp (disch:=first|omega|assumption|exact bd (by with_unfolding_all rfl)|exact Or.inl rfl|(simp only[VVlen]<;>omega)|fail) only[O1,WA,slotsL,opdsA,Nat.reduceEqDiff,Nat.reduceLT,Nat.reduceAdd,Nat.reduceBEq,Int.reduceAdd,Int.reduceSub,Int.reduceLT,Int.reduceLE,Int.reduceEq,Int.reduceNeg,↓reduceIte,reduceCtorEq,List.replicate,c35,hb0]
    all_goals try (exfalso;omega)
    all_goals refine callV_flat (by rw[hC];exact hn.flat rfl rfl) ?_
    all_goals
     simp (disch:=first|omega|assumption|exact bd (by with_unfolding_all rfl)|exact Or.inl rfl|(simp only[VVlen]<;>omega)|fail) only[O1,WA,slotsL,opdsA,Nat.reduceEqDiff,Nat.reduceLT,Nat.reduceAdd,Nat.reduceBEq,Int.reduceAdd,Int.reduceSub,Int.reduceLT,Int.reduceLE,Int.reduceEq,Int.reduceNeg,↓reduceIte,reduceCtorEq,List.replicate]
     exact weak_flat rfl h0 rfl
   ·rcases Int.lt_or_le z0 0 with hz0|hz0
    ·have e:Lib.itoa z0=45::Lib.decDigits z0.natAbs:=by unfold Lib.itoa;rw[if_pos hz0]
     rw[e] at h
     exact absurd (List.cons.inj h).1 hb
    ·obtain ⟨u,rfl⟩:=Int.eq_ofNat_of_zero_le hz0
     rw[h,Lib.itoa_nonneg,num4_dec _ (by omega)]
     rfl
theorem rneedle_ex (s:List UInt8) (hs:s.length≤1000000):∃ (b:Nat) (z:Int) (f:Bool),(VSpec (EN w (n+3)) 34 [strV s] (.tup [.sc (.int .u8 b),.sc (.int .i64 z),.sc (.bool f)]) ⟨[],0,0⟩)∧∀ b0 z0,b0≤1→ -1000≤z0→z0≤1000→s=ndl b0 z0→b=b0∧z=z0:=by
 have hsz:=mk_size s
 have bad:∀ {b0:Nat} {z0:Int},s=ndl b0 z0→2≤s.length∧(s[0]! =98∧b0=1∨s[0]! =102∧b0 ≠ 1)∧s.drop 1=Lib.itoa z0:=fun {b0 z0} h=>by
  have:=List.length_pos_iff.2 (itoa_ne (z:=z0))
  rw[h]
  unfold ndl
  refine ⟨by simp;omega,?_,rfl⟩
  by_cases hb:b0=1
  ·rw[if_pos hb];exact .inl ⟨rfl,hb⟩
  ·rw[if_neg hb];exact .inr ⟨rfl,hb⟩
 by_cases hl:s.length<2
 ·refine ⟨0,0,false,?_,fun b0 z0 _ _ _ h=>by have:=(bad h).1;omega⟩
  refine vspec_flat rfl rfl (fun _ _=>rfl) (Nat.le_of_ble_eq_true rfl) (oldVals w) rfl fun C hC h0=>?_
  simp (disch:=first|omega|assumption|exact bd (by with_unfolding_all rfl)|exact Or.inl rfl|(simp only[VVlen]<;>omega)|fail) only[O1,WA,slotsL,opdsA,Nat.reduceEqDiff,Nat.reduceLT,Nat.reduceAdd,Nat.reduceBEq,Int.reduceAdd,Int.reduceSub,Int.reduceLT,Int.reduceLE,Int.reduceEq,Int.reduceNeg,↓reduceIte,reduceCtorEq,List.replicate,c34]
  all_goals try (exfalso;omega)
  exact weak_flat rfl h0 rfl
 have hb0:=idxStr_l s .i64 (0:Nat) (by omega) (by omega)
 rw[Int.toNat_natCast] at hb0
 simp only[Int.natCast_zero] at hb0
 have hc:∀ c:UInt8,(((s[0]!).toNat:Nat):Int)=((c.toNat:Nat):Int)↔s[0]! =c:=fun c=>by
  constructor
  ·intro h;apply UInt8.toNat_inj.1;omega
  ·intro h;rw[h]
 have h98:=hc 98
 have h102:=hc 102
 rw[show (((98:UInt8).toNat:Nat):Int)=98 from rfl] at h98
 rw[show (((102:UInt8).toNat:Nat):Int)=102 from rfl] at h102
 have e1:=slcS_lo s .i64 1 (by omega) (by omega)
 rw[show (1:Int).toNat=1 from rfl] at e1
 by_cases h2:s[0]! =102∨s[0]! =98
 case neg=>
  refine ⟨0,0,false,?_,fun b0 z0 _ _ _ h=>?_⟩
  ·refine vspec_flat rfl rfl (fun _ _=>rfl) (Nat.le_of_ble_eq_true rfl) (oldVals w) rfl fun C hC h0=>?_
   have n1:=mt h98.1 (fun h=>h2 (.inr h))
   have n2:=mt h102.1 (fun h=>h2 (.inl h))
   generalize (s[0]!).toNat=B at*
   simp (disch:=first|omega|assumption|exact bd (by with_unfolding_all rfl)|exact Or.inl rfl|(simp only[VVlen]<;>omega)|fail) only[O1,WA,slotsL,opdsA,Nat.reduceEqDiff,Nat.reduceLT,Nat.reduceAdd,Nat.reduceBEq,Int.reduceAdd,Int.reduceSub,Int.reduceLT,Int.reduceLE,Int.reduceEq,Int.reduceNeg,↓reduceIte,reduceCtorEq,List.replicate,c34,hb0]
   all_goals try (exfalso;omega)
   all_goals exact weak_flat rfl h0 rfl
  ·rcases (bad h).2.1 with h3|h3
   ·exact absurd (.inr h3.1) h2
   ·exact absurd (.inl h3.1) h2
 obtain ⟨z,f,hn,hz⟩:=rnum_ex w n (s.drop 1) (by simp;omega)
 by_cases h3:s[0]! =98
 ·refine ⟨1,z,f,?_,fun b0 z0 h4 h5 h6 h=>?_⟩
  ·refine vspec_flat rfl rfl (fun _ _=>rfl) (Nat.le_of_ble_eq_true rfl) (oldVals w) rfl fun C hC h0=>?_
   have n1:=h98.2 h3
   generalize (s[0]!).toNat=B at*
   simp (disch:=first|omega|assumption|exact bd (by with_unfolding_all rfl)|exact Or.inl rfl|(simp only[VVlen]<;>omega)|fail) only[O1,WA,slotsL,opdsA,Nat.reduceEqDiff,Nat.reduceLT,Nat.reduceAdd,Nat.reduceBEq,Int.reduceAdd,Int.reduceSub,Int.reduceLT,Int.reduceLE,Int.reduceEq,Int.reduceNeg,↓reduceIte,reduceCtorEq,List.replicate,c34,hb0,e1]
   all_goals try (exfalso;omega)
   refine callV_flat (by rw[hC];exact hn.flat rfl rfl) ?_
   simp (disch:=first|omega|assumption|exact bd (by with_unfolding_all rfl)|exact Or.inl rfl|(simp only[VVlen]<;>omega)|fail) only[O1,WA,slotsL,opdsA,Nat.reduceEqDiff,Nat.reduceLT,Nat.reduceAdd,Nat.reduceBEq,Int.reduceAdd,Int.reduceSub,Int.reduceLT,Int.reduceLE,Int.reduceEq,Int.reduceNeg,↓reduceIte,reduceCtorEq,List.replicate,hb0]
   all_goals try (exfalso;omega)
   exact weak_flat rfl h0 rfl
  ·obtain ⟨_,h7,h8⟩:=bad h
   refine ⟨?_,hz z0 h5 h6 h8⟩
   rcases h7 with h7|h7
   ·exact h7.2.symm
   ·rw[h3] at h7;exact absurd h7.1 (by decide)
 ·refine ⟨0,z,f,?_,fun b0 z0 h4 h5 h6 h=>?_⟩
  ·refine vspec_flat rfl rfl (fun _ _=>rfl) (Nat.le_of_ble_eq_true rfl) (oldVals w) rfl fun C hC h0=>?_
   have n1:=mt h98.1 h3
   have n2:=h102.2 (h2.resolve_right h3)
   generalize (s[0]!).toNat=B at*
   simp (disch:=first|omega|assumption|exact bd (by with_unfolding_all rfl)|exact Or.inl rfl|(simp only[VVlen]<;>omega)|fail) only[O1,WA,slotsL,opdsA,Nat.reduceEqDiff,Nat.reduceLT,Nat.reduceAdd,Nat.reduceBEq,Int.reduceAdd,Int.reduceSub,Int.reduceLT,Int.reduceLE,Int.reduceEq,Int.reduceNeg,↓reduceIte,reduceCtorEq,List.replicate,c34,hb0,e1]
   all_goals try (exfalso;omega)
   refine callV_flat (by rw[hC];exact hn.flat rfl rfl) ?_
   simp (disch:=first|omega|assumption|exact bd (by with_unfolding_all rfl)|exact Or.inl rfl|(simp only[VVlen]<;>omega)|fail) only[O1,WA,slotsL,opdsA,Nat.reduceEqDiff,Nat.reduceLT,Nat.reduceAdd,Nat.reduceBEq,Int.reduceAdd,Int.reduceSub,Int.reduceLT,Int.reduceLE,Int.reduceEq,Int.reduceNeg,↓reduceIte,reduceCtorEq,List.replicate,hb0]
   all_goals try (exfalso;omega)
   exact weak_flat rfl h0 rfl
  ·obtain ⟨_,h7,h8⟩:=bad h
   refine ⟨?_,hz z0 h5 h6 h8⟩
   rcases h7 with h7|h7
   ·exact absurd h7.1 h3
   ·omega
end
def idxN (nm:List UInt8):Nat→Int
 |0=> -1
 |k+1=>if 0≤idxN nm k then idxN nm k else if nameI k=nm then k else -1
theorem idxN_none {nm:List UInt8}:∀ k,(∀ j,j<k→nameI j ≠ nm)→idxN nm k= -1
 |0,_=>rfl
 |k+1,h=>by rw[idxN,idxN_none k (fun j hj=>h j (by omega)),if_neg (by omega),if_neg (h k (by omega))]
theorem idxN_at {nm:List UInt8} {i:Nat} (hi:nameI i=nm) (h:∀ j,j<i→nameI j ≠ nm):∀ k,i<k→idxN nm k=i
 |0,hk=>by omega
 |k+1,hk=>by
  rw[idxN]
  by_cases e:i=k
  ·subst e;rw[idxN_none i h,if_neg (by omega),if_pos hi]
  ·rw[idxN_at hi h k (by omega),if_pos (by omega)]
theorem idxN_range (nm:List UInt8):∀ k,-1≤idxN nm k∧idxN nm k<k
 |0=>by simp[idxN]
 |k+1=>by
  have:=idxN_range nm k
  rw[idxN]
  split
  ·omega
  ·split<;>omega
theorem idxN_name {op:Nat} (h0:0<op) (h1:op<10):idxN (nameI op) 10=op:=idxN_at rfl (fun j hj e=>by
  rcases Nat.eq_zero_or_pos j with h|h
  ·subst h;exact nameI_ne op h1 h0 e.symm
  ·have:=nameI_inj j (by omega) op h1 h h0 e
   omega) 10 h1
section
variable (w:World) (n:Nat)
theorem readf_o (st:VSt) (b e:Nat) (nm a c:List UInt8) (hb:aget st.own b=some (.box 9 e [strV nm])) (hn:b ≠ st.next):VSpecO (EN w (n+1)) 29 st [.agg [strV a,strV c],.ptr b 0] (.sc (.bool (decide (a=nm)))):=by
 refine vspecO_g rfl rfl (fun _ _=>rfl) (Nat.le_of_ble_eq_true rfl) rfl fun C hC h0=>⟨⟨(st.next,.box 59 1 [strV a,strV c])::st.own,st.next+1,st.next⟩,?_⟩
 simp (disch:=first|omega|assumption|exact bd (by with_unfolding_all rfl)|exact Or.inl rfl|(simp only[VVlen]<;>omega)|fail) only[O1,WA,slotsL,opdsA,Nat.reduceEqDiff,Nat.reduceLT,Nat.reduceAdd,Nat.reduceBEq,Int.reduceAdd,Int.reduceSub,Int.reduceLT,Int.reduceLE,Int.reduceEq,Int.reduceNeg,↓reduceIte,reduceCtorEq,List.replicate,c29,frozA_none,hn,hb,mk_inj]
 exact .refl _ _
theorem indexFunc_o (st:VSt) (b o e:Nat) (nm:List UInt8) (hb:aget st.own b=some (.box 9 e [strV nm])) (hn:b ≠ st.next) (ho:aget st.own o=some (.row 59 2 false false wordsD)):
  VSpecO (EN w (n+2)) 27 st [.ref o 0 10 10,.fn 29 [] [.ptr b 0]] (.sc (.int .i64 (idxN nm 10))):=by
 refine vspecO_g rfl rfl (fun _ _=>rfl) (Nat.le_of_ble_eq_true rfl) rfl fun C hC h0=>⟨⟨st.own,st.next,st.next⟩,?_⟩
 simp (disch:=first|omega|assumption|exact bd (by with_unfolding_all rfl)|exact Or.inl rfl|(simp only[VVlen]<;>omega)|fail) only[O1,WA,slotsL,opdsA,Nat.reduceEqDiff,Nat.reduceLT,Nat.reduceAdd,Nat.reduceBEq,Int.reduceAdd,Int.reduceSub,Int.reduceLT,Int.reduceLE,Int.reduceEq,Int.reduceNeg,↓reduceIte,reduceCtorEq,List.replicate,c27]
 refine g_while (fun m fr st'=>∃ k:Nat,m=10 - k∧k≤10∧(∀ j,j<k→nameI j ≠ nm)∧fr= [(0,.ref o 0 10 10),(1,.fn 29 [] [.ptr b 0]),(7,.sc (.int .i64 ((10:Nat):Int))),(8,.sc (.int .i64 k))]∧st'=⟨st.own,st.next,st.next⟩) 10 ?_ ⟨_,_,.refl _ _,0,rfl,by omega,fun j hj=>absurd hj (Nat.not_lt_zero _),rfl,rfl⟩ ?_
 ·rw[hC,callP_rounds];unfold many;omega
 rintro m fr st' ⟨k,rfl,hk,hj,rfl,rfl⟩
 have h10:((10:Nat):Int)=10:=rfl
 by_cases hlt:k<10
 ·have hwo:=wordsD_at hlt
  have hf:=readf_o w n ⟨st.own,st.next,st.next⟩ b e nm (nameI k) (partsI k) hb hn
  by_cases hx:nameI k=nm
  ·rw[decide_eq_true hx] at hf
   rw[idxN_at hx hj 10 hlt]
   simp (disch:=first|omega|assumption|exact bd (by with_unfolding_all rfl)|exact Or.inl rfl|(simp only[VVlen]<;>omega)|fail) only[O1,WA,slotsL,opdsA,Nat.reduceEqDiff,Nat.reduceLT,Nat.reduceAdd,Nat.reduceBEq,Int.reduceAdd,Int.reduceSub,Int.reduceLT,Int.reduceLE,Int.reduceEq,Int.reduceNeg,↓reduceIte,reduceCtorEq,List.replicate,c27l0,ho,hwo,wordAt,h10]
   all_goals try (exfalso;omega)
   refine callV_flat (by rw[hC];exact hf) ?_
   simp (disch:=first|omega|assumption|exact bd (by with_unfolding_all rfl)|exact Or.inl rfl|(simp only[VVlen]<;>omega)|fail) only[O1,WA,slotsL,opdsA,Nat.reduceEqDiff,Nat.reduceLT,Nat.reduceAdd,Nat.reduceBEq,Int.reduceAdd,Int.reduceSub,Int.reduceLT,Int.reduceLE,Int.reduceEq,Int.reduceNeg,↓reduceIte,reduceCtorEq,List.replicate]
   exact .refl _ _
  ·rw[decide_eq_false hx] at hf
   simp (disch:=first|omega|assumption|exact bd (by with_unfolding_all rfl)|exact Or.inl rfl|(simp only[VVlen]<;>omega)|fail) only[O1,WA,slotsL,opdsA,Nat.reduceEqDiff,Nat.reduceLT,Nat.reduceAdd,Nat.reduceBEq,Int.reduceAdd,Int.reduceSub,Int.reduceLT,Int.reduceLE,Int.reduceEq,Int.reduceNeg,↓reduceIte,reduceCtorEq,List.replicate,c27l0,ho,hwo,wordAt,h10]
   all_goals try (exfalso;omega)
   refine callV_flat (by rw[hC];exact hf) ?_
   simp (disch:=first|omega|assumption|exact bd (by with_unfolding_all rfl)|exact Or.inl rfl|(simp only[VVlen]<;>omega)|fail) only[O1,WA,slotsL,opdsA,Nat.reduceEqDiff,Nat.reduceLT,Nat.reduceAdd,Nat.reduceBEq,Int.reduceAdd,Int.reduceSub,Int.reduceLT,Int.reduceLE,Int.reduceEq,Int.reduceNeg,↓reduceIte,reduceCtorEq,List.replicate]
   exact ⟨_,_,_,by omega,.refl _ _,k+1,rfl,hlt,lt_succ_cases hj hx,rfl,rfl⟩
 ·have:k=10:=by omega
  subst this
  rw[idxN_none 10 hj]
  simp (disch:=first|omega|assumption|exact bd (by with_unfolding_all rfl)|exact Or.inl rfl|(simp only[VVlen]<;>omega)|fail) only[O1,WA,slotsL,opdsA,Nat.reduceEqDiff,Nat.reduceLT,Nat.reduceAdd,Nat.reduceBEq,Int.reduceAdd,Int.reduceSub,Int.reduceLT,Int.reduceLE,Int.reduceEq,Int.reduceNeg,↓reduceIte,reduceCtorEq,List.replicate,c27l0,h10]
  all_goals try (exfalso;omega)
  exact .refl _ _
end
end Go.Proofs.YtbefpfbidgfipaaDoor
