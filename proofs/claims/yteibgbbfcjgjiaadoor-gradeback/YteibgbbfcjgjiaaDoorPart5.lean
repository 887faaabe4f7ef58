/- What is proved: the law GradeBack returns true for every input. Conditions: none beyond the card's own.
   Texts: C40VA, R40V, S40D, H40V, G40a, G40b, G40c, G40d, G40e, G40g, G40h.
-/
import Derived.Test.YteibgbbfcjgjiaaDoorPart4
import Derived.Test.YteibgbbfcjgjiaaDoorProg
import Derived.KernelRfl
import Derived.Test.YteibgbbfcjgjiaaDoorRows
import Derived.Shelf.Strings.Builder1
import Derived.Shelf.Strings.Builder2
import Derived.Shelf.Strings.OnBuilder
import Derived.Shelf.Strconv.Atoi
import Derived.Shelf.Strconv.Itoa0
import Derived.Shelf.Strconv.Itoa1
import Derived.Shelf.LaysM
import Derived.Shelf.Strconv.Itoa2
import Derived.Shelf.Strconv.Itoa3
import Derived.Shelf.Strconv.AtoiErrFast
import Derived.Shelf.Strconv.ParseIntEmpty
import Derived.Shelf.Strconv.AtoiFail
import Derived.Shelf.Strconv.Clone
import Derived.Shelf.Strconv.SyntaxError
import Derived.Shelf.LaysC
import Derived.Shelf.Strconv.ToError
import Derived.Shelf.Strconv.Lower
import Derived.Shelf.Strconv.ParseUint10
import Derived.Shelf.Strconv.ParseUint10Empty
import Derived.Shelf.Strconv.ParseUint10Any
import Derived.Shelf.Strconv.ParseInt10
import Derived.Shelf.Strconv.AtoiLong
import Derived.Shelf.Strconv.AtoiInnerAll
import Derived.Shelf.Strconv.RangeError
import Derived.Shelf.Strconv.ToErrorRange
import Derived.Shelf.Strconv.AtoiAll
import Derived.Shelf.Strconv.ErrVarAll
import Derived.Shelf.Strings.Search1
import Derived.Shelf.Strings.Search2
import Derived.Shelf.Strings.Search3
import Derived.Shelf.Strings.Count
import Derived.Shelf.Strings.Shaped
import Derived.Shelf.Unicode.DecodeSlow
import Derived.Lib.AtoiAllCases
namespace Go.Proofs.YteibgbbfcjgjiaaDoor
open Go Go.Itp
set_option maxRecDepth 100000
@[reducible] def O1 (d:Nat) (p:AOp):AOper:=⟨some d,none,p⟩
/- raddle/raddlelaw40.GradeBack -/
def c5:AFun:=⟨.seq (.ops [O1 2 (.box 25 (.tmp 0)),O1 4 (.mov (.const (.bool false)))] [1,2]) (.seq (.ops [O1 14 (.callF 15 []),O1 5 (.mov (.tmp 14))] [1,2,5]) (.seq (.seq (.ops [O1 15 (.load (some 3) (.tmp 2)),O1 16 (.callF 9 [.tmp 15]),O1 17 (.mov (.tmp 16)),⟨some 18,some (17,false),.mov (.tmp 1)⟩,⟨some 19,some (17,false),.len true (.tmp 18)⟩,⟨some 20,some (17,false),.bin .gtr (.tmp 19) (.const (.int .i64 10000))⟩,O1 21 (.pick (.tmp 17) (.const (.bool true)) (.tmp 20)),O1 22 (.mov (.tmp 21)),⟨some 23,some (22,false),.mov (.tmp 5)⟩,⟨some 24,some (22,false),.un .not (.tmp 23)⟩,O1 25 (.pick (.tmp 22) (.const (.bool true)) (.tmp 24))] [1,2,5,25]) (.cond (.tmp 25) (.seq (.ops [O1 26 (.mov (.tmp 5)),O1 4 (.mov (.tmp 26))] [4]) (.ret)) (.skip))) (.seq (.ops [O1 28 (.load (some 3) (.tmp 2)),O1 29 (.callF 10 [.tmp 28]),O1 27 (.mov (.tmp 29)),O1 30 (.ext (.tmp 27) 0),O1 31 (.ext (.tmp 27) 1),O1 6 (.mov (.tmp 30)),O1 7 (.mov (.tmp 31))] [1,2,5,6,7]) (.seq (.seq (.ops [O1 32 (.mov (.tmp 7)),O1 33 (.bin .eql (.tmp 32) (.const (.int .i64 0)))] [1,2,5,6,33]) (.cond (.tmp 33) (.seq (.ops [O1 35 (.mov (.tmp 6)),O1 36 (.callF 12 [.tmp 35]),O1 34 (.mov (.tmp 36)),O1 37 (.ext (.tmp 34) 0),O1 38 (.ext (.tmp 34) 1),O1 8 (.alloc 25 [(3,(.slice none 0 0))]),⟨none,none,.store 3 (.tmp 8) (.tmp 37)⟩,O1 9 (.mov (.tmp 38))] [1,2,5,8,9]) (.seq (.ops [O1 39 (.mov (.tmp 9)),O1 40 (.bin .neq (.tmp 39) (.const (.int .i64 0))),O1 41 (.mov (.tmp 40)),⟨some 42,some (41,false),.load (some 3) (.tmp 8)⟩,⟨some 43,some (41,false),.load (some 3) (.tmp 2)⟩,⟨some 44,some (41,false),.callF 14 [(.tmp 42),(.tmp 43)]⟩,⟨some 45,some (41,false),.un .not (.tmp 44)⟩,O1 46 (.pick (.tmp 41) (.const (.bool true)) (.tmp 45))] [1,5,46]) (.cond (.tmp 46) (.seq (.ops [O1 4 (.mov (.const (.bool false)))] [4]) (.ret)) (.skip)))) (.skip))) (.seq (.ops [O1 48 (.mov (.tmp 1)),O1 49 (.callF 12 [.tmp 48]),O1 47 (.mov (.tmp 49)),O1 50 (.ext (.tmp 47) 0),O1 51 (.ext (.tmp 47) 1),O1 10 (.alloc 25 [(3,(.slice none 0 0))]),⟨none,none,.store 3 (.tmp 10) (.tmp 50)⟩,O1 11 (.mov (.tmp 51))] [1,5,10,11]) (.seq (.seq (.ops [O1 52 (.mov (.tmp 11)),O1 53 (.bin .neq (.tmp 52) (.const (.int .i64 0)))] [1,5,10,11,53]) (.cond (.tmp 53) (.seq (.ops [O1 54 (.mov (.tmp 5)),O1 55 (.mov (.tmp 54)),⟨some 56,some (55,true),.mov (.tmp 11)⟩,⟨some 57,some (55,true),.bin .eql (.tmp 56) (.const (.int .i64 12))⟩,O1 58 (.pick (.tmp 55) (.tmp 57) (.const (.bool false))),O1 4 (.mov (.tmp 58))] [4]) (.ret)) (.skip))) (.seq (.ops [O1 60 (.load (some 3) (.tmp 10)),O1 61 (.callF 10 [.tmp 60]),O1 59 (.mov (.tmp 61)),O1 62 (.ext (.tmp 59) 0),O1 63 (.ext (.tmp 59) 1),O1 12 (.mov (.tmp 62)),O1 13 (.mov (.tmp 63))] [1,5,12,13]) (.seq (.ops [O1 64 (.mov (.tmp 5)),O1 65 (.mov (.tmp 64)),⟨some 66,some (65,true),.mov (.tmp 13)⟩,⟨some 67,some (65,true),.bin .eql (.tmp 66) (.const (.int .i64 0))⟩,O1 68 (.pick (.tmp 65) (.tmp 67) (.const (.bool false))),O1 69 (.mov (.tmp 68)),⟨some 70,some (69,true),.mov (.tmp 12)⟩,⟨some 71,some (69,true),.mov (.tmp 1)⟩,⟨some 72,some (69,true),.bin .eql (.tmp 70) (.tmp 71)⟩,
  O1 73 (.pick (.tmp 69) (.tmp 72) (.const (.bool false))),O1 4 (.mov (.tmp 73))] [4]) (.ret))))))))),74,[(4,none)],true⟩
theorem ok5:FunOK Tryd.prog 5 c5:= .code ⟨Tryd.f5,_,c5.code,Tryd.func5,rfl,by kernel_rfl,rfl,by kernel_rfl,by kernel_rfl⟩
/- raddle/raddleref40.Great -/
def c9l0:AC:= .seq (.seq (.ops [O1 50 (.mov (.tmp 5)),O1 51 (.fldA 2 (.tmp 1)),O1 52 (.load none (.tmp 51)),O1 53 (.len false (.tmp 52)),O1 54 (.bin .lss (.tmp 50) (.tmp 53))] [1,5,54]) (.cond (.tmp 54) (.skip) (.exit 4))) (.seq (.block 5 (.seq (.ops [O1 57 (.fldA 2 (.tmp 1)),O1 58 (.load none (.tmp 57)),O1 59 (.mov (.tmp 5)),O1 60 (.idxS 1 (.tmp 58) (.tmp 59)),O1 61 (.load none (.tmp 60)),O1 62 (.len false (.tmp 61)),O1 63 (.bin .gtr (.tmp 62) (.const (.int .i64 40)))] [1,5,63]) (.cond (.tmp 63) (.seq (.ops [O1 2 (.mov (.const (.bool true)))] [2]) (.ret)) (.skip)))) (.ops [O1 55 (.mov (.tmp 5)),O1 56 (.bin .add (.tmp 55) (.const (.int .i64 1))),O1 5 (.mov (.tmp 56))] [1,5]))
def c9l1:AC:= .seq (.seq (.ops [O1 36 (.mov (.tmp 4)),O1 37 (.fldA 1 (.tmp 1)),O1 38 (.load none (.tmp 37)),O1 39 (.len false (.tmp 38)),O1 40 (.bin .lss (.tmp 36) (.tmp 39))] [1,4,40]) (.cond (.tmp 40) (.skip) (.exit 2))) (.seq (.block 3 (.seq (.ops [O1 43 (.fldA 1 (.tmp 1)),O1 44 (.load none (.tmp 43)),O1 45 (.mov (.tmp 4)),O1 46 (.idxS 1 (.tmp 44) (.tmp 45)),O1 47 (.load none (.tmp 46)),O1 48 (.len true (.tmp 47)),O1 49 (.bin .gtr (.tmp 48) (.const (.int .i64 60)))] [1,4,49]) (.cond (.tmp 49) (.seq (.ops [O1 2 (.mov (.const (.bool true)))] [2]) (.ret)) (.skip)))) (.ops [O1 41 (.mov (.tmp 4)),O1 42 (.bin .add (.tmp 41) (.const (.int .i64 1))),O1 4 (.mov (.tmp 42))] [1,4]))
def c9l2:AC:= .seq (.seq (.ops [O1 22 (.mov (.tmp 3)),O1 23 (.fldA 0 (.tmp 1)),O1 24 (.load none (.tmp 23)),O1 25 (.len false (.tmp 24)),O1 26 (.bin .lss (.tmp 22) (.tmp 25))] [1,3,26]) (.cond (.tmp 26) (.skip) (.exit 0))) (.seq (.block 1 (.seq (.ops [O1 29 (.fldA 0 (.tmp 1)),O1 30 (.load none (.tmp 29)),O1 31 (.mov (.tmp 3)),O1 32 (.idxS 1 (.tmp 30) (.tmp 31)),O1 33 (.load none (.tmp 32)),O1 34 (.len true (.tmp 33)),O1 35 (.bin .gtr (.tmp 34) (.const (.int .i64 60)))] [1,3,35]) (.cond (.tmp 35) (.seq (.ops [O1 2 (.mov (.const (.bool true)))] [2]) (.ret)) (.skip)))) (.ops [O1 27 (.mov (.tmp 3)),O1 28 (.bin .add (.tmp 27) (.const (.int .i64 1))),O1 3 (.mov (.tmp 28))] [1,3]))
def c9:AFun:=⟨.seq (.ops [O1 1 (.box 25 (.tmp 0)),O1 2 (.mov (.const (.bool false)))] [1]) (.seq (.seq (.ops [O1 6 (.fldA 0 (.tmp 1)),O1 7 (.load none (.tmp 6)),O1 8 (.len false (.tmp 7)),O1 9 (.bin .gtr (.tmp 8) (.const (.int .i64 30))),O1 10 (.mov (.tmp 9)),⟨some 11,some (10,false),.fldA 1 (.tmp 1)⟩,⟨some 12,some (10,false),.load none (.tmp 11)⟩,⟨some 13,some (10,false),.len false (.tmp 12)⟩,⟨some 14,some (10,false),.bin .gtr (.tmp 13) (.const (.int .i64 40))⟩,O1 15 (.pick (.tmp 10) (.const (.bool true)) (.tmp 14)),O1 16 (.mov (.tmp 15)),⟨some 17,some (16,false),.fldA 2 (.tmp 1)⟩,⟨some 18,some (16,false),.load none (.tmp 17)⟩,⟨some 19,some (16,false),.len false (.tmp 18)⟩,⟨some 20,some (16,false),.bin .gtr (.tmp 19) (.const (.int .i64 40))⟩,O1 21 (.pick (.tmp 16) (.const (.bool true)) (.tmp 20))] [1,21]) (.cond (.tmp 21) (.seq (.ops [O1 2 (.mov (.const (.bool true)))] [2]) (.ret)) (.skip))) (.seq (.seq (.ops [O1 3 (.mov (.const (.int .i64 0)))] [1,3]) (.block 0 (.loop [1,3] c9l2))) (.seq (.seq (.ops [O1 4 (.mov (.const (.int .i64 0)))] [1,4]) (.block 2 (.loop [1,4] c9l1))) (.seq (.seq (.ops [O1 5 (.mov (.const (.int .i64 0)))] [1,5]) (.block 4 (.loop [1,5] c9l0))) (.seq (.ops [O1 2 (.mov (.const (.bool false)))] [2]) (.ret)))))),64,[(2,none)],true⟩
theorem ok9:FunOK Tryd.prog 9 c9:= .code ⟨Tryd.f9,_,c9.code,Tryd.func9,rfl,by kernel_rfl,rfl,by kernel_rfl,by kernel_rfl⟩
/- raddle/grade.Text -/
def c10l0:AC:= .seq (.ops [O1 39 (.bin .lss (.tmp 38) (.tmp 37))] [1,5,23,24,25,36,37,38,39]) (.seq (.cond (.tmp 39) (.skip) (.exit 2)) (.seq (.block 3 (.seq (.ops [O1 40 (.idxS 1 (.tmp 36) (.tmp 38)),O1 41 (.load none (.tmp 40)),O1 9 (.mov (.tmp 41))] [1,5,9,23,24,25,36,37,38]) (.seq (.ops [O1 42 (.callF 31 [(.tmp 5),(.const (.int .u8 32))])] [1,5,9,23,24,25,36,37,38]) (.ops [O1 43 (.mov (.tmp 9)),O1 44 (.callF 32 [.tmp 43]),O1 45 (.callF 29 [(.tmp 5),(.tmp 44)])] [1,5,23,24,25,36,37,38])))) (.ops [O1 46 (.bin .add (.tmp 38) (.const (.int .i64 1))),O1 38 (.mov (.tmp 46))] [1,5,23,24,25,36,37,38])))
def c10l1:AC:= .seq (.ops [O1 26 (.bin .lss (.tmp 25) (.tmp 24))] [1,5,23,24,25,26]) (.seq (.cond (.tmp 26) (.skip) (.exit 0)) (.seq (.block 1 (.seq (.ops [O1 27 (.mov (.tmp 25)),O1 28 (.idxS 1 (.tmp 23) (.tmp 25)),O1 29 (.load none (.tmp 28)),O1 6 (.mov (.tmp 27)),O1 7 (.mov (.tmp 29))] [1,5,6,7,23,24,25]) (.seq (.ops [O1 30 (.fldA 1 (.tmp 1)),O1 31 (.load none (.tmp 30)),O1 32 (.mov (.tmp 6)),O1 33 (.idxS 1 (.tmp 31) (.tmp 32)),O1 34 (.load none (.tmp 33)),O1 35 (.callF 29 [(.tmp 5),(.tmp 34)])] [1,5,7,23,24,25]) (.seq (.seq (.ops [O1 36 (.mov (.tmp 7)),O1 37 (.len false (.tmp 36)),O1 38 (.mov (.const (.int .i64 0)))] [1,5,23,24,25,36,37,38]) (.block 2 (.loop [1,5,23,24,25,36,37,38] c10l0))) (.ops [O1 47 (.callF 31 [(.tmp 5),(.const (.int .u8 10))])] [1,5,23,24,25]))))) (.ops [O1 48 (.bin .add (.tmp 25) (.const (.int .i64 1))),O1 25 (.mov (.tmp 48))] [1,5,23,24,25])))
def c10:AFun:=⟨.seq (.ops [O1 1 (.box 25 (.tmp 0)),O1 2 (.mov (.const (.string ⟨#[]⟩))),O1 3 (.mov (.const (.int .i64 0)))] [1]) (.seq (.seq (.ops [O1 10 (.load (some 3) (.tmp 1)),O1 11 (.callF 19 [.tmp 10]),O1 4 (.mov (.tmp 11))] [1,4]) (.seq (.ops [O1 12 (.mov (.tmp 4)),O1 13 (.bin .neq (.tmp 12) (.const (.int .i64 0)))] [1,4,13]) (.cond (.tmp 13) (.seq (.ops [O1 14 (.mov (.tmp 4)),O1 2 (.mov (.const (.string ⟨#[]⟩))),O1 3 (.mov (.tmp 14))] [2,3]) (.ret)) (.skip)))) (.seq (.ops [O1 5 (.alloc 61 [(1,(.pointer none)),(1,(.slice none 0 0))])] [1,5]) (.seq (.ops [O1 15 (.mkRow 9 1 1 [(.string ⟨#[]⟩)] [(0,1,(.const (.string ⟨#[115,105,122,101]⟩)))]),O1 16 (.fldA 0 (.tmp 1)),O1 17 (.load none (.tmp 16)),O1 18 (.app 9 1 16 (.tmp 15) (.tmp 17)),O1 19 (.callF 30 [(.tmp 18),(.const (.string ⟨#[32]⟩))]),O1 20 (.callF 29 [(.tmp 5),(.tmp 19)])] [1,5]) (.seq (.ops [O1 21 (.callF 31 [(.tmp 5),(.const (.int .u8 10))])] [1,5]) (.seq (.seq (.ops [O1 22 (.fldA 2 (.tmp 1)),O1 23 (.load none (.tmp 22)),O1 24 (.len false (.tmp 23)),O1 25 (.mov (.const (.int .i64 0)))] [1,5,23,24,25]) (.block 0 (.loop [1,5,23,24,25] c10l1))) (.seq (.seq (.ops [O1 49 (.callF 33 [.tmp 5]),O1 50 (.bin .gtr (.tmp 49) (.const (.int .i64 8000)))] [5,50]) (.cond (.tmp 50) (.seq (.ops [O1 2 (.mov (.const (.string ⟨#[]⟩))),O1 3 (.mov (.const (.int .i64 4)))] [2,3]) (.ret)) (.skip))) (.seq (.ops [O1 51 (.callF 34 [.tmp 5]),O1 2 (.mov (.tmp 51)),O1 3 (.mov (.const (.int .i64 0)))] [2,3]) (.ret)))))))),52,[(2,none),(3,none)],true⟩
theorem ok10:FunOK Tryd.prog 10 c10:= .code ⟨Tryd.f10,_,c10.code,Tryd.func10,rfl,by kernel_rfl,rfl,by kernel_rfl,by kernel_rfl⟩
/- raddle/grade.Parse -/
def c12l0:AC:= .seq (.ops [O1 42 (.bin .lss (.tmp 41) (.tmp 40))] [0,2,4,7,8,21,22,23,39,40,41,42]) (.seq (.cond (.tmp 42) (.skip) (.exit 2)) (.seq (.block 3 (.seq (.ops [O1 43 (.idxS 1 (.tmp 39) (.tmp 41)),O1 44 (.load none (.tmp 43)),O1 10 (.mov (.tmp 44))] [0,2,4,7,8,10,21,22,23,39,40,41]) (.seq (.ops [O1 46 (.mov (.tmp 10)),O1 47 (.callF 38 [.tmp 46]),O1 45 (.mov (.tmp 47)),O1 48 (.ext (.tmp 45) 0),O1 49 (.ext (.tmp 45) 1),O1 11 (.mov (.tmp 48)),O1 12 (.mov (.tmp 49))] [0,2,4,7,8,11,12,21,22,23,39,40,41]) (.seq (.seq (.ops [O1 50 (.mov (.tmp 12)),O1 51 (.eqIf true true [2,3,5,6,12,21,27,97,105,116,124,146,147,149,150] (.tmp 50) (.const .nilIface))] [0,2,4,7,8,11,21,22,23,39,40,41,51]) (.cond (.tmp 51) (.seq (.ops [O1 52 (.build [(.slice none 0 0),(.slice none 0 0),(.slice none 0 0)] []),⟨none,none,.store 3 (.tmp 2) (.tmp 52)⟩,O1 3 (.mov (.const (.int .i64 12)))] [2,3]) (.ret)) (.skip))) (.ops [O1 53 (.mov (.tmp 8)),O1 54 (.mov (.tmp 11)),O1 55 (.mkRow 3 1 1 [(.int .i64 0)] [(0,1,(.tmp 54))]),O1 56 (.app 3 1 8 (.tmp 53) (.tmp 55)),O1 8 (.mov (.tmp 56))] [0,2,4,7,8,21,22,23,39,40,41]))))) (.ops [O1 57 (.bin .add (.tmp 41) (.const (.int .i64 1))),O1 41 (.mov (.tmp 57))] [0,2,4,7,8,21,22,23,39,40,41])))
def c12l1:AC:= .seq (.ops [O1 24 (.bin .lss (.tmp 23) (.tmp 22))] [0,2,4,21,22,23,24]) (.seq (.cond (.tmp 24) (.skip) (.exit 0)) (.seq (.block 1 (.seq (.ops [O1 25 (.mov (.tmp 23)),O1 26 (.idxS 1 (.tmp 21) (.tmp 23)),O1 27 (.load none (.tmp 26)),O1 5 (.mov (.tmp 25)),O1 6 (.mov (.tmp 27))] [0,2,4,5,6,21,22,23]) (.seq (.ops [O1 28 (.mov (.tmp 6)),O1 29 (.callF 36 [(.tmp 28),(.const (.string ⟨#[32]⟩))]),O1 7 (.mov (.tmp 29))] [0,2,4,5,7,21,22,23]) (.seq (.seq (.ops [O1 30 (.mov (.tmp 5)),O1 31 (.bin .eql (.tmp 30) (.const (.int .i64 0)))] [0,2,4,7,21,22,23,31]) (.cond (.tmp 31) (.seq (.ops [O1 32 (.mov (.tmp 7)),O1 33 (.slc 1 (.tmp 32) (some (.const (.int .i64 1))) none none),O1 34 (.fldA 0 (.tmp 4)),⟨none,none,.store 1 (.tmp 34) (.tmp 33)⟩] [0,2,4,21,22,23]) (.exit 1)) (.skip))) (.seq (.ops [O1 35 (.mov (.tmp 7)),O1 36 (.len false (.tmp 35)),O1 37 (.mkSlice 3 1 8 [(.int .i64 0)] (.const (.int .i64 0)) (.tmp 36)),O1 8 (.mov (.tmp 37))] [0,2,4,7,8,21,22,23]) (.seq (.seq (.ops [O1 38 (.mov (.tmp 7)),O1 39 (.slc 1 (.tmp 38) (some (.const (.int .i64 1))) none none),O1 40 (.len false (.tmp 39)),O1 41 (.mov (.const (.int .i64 0)))] [0,2,4,7,8,21,22,23,39,40,41]) (.block 2 (.loop [0,2,4,7,8,21,22,23,39,40,41] c12l0))) (.drawW [⟨O1 58 (.fldA 1 (.tmp 4)),[],none⟩,⟨O1 59 (.load none (.tmp 58)),[],none⟩,⟨O1 60 (.mov (.tmp 7)),[0,1],none⟩,⟨O1 61 (.idxS 1 (.tmp 60) (.const (.int .i64 0))),[0,1],none⟩,⟨O1 62 (.load none (.tmp 61)),[0,1],none⟩,⟨O1 63 (.mkRow 9 1 1 [(.string ⟨#[]⟩)] [(0,1,(.tmp 62))]),[0,1],none⟩,⟨O1 64 (.app 9 1 16 (.tmp 59) (.tmp 63)),[],none⟩,⟨O1 65 (.fldA 2 (.tmp 4)),[0,1,2,3,4,5,6],none⟩,⟨O1 66 (.load none (.tmp 65)),[0,1,2,3,4,5,6],none⟩,⟨O1 67 (.mov (.tmp 8)),[0,1,2,3,4,5,6,7,8],none⟩,⟨O1 68 (.mkRow 40 1 1 [(.slice none 0 0)] [(0,1,(.tmp 67))]),[0,1,2,3,4,5,6,7,8],none⟩,⟨O1 69 (.app 40 1 24 (.tmp 66) (.tmp 68)),[],none⟩,⟨O1 70 (.fldA 1 (.tmp 4)),[9,10,11],none⟩] [⟨none,none,.store 1 (.tmp 70) (.tmp 64)⟩,O1 71 (.fldA 2 (.tmp 4)),⟨none,none,.store 1 (.tmp 71) (.tmp 69)⟩] [0,2,4,21,22,23]))))))) (.ops [O1 72 (.bin .add (.tmp 23) (.const (.int .i64 1))),O1 23 (.mov (.tmp 72))] [0,2,4,21,22,23])))
def c12:AFun:=⟨.seq (.ops [O1 2 (.alloc 25 [(3,(.slice none 0 0))]),O1 3 (.mov (.const (.int .i64 0)))] [0,2]) (.seq (.seq (.ops [O1 15 (.mov (.tmp 0)),O1 16 (.len true (.tmp 15)),O1 17 (.bin .gtr (.tmp 16) (.const (.int .i64 8000)))] [0,2,17]) (.cond (.tmp 17) (.seq (.ops [O1 18 (.build [(.slice none 0 0),(.slice none 0 0),(.slice none 0 0)] []),⟨none,none,.store 3 (.tmp 2) (.tmp 18)⟩,O1 3 (.mov (.const (.int .i64 12)))] [2,3]) (.ret)) (.skip))) (.seq (.ops [O1 4 (.alloc 25 [(3,(.slice none 0 0))])] [0,2,4]) (.seq (.seq (.ops [O1 19 (.mov (.tmp 0)),O1 20 (.callF 37 [(.tmp 19),(.const (.string ⟨#[10]⟩))]),O1 21 (.callF 36 [(.tmp 20),(.const (.string ⟨#[10]⟩))]),O1 22 (.len false (.tmp 21)),O1 23 (.mov (.const (.int .i64 0)))] [0,2,4,21,22,23]) (.block 0 (.loop [0,2,4,21,22,23] c12l1))) (.seq (.seq (.ops [O1 74 (.load (some 3) (.tmp 4)),O1 75 (.callF 10 [.tmp 74]),O1 73 (.mov (.tmp 75)),O1 76 (.ext (.tmp 73) 0),O1 77 (.ext (.tmp 73) 1),O1 13 (.mov (.tmp 76)),O1 14 (.mov (.tmp 77))] [0,2,4,13,14]) (.seq (.ops [O1 78 (.mov (.tmp 14)),O1 79 (.bin .neq (.tmp 78) (.const (.int .i64 0))),O1 80 (.mov (.tmp 79)),⟨some 81,some (80,false),.mov (.tmp 13)⟩,⟨some 82,some (80,false),.mov (.tmp 0)⟩,⟨some 83,some (80,false),.bin .neq (.tmp 81) (.tmp 82)⟩,O1 84 (.pick (.tmp 80) (.const (.bool true)) (.tmp 83))] [2,4,84]) (.cond (.tmp 84) (.seq (.ops [O1 85 (.build [(.slice none 0 0),(.slice none 0 0),(.slice none 0 0)] []),⟨none,none,.store 3 (.tmp 2) (.tmp 85)⟩,O1 3 (.mov (.const (.int .i64 12)))] [2,3]) (.ret)) (.skip)))) (.seq (.ops [O1 86 (.load (some 3) (.tmp 4)),⟨none,none,.store 3 (.tmp 2) (.tmp 86)⟩,O1 3 (.mov (.const (.int .i64 0)))] [2,3]) (.ret)))))),87,[(2,(some (some 3))),(3,none)],true⟩
theorem ok12:FunOK Tryd.prog 12 c12:= .code ⟨Tryd.f12,_,c12.code,Tryd.func12,rfl,by kernel_rfl,rfl,by kernel_rfl,by kernel_rfl⟩
/- raddle/raddleref40.Same -/
def c14l0:AC:= .seq (.seq (.ops [O1 69 (.mov (.tmp 7)),O1 70 (.fldA 2 (.tmp 2)),O1 71 (.load none (.tmp 70)),O1 72 (.len false (.tmp 71)),O1 73 (.bin .lss (.tmp 69) (.tmp 72))] [2,3,7,73]) (.cond (.tmp 73) (.skip) (.exit 4))) (.seq (.block 5 (.seq (.draw [O1 76 (.fldA 2 (.tmp 2)),O1 77 (.load none (.tmp 76)),O1 78 (.mov (.tmp 7)),O1 79 (.idxS 1 (.tmp 77) (.tmp 78)),O1 80 (.load none (.tmp 79)),O1 81 (.fldA 2 (.tmp 3)),O1 82 (.load none (.tmp 81)),O1 83 (.mov (.tmp 7)),O1 84 (.idxS 1 (.tmp 82) (.tmp 83)),O1 85 (.load none (.tmp 84))] [O1 86 (.callF 28 [(.tmp 80),(.tmp 85)]),O1 87 (.un .not (.tmp 86))] [[],[],[],[],[],[],[],[],[],[]] [2,3,7,87]) (.cond (.tmp 87) (.seq (.ops [O1 4 (.mov (.const (.bool false)))] [4]) (.ret)) (.skip)))) (.ops [O1 74 (.mov (.tmp 7)),O1 75 (.bin .add (.tmp 74) (.const (.int .i64 1))),O1 7 (.mov (.tmp 75))] [2,3,7]))
def c14l1:AC:= .seq (.seq (.ops [O1 51 (.mov (.tmp 6)),O1 52 (.fldA 1 (.tmp 2)),O1 53 (.load none (.tmp 52)),O1 54 (.len false (.tmp 53)),O1 55 (.bin .lss (.tmp 51) (.tmp 54))] [2,3,6,55]) (.cond (.tmp 55) (.skip) (.exit 2))) (.seq (.block 3 (.seq (.draw [O1 58 (.fldA 1 (.tmp 2)),O1 59 (.load none (.tmp 58)),O1 60 (.mov (.tmp 6)),O1 61 (.idxS 1 (.tmp 59) (.tmp 60)),O1 62 (.load none (.tmp 61)),O1 63 (.fldA 1 (.tmp 3)),O1 64 (.load none (.tmp 63)),O1 65 (.mov (.tmp 6)),O1 66 (.idxS 1 (.tmp 64) (.tmp 65)),O1 67 (.load none (.tmp 66))] [O1 68 (.bin .neq (.tmp 62) (.tmp 67))] [[],[],[],[],[],[],[],[],[],[]] [2,3,6,68]) (.cond (.tmp 68) (.seq (.ops [O1 4 (.mov (.const (.bool false)))] [4]) (.ret)) (.skip)))) (.ops [O1 56 (.mov (.tmp 6)),O1 57 (.bin .add (.tmp 56) (.const (.int .i64 1))),O1 6 (.mov (.tmp 57))] [2,3,6]))
def c14l2:AC:= .seq (.seq (.ops [O1 33 (.mov (.tmp 5)),O1 34 (.fldA 0 (.tmp 2)),O1 35 (.load none (.tmp 34)),O1 36 (.len false (.tmp 35)),O1 37 (.bin .lss (.tmp 33) (.tmp 36))] [2,3,5,37]) (.cond (.tmp 37) (.skip) (.exit 0))) (.seq (.block 1 (.seq (.draw [O1 40 (.fldA 0 (.tmp 2)),O1 41 (.load none (.tmp 40)),O1 42 (.mov (.tmp 5)),O1 43 (.idxS 1 (.tmp 41) (.tmp 42)),O1 44 (.load none (.tmp 43)),O1 45 (.fldA 0 (.tmp 3)),O1 46 (.load none (.tmp 45)),O1 47 (.mov (.tmp 5)),O1 48 (.idxS 1 (.tmp 46) (.tmp 47)),O1 49 (.load none (.tmp 48))] [O1 50 (.bin .neq (.tmp 44) (.tmp 49))] [[],[],[],[],[],[],[],[],[],[]] [2,3,5,50]) (.cond (.tmp 50) (.seq (.ops [O1 4 (.mov (.const (.bool false)))] [4]) (.ret)) (.skip)))) (.ops [O1 38 (.mov (.tmp 5)),O1 39 (.bin .add (.tmp 38) (.const (.int .i64 1))),O1 5 (.mov (.tmp 39))] [2,3,5]))
def c14:AFun:=⟨.seq (.ops [O1 2 (.box 25 (.tmp 0)),O1 3 (.box 25 (.tmp 1)),O1 4 (.mov (.const (.bool false)))] [2,3]) (.seq (.seq (.ops [O1 8 (.fldA 0 (.tmp 2)),O1 9 (.load none (.tmp 8)),O1 10 (.len false (.tmp 9)),O1 11 (.fldA 0 (.tmp 3)),O1 12 (.load none (.tmp 11)),O1 13 (.len false (.tmp 12)),O1 14 (.bin .neq (.tmp 10) (.tmp 13)),O1 15 (.mov (.tmp 14)),⟨some 16,some (15,false),.fldA 1 (.tmp 2)⟩,⟨some 17,some (15,false),.load none (.tmp 16)⟩,⟨some 18,some (15,false),.len false (.tmp 17)⟩,⟨some 19,some (15,false),.fldA 1 (.tmp 3)⟩,⟨some 20,some (15,false),.load none (.tmp 19)⟩,⟨some 21,some (15,false),.len false (.tmp 20)⟩,⟨some 22,some (15,false),.bin .neq (.tmp 18) (.tmp 21)⟩,O1 23 (.pick (.tmp 15) (.const (.bool true)) (.tmp 22)),O1 24 (.mov (.tmp 23)),⟨some 25,some (24,false),.fldA 2 (.tmp 2)⟩,⟨some 26,some (24,false),.load none (.tmp 25)⟩,⟨some 27,some (24,false),.len false (.tmp 26)⟩,⟨some 28,some (24,false),.fldA 2 (.tmp 3)⟩,⟨some 29,some (24,false),.load none (.tmp 28)⟩,⟨some 30,some (24,false),.len false (.tmp 29)⟩,⟨some 31,some (24,false),.bin .neq (.tmp 27) (.tmp 30)⟩,O1 32 (.pick (.tmp 24) (.const (.bool true)) (.tmp 31))] [2,3,32]) (.cond (.tmp 32) (.seq (.ops [O1 4 (.mov (.const (.bool false)))] [4]) (.ret)) (.skip))) (.seq (.seq (.ops [O1 5 (.mov (.const (.int .i64 0)))] [2,3,5]) (.block 0 (.loop [2,3,5] c14l2))) (.seq (.seq (.ops [O1 6 (.mov (.const (.int .i64 0)))] [2,3,6]) (.block 2 (.loop [2,3,6] c14l1))) (.seq (.seq (.ops [O1 7 (.mov (.const (.int .i64 0)))] [2,3,7]) (.block 4 (.loop [2,3,7] c14l0))) (.seq (.ops [O1 4 (.mov (.const (.bool true)))] [4]) (.ret)))))),88,[(4,none)],true⟩
theorem ok14:FunOK Tryd.prog 14 c14:= .code ⟨Tryd.f14,_,c14.code,Tryd.func14,rfl,by kernel_rfl,rfl,by kernel_rfl,by kernel_rfl⟩
/- raddle/raddlelaw40.alive -/
def c15:AFun:=⟨.seq (.ops [O1 0 (.mov (.const (.bool false)))] []) (.seq (.ops [O1 14 (.callF 41 []),O1 15 (.callF 10 [.tmp 14]),O1 13 (.mov (.tmp 15)),O1 16 (.ext (.tmp 13) 0),O1 17 (.ext (.tmp 13) 1),O1 1 (.mov (.tmp 16)),O1 2 (.mov (.tmp 17))] [1,2]) (.seq (.ops [O1 19 (.callF 12 [(.const (.string ⟨#[115,105,122,101,32,115,32,109,32,108,10,99,104,101,115,116,32,57,48,48,32,49,48,48,48,32,49,49,53,48,10,115,108,101,101,118,101,32,53,56,48,32,54,48,48,32,54,50,48,10]⟩))]),O1 18 (.mov (.tmp 19)),O1 20 (.ext (.tmp 18) 0),O1 21 (.ext (.tmp 18) 1),O1 3 (.alloc 25 [(3,(.slice none 0 0))]),⟨none,none,.store 3 (.tmp 3) (.tmp 20)⟩,O1 4 (.mov (.tmp 21))] [1,2,3,4]) (.seq (.ops [O1 23 (.callF 41 []),O1 24 (.callF 23 [(.tmp 23),(.const (.string ⟨#[99,104,101,115,116]⟩)),(.const (.int .i64 950))]),O1 22 (.mov (.tmp 24)),O1 25 (.ext (.tmp 22) 0),O1 26 (.ext (.tmp 22) 1),O1 5 (.mov (.tmp 25)),O1 6 (.mov (.tmp 26))] [1,2,3,4,5,6]) (.seq (.ops [O1 28 (.callF 41 []),O1 29 (.callF 17 [(.tmp 28),(.const (.int .i64 1)),(.const (.int .i64 1)),(.const (.int .i64 2))]),O1 27 (.mov (.tmp 29)),O1 30 (.ext (.tmp 27) 0),O1 31 (.ext (.tmp 27) 1),O1 7 (.mov (.tmp 30)),O1 8 (.mov (.tmp 31))] [1,2,3,4,5,6,7,8]) (.seq (.ops [O1 33 (.callF 41 []),O1 34 (.callF 21 [(.tmp 33),(.const (.string ⟨#[120,108]⟩))]),O1 32 (.mov (.tmp 34)),O1 35 (.ext (.tmp 32) 0),O1 36 (.ext (.tmp 32) 1),O1 9 (.alloc 25 [(3,(.slice none 0 0))]),⟨none,none,.store 3 (.tmp 9) (.tmp 35)⟩,O1 10 (.mov (.tmp 36))] [1,2,3,4,5,6,7,8,9,10]) (.seq (.ops [O1 38 (.callF 41 []),O1 39 (.callF 22 [(.tmp 38),(.const (.int .i64 50))]),O1 37 (.mov (.tmp 39)),O1 40 (.ext (.tmp 37) 0),O1 41 (.ext (.tmp 37) 1),O1 11 (.alloc 25 [(3,(.slice none 0 0))]),⟨none,none,.store 3 (.tmp 11) (.tmp 40)⟩,O1 12 (.mov (.tmp 41))] [1,2,3,4,5,6,7,8,9,10,11,12]) (.seq (.seq (.ops [O1 42 (.mov (.tmp 2)),O1 43 (.bin .neq (.tmp 42) (.const (.int .i64 0))),O1 44 (.mov (.tmp 43)),⟨some 45,some (44,false),.mov (.tmp 4)⟩,⟨some 46,some (44,false),.bin .neq (.tmp 45) (.const (.int .i64 0))⟩,O1 47 (.pick (.tmp 44) (.const (.bool true)) (.tmp 46)),O1 48 (.mov (.tmp 47)),⟨some 49,some (48,false),.mov (.tmp 6)⟩,⟨some 50,some (48,false),.bin .neq (.tmp 49) (.const (.int .i64 0))⟩,O1 51 (.pick (.tmp 48) (.const (.bool true)) (.tmp 50)),O1 52 (.mov (.tmp 51)),⟨some 53,some (52,false),.mov (.tmp 8)⟩,⟨some 54,some (52,false),.bin .neq (.tmp 53) (.const (.int .i64 0))⟩,O1 55 (.pick (.tmp 52) (.const (.bool true)) (.tmp 54)),O1 56 (.mov (.tmp 55)),⟨some 57,some (56,false),.mov (.tmp 10)⟩,⟨some 58,some (56,false),.bin .neq (.tmp 57) (.const (.int .i64 0))⟩,O1 59 (.pick (.tmp 56) (.const (.bool true)) (.tmp 58)),O1 60 (.mov (.tmp 59)),⟨some 61,some (60,false),.mov (.tmp 12)⟩,⟨some 62,some (60,false),.bin .neq (.tmp 61) (.const (.int .i64 0))⟩,O1 63 (.pick (.tmp 60) (.const (.bool true)) (.tmp 62)),O1 64 (.mov (.tmp 63)),⟨some 65,some (64,false),.fldA 2 (.tmp 9)⟩,⟨some 66,some (64,false),.load none (.tmp 65)⟩,⟨some 67,some (64,false),.len false (.tmp 66)⟩,⟨some 68,some (64,false),.bin .neq (.tmp 67) (.const (.int .i64 2))⟩,
  O1 69 (.pick (.tmp 64) (.const (.bool true)) (.tmp 68)),O1 70 (.mov (.tmp 69)),⟨some 71,some (70,false),.fldA 2 (.tmp 9)⟩,⟨some 72,some (70,false),.load none (.tmp 71)⟩,⟨some 73,some (70,false),.idxS 1 (.tmp 72) (.const (.int .i64 0))⟩,⟨some 74,some (70,false),.load none (.tmp 73)⟩,⟨some 75,some (70,false),.len false (.tmp 74)⟩,⟨some 76,some (70,false),.bin .neq (.tmp 75) (.const (.int .i64 4))⟩,O1 77 (.pick (.tmp 70) (.const (.bool true)) (.tmp 76)),O1 78 (.mov (.tmp 77)),⟨some 79,some (78,false),.fldA 2 (.tmp 9)⟩,⟨some 80,some (78,false),.load none (.tmp 79)⟩,⟨some 81,some (78,false),.idxS 1 (.tmp 80) (.const (.int .i64 1))⟩,⟨some 82,some (78,false),.load none (.tmp 81)⟩,⟨some 83,some (78,false),.len false (.tmp 82)⟩,⟨some 84,some (78,false),.bin .neq (.tmp 83) (.const (.int .i64 4))⟩,O1 85 (.pick (.tmp 78) (.const (.bool true)) (.tmp 84)),O1 86 (.mov (.tmp 85)),⟨some 87,some (86,false),.fldA 2 (.tmp 11)⟩,⟨some 88,some (86,false),.load none (.tmp 87)⟩,⟨some 89,some (86,false),.len false (.tmp 88)⟩,⟨some 90,some (86,false),.bin .neq (.tmp 89) (.const (.int .i64 2))⟩,O1 91 (.pick (.tmp 86) (.const (.bool true)) (.tmp 90))] [1,3,5,7,9,11,91]) (.cond (.tmp 91) (.seq (.ops [O1 0 (.mov (.const (.bool false)))] [0]) (.ret)) (.skip))) (.seq (.draw [O1 92 (.mov (.tmp 1)),O1 93 (.bin .eql (.tmp 92) (.const (.string ⟨#[115,105,122,101,32,115,32,109,32,108,10,99,104,101,115,116,32,57,48,48,32,49,48,48,48,32,49,49,53,48,10,115,108,101,101,118,101,32,53,56,48,32,54,48,48,32,54,50,48,10]⟩))),O1 94 (.mov (.tmp 93)),⟨some 95,some (94,true),.load (some 3) (.tmp 3)⟩,⟨some 96,some (94,true),.callF 41 []⟩,⟨some 97,some (94,true),.callF 14 [(.tmp 95),(.tmp 96)]⟩,O1 98 (.pick (.tmp 94) (.tmp 97) (.const (.bool false))),O1 99 (.mov (.tmp 98)),⟨some 100,some (99,true),.mov (.tmp 5)⟩,⟨some 101,some (99,true),.bin .eql (.tmp 100) (.const (.string ⟨#[109]⟩))⟩,O1 102 (.pick (.tmp 99) (.tmp 101) (.const (.bool false))),O1 103 (.mov (.tmp 102)),⟨some 104,some (103,true),.mov (.tmp 7)⟩,⟨some 105,some (103,true),.mkRow 3 1 2 [(.int .i64 0)] [(0,1,(.const (.int .i64 1075))),(1,1,(.const (.int .i64 610)))]⟩,⟨some 106,some (103,true),.callF 28 [(.tmp 104),(.tmp 105)]⟩,O1 107 (.pick (.tmp 103) (.tmp 106) (.const (.bool false))),O1 108 (.mov (.tmp 107)),⟨some 109,some (108,true),.fldA 2 (.tmp 9)⟩,⟨some 110,some (108,true),.load none (.tmp 109)⟩,⟨some 111,some (108,true),.idxS 1 (.tmp 110) (.const (.int .i64 0))⟩,⟨some 112,some (108,true),.load none (.tmp 111)⟩,⟨some 113,some (108,true),.idxS 1 (.tmp 112) (.const (.int .i64 3))⟩,⟨some 114,some (108,true),.load none (.tmp 113)⟩,⟨some 115,some (108,true),.bin .eql (.tmp 114) (.const (.int .i64 1300))⟩,O1 116 (.pick (.tmp 108) (.tmp 115) (.const (.bool false))),O1 117 (.mov (.tmp 116)),⟨some 118,some (117,true),.fldA 2 (.tmp 9)⟩,⟨some 119,some (117,true),.load none (.tmp 118)⟩,⟨some 120,some (117,true),.idxS 1 (.tmp 119) (.const (.int .i64 1))⟩,⟨some 121,some (117,true),.load none (.tmp 120)⟩,⟨some 122,some (117,true),.idxS 1 (.tmp 121) (.const (.int .i64 3))⟩,
  ⟨some 123,some (117,true),.load none (.tmp 122)⟩,⟨some 124,some (117,true),.bin .eql (.tmp 123) (.const (.int .i64 640))⟩,O1 125 (.pick (.tmp 117) (.tmp 124) (.const (.bool false))),O1 126 (.mov (.tmp 125)),⟨some 127,some (126,true),.fldA 2 (.tmp 11)⟩,⟨some 128,some (126,true),.load none (.tmp 127)⟩,⟨some 129,some (126,true),.idxS 1 (.tmp 128) (.const (.int .i64 0))⟩,⟨some 130,some (126,true),.load none (.tmp 129)⟩,⟨some 131,some (126,true),.mkRow 3 1 3 [(.int .i64 0)] [(0,1,(.const (.int .i64 900))),(1,1,(.const (.int .i64 1000))),(2,1,(.const (.int .i64 1150)))]⟩,⟨some 132,some (126,true),.callF 28 [(.tmp 130),(.tmp 131)]⟩,O1 133 (.pick (.tmp 126) (.tmp 132) (.const (.bool false))),O1 134 (.mov (.tmp 133)),⟨some 135,some (134,true),.fldA 2 (.tmp 11)⟩,⟨some 136,some (134,true),.load none (.tmp 135)⟩,⟨some 137,some (134,true),.idxS 1 (.tmp 136) (.const (.int .i64 1))⟩,⟨some 138,some (134,true),.load none (.tmp 137)⟩,⟨some 139,some (134,true),.mkRow 3 1 3 [(.int .i64 0)] [(0,1,(.const (.int .i64 600))),(1,1,(.const (.int .i64 600))),(2,1,(.const (.int .i64 600)))]⟩] [⟨some 140,some (134,true),.callF 28 [(.tmp 138),(.tmp 139)]⟩,O1 141 (.pick (.tmp 134) (.tmp 140) (.const (.bool false))),O1 0 (.mov (.tmp 141))] [[],[],[],[],[],[],[],[],[],[],[],[],[],[],[],[],[],[],[],[],[],[],[],[],[],[],[],[],[],[],[],[],[],[],[],[],[],[],[],[],[],[],[],[],[],[],[],[]] [0]) (.ret))))))))),142,[(0,none)],true⟩
theorem ok15:FunOK Tryd.prog 15 c15:= .code ⟨Tryd.f15,_,c15.code,Tryd.func15,rfl,by kernel_rfl,rfl,by kernel_rfl,by kernel_rfl⟩
/- raddle/grade.Between -/
def c17l0:AC:= .seq (.ops [O1 54 (.bin .lss (.tmp 53) (.tmp 52))] [1,2,3,11,51,52,53,54]) (.seq (.cond (.tmp 54) (.skip) (.exit 0)) (.seq (.block 1 (.seq (.ops [O1 55 (.mov (.tmp 53)),O1 56 (.idxS 1 (.tmp 51) (.tmp 53)),O1 57 (.load none (.tmp 56)),O1 12 (.mov (.tmp 55)),O1 13 (.mov (.tmp 57))] [1,2,3,11,12,13,51,52,53]) (.draw [O1 58 (.mov (.tmp 11)),O1 59 (.mov (.tmp 12)),O1 60 (.mov (.tmp 13)),O1 61 (.mov (.tmp 1)),O1 62 (.idxS 1 (.tmp 60) (.tmp 61)),O1 63 (.load none (.tmp 62)),O1 64 (.mov (.tmp 3)),O1 65 (.mov (.tmp 2)),O1 66 (.bin .sub (.tmp 64) (.tmp 65)),O1 67 (.bin .mul (.tmp 63) (.tmp 66)),O1 68 (.mov (.tmp 13)),O1 69 (.mov (.tmp 1)),O1 70 (.bin .add (.tmp 69) (.const (.int .i64 1))),O1 71 (.idxS 1 (.tmp 68) (.tmp 70)),O1 72 (.load none (.tmp 71)),O1 73 (.mov (.tmp 2)),O1 74 (.bin .mul (.tmp 72) (.tmp 73)),O1 75 (.bin .add (.tmp 67) (.tmp 74)),O1 76 (.bin .mul (.const (.int .i64 2)) (.tmp 75)),O1 77 (.mov (.tmp 3)),O1 78 (.bin .add (.tmp 76) (.tmp 77)),O1 79 (.mov (.tmp 3)),O1 80 (.bin .mul (.const (.int .i64 2)) (.tmp 79)),O1 81 (.bin .quo (.tmp 78) (.tmp 80))] [O1 82 (.idxS 1 (.tmp 58) (.tmp 59)),⟨none,none,.store 1 (.tmp 82) (.tmp 81)⟩] [[],[],[],[],[],[],[],[],[],[],[],[],[],[],[],[],[],[],[],[],[],[],[],[]] [1,2,3,11,51,52,53]))) (.ops [O1 83 (.bin .add (.tmp 53) (.const (.int .i64 1))),O1 53 (.mov (.tmp 83))] [1,2,3,11,51,52,53])))
def c17:AFun:=⟨.seq (.ops [O1 4 (.box 25 (.tmp 0)),O1 8 (.mov (.const (.slice none 0 0))),O1 9 (.mov (.const (.int .i64 0)))] [1,2,3,4]) (.seq (.seq (.ops [O1 14 (.load (some 3) (.tmp 4)),O1 15 (.callF 19 [.tmp 14]),O1 10 (.mov (.tmp 15))] [1,2,3,4,10]) (.seq (.ops [O1 16 (.mov (.tmp 10)),O1 17 (.bin .neq (.tmp 16) (.const (.int .i64 0)))] [1,2,3,4,10,17]) (.cond (.tmp 17) (.seq (.ops [O1 18 (.mov (.tmp 10)),O1 8 (.mov (.const (.slice none 0 0))),O1 9 (.mov (.tmp 18))] [8,9]) (.ret)) (.skip)))) (.seq (.seq (.ops [O1 19 (.mov (.tmp 1)),O1 20 (.bin .lss (.tmp 19) (.const (.int .i64 0))),O1 21 (.mov (.tmp 20)),⟨some 22,some (21,false),.mov (.tmp 1)⟩,⟨some 23,some (21,false),.fldA 0 (.tmp 4)⟩,⟨some 24,some (21,false),.load none (.tmp 23)⟩,⟨some 25,some (21,false),.len false (.tmp 24)⟩,⟨some 26,some (21,false),.bin .sub (.tmp 25) (.const (.int .i64 1))⟩,⟨some 27,some (21,false),.bin .geq (.tmp 22) (.tmp 26)⟩,O1 28 (.pick (.tmp 21) (.const (.bool true)) (.tmp 27)),O1 29 (.mov (.tmp 28)),⟨some 30,some (29,false),.mov (.tmp 3)⟩,⟨some 31,some (29,false),.bin .lss (.tmp 30) (.const (.int .i64 1))⟩,O1 32 (.pick (.tmp 29) (.const (.bool true)) (.tmp 31)),O1 33 (.mov (.tmp 32)),⟨some 34,some (33,false),.mov (.tmp 3)⟩,⟨some 35,some (33,false),.bin .gtr (.tmp 34) (.const (.int .i64 1000))⟩,O1 36 (.pick (.tmp 33) (.const (.bool true)) (.tmp 35)),O1 37 (.mov (.tmp 36)),⟨some 38,some (37,false),.mov (.tmp 2)⟩,⟨some 39,some (37,false),.bin .lss (.tmp 38) (.const (.int .i64 0))⟩,O1 40 (.pick (.tmp 37) (.const (.bool true)) (.tmp 39)),O1 41 (.mov (.tmp 40)),⟨some 42,some (41,false),.mov (.tmp 2)⟩,⟨some 43,some (41,false),.mov (.tmp 3)⟩,⟨some 44,some (41,false),.bin .gtr (.tmp 42) (.tmp 43)⟩,O1 45 (.pick (.tmp 41) (.const (.bool true)) (.tmp 44))] [1,2,3,4,45]) (.cond (.tmp 45) (.seq (.ops [O1 8 (.mov (.const (.slice none 0 0))),O1 9 (.mov (.const (.int .i64 2)))] [8,9]) (.ret)) (.skip))) (.seq (.ops [O1 46 (.fldA 2 (.tmp 4)),O1 47 (.load none (.tmp 46)),O1 48 (.len false (.tmp 47)),O1 49 (.mkSlice 3 1 8 [(.int .i64 0)] (.tmp 48) (.tmp 48)),O1 11 (.mov (.tmp 49))] [1,2,3,4,11]) (.seq (.seq (.ops [O1 50 (.fldA 2 (.tmp 4)),O1 51 (.load none (.tmp 50)),O1 52 (.len false (.tmp 51)),O1 53 (.mov (.const (.int .i64 0)))] [1,2,3,11,51,52,53]) (.block 0 (.loop [1,2,3,11,51,52,53] c17l0))) (.seq (.ops [O1 84 (.mov (.tmp 11)),O1 8 (.mov (.tmp 84)),O1 9 (.mov (.const (.int .i64 0)))] [8,9]) (.ret)))))),85,[(8,none),(9,none)],true⟩
theorem ok17:FunOK Tryd.prog 17 c17:= .code ⟨Tryd.f17,_,c17.code,Tryd.func17,rfl,by kernel_rfl,rfl,by kernel_rfl,by kernel_rfl⟩
/- raddle/grade.Check -/
def c19l0:AC:= .seq (.ops [O1 71 (.bin .lss (.tmp 70) (.tmp 69))] [1,4,6,9,56,57,58,68,69,70,71]) (.seq (.cond (.tmp 71) (.skip) (.exit 2)) (.seq (.block 3 (.seq (.ops [O1 72 (.idxS 1 (.tmp 68) (.tmp 70)),O1 73 (.load none (.tmp 72)),O1 11 (.mov (.tmp 73))] [1,4,6,9,11,56,57,58,68,69,70]) (.seq (.seq (.ops [O1 74 (.mov (.tmp 11)),O1 75 (.mov (.tmp 9)),O1 76 (.bin .lss (.tmp 74) (.tmp 75)),O1 77 (.mov (.tmp 76)),⟨some 78,some (77,false),.mov (.tmp 11)⟩,⟨some 79,some (77,false),.bin .gtr (.tmp 78) (.const (.int .i64 1000000))⟩,O1 80 (.pick (.tmp 77) (.const (.bool true)) (.tmp 79))] [1,4,6,11,56,57,58,68,69,70,80]) (.cond (.tmp 80) (.seq (.ops [O1 2 (.mov (.const (.int .i64 8)))] [2]) (.ret)) (.skip))) (.ops [O1 81 (.mov (.tmp 11)),O1 9 (.mov (.tmp 81))] [1,4,6,9,56,57,58,68,69,70])))) (.ops [O1 82 (.bin .add (.tmp 70) (.const (.int .i64 1))),O1 70 (.mov (.tmp 82))] [1,4,6,9,56,57,58,68,69,70])))
def c19l1:AC:= .seq (.ops [O1 59 (.bin .lss (.tmp 58) (.tmp 57))] [1,4,6,56,57,58,59]) (.seq (.cond (.tmp 59) (.skip) (.exit 0)) (.seq (.block 1 (.seq (.ops [O1 60 (.idxS 1 (.tmp 56) (.tmp 58)),O1 61 (.load none (.tmp 60)),O1 8 (.mov (.tmp 61))] [1,4,6,8,56,57,58]) (.seq (.seq (.ops [O1 62 (.mov (.tmp 8)),O1 63 (.len false (.tmp 62)),O1 64 (.fldA 0 (.tmp 1)),O1 65 (.load none (.tmp 64)),O1 66 (.len false (.tmp 65)),O1 67 (.bin .neq (.tmp 63) (.tmp 66))] [1,4,6,8,56,57,58,67]) (.cond (.tmp 67) (.seq (.ops [O1 2 (.mov (.const (.int .i64 8)))] [2]) (.ret)) (.skip))) (.seq (.ops [O1 9 (.mov (.const (.int .i64 0)))] [1,4,6,8,9,56,57,58]) (.seq (.ops [O1 68 (.mov (.tmp 8)),O1 69 (.len false (.tmp 68)),O1 70 (.mov (.const (.int .i64 0)))] [1,4,6,9,56,57,58,68,69,70]) (.block 2 (.loop [1,4,6,9,56,57,58,68,69,70] c19l0))))))) (.ops [O1 83 (.bin .add (.tmp 58) (.const (.int .i64 1))),O1 58 (.mov (.tmp 83))] [1,4,6,56,57,58])))
def c19:AFun:=⟨.seq (.ops [O1 1 (.box 25 (.tmp 0)),O1 2 (.mov (.const (.int .i64 0)))] [1]) (.seq (.seq (.ops [O1 12 (.fldA 0 (.tmp 1)),O1 13 (.load none (.tmp 12)),O1 14 (.len false (.tmp 13)),O1 15 (.bin .gtr (.tmp 14) (.const (.int .i64 20))),O1 16 (.mov (.tmp 15)),⟨some 17,some (16,false),.fldA 1 (.tmp 1)⟩,⟨some 18,some (16,false),.load none (.tmp 17)⟩,⟨some 19,some (16,false),.len false (.tmp 18)⟩,⟨some 20,some (16,false),.bin .gtr (.tmp 19) (.const (.int .i64 30))⟩,O1 21 (.pick (.tmp 16) (.const (.bool true)) (.tmp 20))] [1,21]) (.cond (.tmp 21) (.seq (.ops [O1 2 (.mov (.const (.int .i64 4)))] [2]) (.ret)) (.skip))) (.seq (.ops [O1 23 (.fldA 0 (.tmp 1)),O1 24 (.load none (.tmp 23)),O1 25 (.callF 47 [.tmp 24]),O1 22 (.mov (.tmp 25)),O1 26 (.ext (.tmp 22) 0),O1 27 (.ext (.tmp 22) 1),O1 3 (.mov (.tmp 26)),O1 4 (.mov (.tmp 27))] [1,3,4]) (.seq (.ops [O1 29 (.fldA 1 (.tmp 1)),O1 30 (.load none (.tmp 29)),O1 31 (.callF 47 [.tmp 30]),O1 28 (.mov (.tmp 31)),O1 32 (.ext (.tmp 28) 0),O1 33 (.ext (.tmp 28) 1),O1 5 (.mov (.tmp 32)),O1 6 (.mov (.tmp 33))] [1,3,4,5,6]) (.seq (.seq (.ops [O1 34 (.mov (.tmp 3)),O1 35 (.un .not (.tmp 34)),O1 36 (.mov (.tmp 35)),⟨some 37,some (36,false),.mov (.tmp 5)⟩,⟨some 38,some (36,false),.un .not (.tmp 37)⟩,O1 39 (.pick (.tmp 36) (.const (.bool true)) (.tmp 38)),O1 40 (.mov (.tmp 39)),⟨some 41,some (40,false),.fldA 1 (.tmp 1)⟩,⟨some 42,some (40,false),.load none (.tmp 41)⟩,⟨some 43,some (40,false),.callF 48 [(.tmp 42),(.const (.string ⟨#[115,105,122,101]⟩))]⟩,⟨some 44,some (40,false),.bin .geq (.tmp 43) (.const (.int .i64 0))⟩,O1 45 (.pick (.tmp 40) (.const (.bool true)) (.tmp 44)),O1 46 (.mov (.tmp 45)),⟨some 47,some (46,false),.fldA 2 (.tmp 1)⟩,⟨some 48,some (46,false),.load none (.tmp 47)⟩,⟨some 49,some (46,false),.len false (.tmp 48)⟩,⟨some 50,some (46,false),.fldA 1 (.tmp 1)⟩,⟨some 51,some (46,false),.load none (.tmp 50)⟩,⟨some 52,some (46,false),.len false (.tmp 51)⟩,⟨some 53,some (46,false),.bin .neq (.tmp 49) (.tmp 52)⟩,O1 54 (.pick (.tmp 46) (.const (.bool true)) (.tmp 53))] [1,4,6,54]) (.cond (.tmp 54) (.seq (.ops [O1 2 (.mov (.const (.int .i64 8)))] [2]) (.ret)) (.skip))) (.seq (.seq (.ops [O1 55 (.fldA 2 (.tmp 1)),O1 56 (.load none (.tmp 55)),O1 57 (.len false (.tmp 56)),O1 58 (.mov (.const (.int .i64 0)))] [1,4,6,56,57,58]) (.block 0 (.loop [1,4,6,56,57,58] c19l1))) (.seq (.seq (.ops [O1 84 (.mov (.tmp 4)),O1 85 (.mov (.tmp 84)),⟨some 86,some (85,false),.mov (.tmp 6)⟩,O1 87 (.pick (.tmp 85) (.const (.bool true)) (.tmp 86))] [87]) (.cond (.tmp 87) (.seq (.ops [O1 2 (.mov (.const (.int .i64 14)))] [2]) (.ret)) (.skip))) (.seq (.ops [O1 2 (.mov (.const (.int .i64 0)))] [2]) (.ret)))))))),88,[(2,none)],true⟩
theorem ok19:FunOK Tryd.prog 19 c19:= .code ⟨Tryd.f19,_,c19.code,Tryd.func19,rfl,by kernel_rfl,rfl,by kernel_rfl,by kernel_rfl⟩
/- raddle/grade.Next -/
def c21l0:AC:= .seq (.ops [O1 39 (.bin .lss (.tmp 38) (.tmp 37))] [1,2,4,7,9,36,37,38,39]) (.seq (.cond (.tmp 39) (.skip) (.exit 0)) (.seq (.block 1 (.seq (.ops [O1 40 (.mov (.tmp 38)),O1 41 (.idxS 1 (.tmp 36) (.tmp 38)),O1 42 (.load none (.tmp 41)),O1 10 (.mov (.tmp 40)),O1 11 (.mov (.tmp 42))] [1,2,4,7,9,10,11,36,37,38]) (.seq (.draw [O1 43 (.mov (.tmp 9)),O1 44 (.mov (.tmp 10)),O1 45 (.mov (.tmp 11)),O1 46 (.mov (.tmp 7)),O1 47 (.bin .sub (.tmp 46) (.const (.int .i64 1))),O1 48 (.idxS 1 (.tmp 45) (.tmp 47)),O1 49 (.load none (.tmp 48)),O1 50 (.bin .mul (.const (.int .i64 2)) (.tmp 49)),O1 51 (.mov (.tmp 11)),O1 52 (.mov (.tmp 7)),O1 53 (.bin .sub (.tmp 52) (.const (.int .i64 2))),O1 54 (.idxS 1 (.tmp 51) (.tmp 53)),O1 55 (.load none (.tmp 54)),O1 56 (.bin .sub (.tmp 50) (.tmp 55))] [O1 57 (.idxS 1 (.tmp 43) (.tmp 44)),⟨none,none,.store 1 (.tmp 57) (.tmp 56)⟩] [[],[],[],[],[],[],[],[],[],[],[],[],[],[]] [1,2,4,7,9,10,36,37,38]) (.seq (.ops [O1 58 (.mov (.tmp 9)),O1 59 (.mov (.tmp 10)),O1 60 (.idxS 1 (.tmp 58) (.tmp 59)),O1 61 (.load none (.tmp 60)),O1 62 (.bin .gtr (.tmp 61) (.const (.int .i64 1000000)))] [1,2,4,7,9,36,37,38,62]) (.cond (.tmp 62) (.seq (.ops [O1 63 (.build [(.slice none 0 0),(.slice none 0 0),(.slice none 0 0)] []),⟨none,none,.store 3 (.tmp 4) (.tmp 63)⟩,O1 5 (.mov (.const (.int .i64 16)))] [4,5]) (.ret)) (.skip)))))) (.ops [O1 64 (.bin .add (.tmp 38) (.const (.int .i64 1))),O1 38 (.mov (.tmp 64))] [1,2,4,7,9,36,37,38])))
def c21:AFun:=⟨.seq (.ops [O1 2 (.box 25 (.tmp 0)),O1 4 (.alloc 25 [(3,(.slice none 0 0))]),O1 5 (.mov (.const (.int .i64 0)))] [1,2,4]) (.seq (.seq (.ops [O1 12 (.load (some 3) (.tmp 2)),O1 13 (.callF 19 [.tmp 12]),O1 6 (.mov (.tmp 13))] [1,2,4,6]) (.seq (.ops [O1 14 (.mov (.tmp 6)),O1 15 (.bin .neq (.tmp 14) (.const (.int .i64 0)))] [1,2,4,6,15]) (.cond (.tmp 15) (.seq (.ops [O1 16 (.build [(.slice none 0 0),(.slice none 0 0),(.slice none 0 0)] []),O1 17 (.mov (.tmp 6)),⟨none,none,.store 3 (.tmp 4) (.tmp 16)⟩,O1 5 (.mov (.tmp 17))] [4,5]) (.ret)) (.skip)))) (.seq (.ops [O1 18 (.fldA 0 (.tmp 2)),O1 19 (.load none (.tmp 18)),O1 20 (.len false (.tmp 19)),O1 7 (.mov (.tmp 20))] [1,2,4,7]) (.seq (.seq (.ops [O1 21 (.mov (.tmp 7)),O1 22 (.bin .lss (.tmp 21) (.const (.int .i64 2)))] [1,2,4,7,22]) (.cond (.tmp 22) (.seq (.ops [O1 23 (.build [(.slice none 0 0),(.slice none 0 0),(.slice none 0 0)] []),⟨none,none,.store 3 (.tmp 4) (.tmp 23)⟩,O1 5 (.mov (.const (.int .i64 22)))] [4,5]) (.ret)) (.skip))) (.seq (.seq (.ops [O1 24 (.load (some 3) (.tmp 2)),O1 25 (.mov (.tmp 1)),O1 26 (.callF 45 [(.tmp 24),(.tmp 25)]),O1 8 (.mov (.tmp 26))] [1,2,4,7,8]) (.seq (.ops [O1 27 (.mov (.tmp 8)),O1 28 (.bin .neq (.tmp 27) (.const (.int .i64 0)))] [1,2,4,7,8,28]) (.cond (.tmp 28) (.seq (.ops [O1 29 (.build [(.slice none 0 0),(.slice none 0 0),(.slice none 0 0)] []),O1 30 (.mov (.tmp 8)),⟨none,none,.store 3 (.tmp 4) (.tmp 29)⟩,O1 5 (.mov (.tmp 30))] [4,5]) (.ret)) (.skip)))) (.seq (.ops [O1 31 (.fldA 2 (.tmp 2)),O1 32 (.load none (.tmp 31)),O1 33 (.len false (.tmp 32)),O1 34 (.mkSlice 3 1 8 [(.int .i64 0)] (.tmp 33) (.tmp 33)),O1 9 (.mov (.tmp 34))] [1,2,4,7,9]) (.seq (.seq (.ops [O1 35 (.fldA 2 (.tmp 2)),O1 36 (.load none (.tmp 35)),O1 37 (.len false (.tmp 36)),O1 38 (.mov (.const (.int .i64 0)))] [1,2,4,7,9,36,37,38]) (.block 0 (.loop [1,2,4,7,9,36,37,38] c21l0))) (.seq (.ops [O1 65 (.load (some 3) (.tmp 2)),O1 66 (.mov (.tmp 7)),O1 67 (.mov (.tmp 1)),O1 68 (.mov (.tmp 9)),O1 69 (.callF 46 [(.tmp 65),(.tmp 66),(.tmp 67),(.tmp 68)]),⟨none,none,.store 3 (.tmp 4) (.tmp 69)⟩,O1 5 (.mov (.const (.int .i64 0)))] [4,5]) (.ret)))))))),70,[(4,(some (some 3))),(5,none)],true⟩
theorem ok21:FunOK Tryd.prog 21 c21:= .code ⟨Tryd.f21,_,c21.code,Tryd.func21,rfl,by kernel_rfl,rfl,by kernel_rfl,by kernel_rfl⟩
/- raddle/grade.Snap -/
def c22:AFun:=⟨.seq (.ops [O1 2 (.box 25 (.tmp 0)),O1 3 (.box 3 (.tmp 1)),O1 4 (.alloc 25 [(3,(.slice none 0 0))]),O1 5 (.mov (.const (.int .i64 0)))] [2,3,4]) (.seq (.seq (.ops [O1 9 (.load (some 3) (.tmp 2)),O1 10 (.callF 19 [.tmp 9]),O1 6 (.mov (.tmp 10))] [2,3,4,6]) (.seq (.ops [O1 11 (.mov (.tmp 6)),O1 12 (.bin .neq (.tmp 11) (.const (.int .i64 0)))] [2,3,4,6,12]) (.cond (.tmp 12) (.seq (.ops [O1 13 (.build [(.slice none 0 0),(.slice none 0 0),(.slice none 0 0)] []),O1 14 (.mov (.tmp 6)),⟨none,none,.store 3 (.tmp 4) (.tmp 13)⟩,O1 5 (.mov (.tmp 14))] [4,5]) (.ret)) (.skip)))) (.seq (.seq (.ops [O1 15 (.load none (.tmp 3)),O1 16 (.bin .lss (.tmp 15) (.const (.int .i64 1))),O1 17 (.mov (.tmp 16)),⟨some 18,some (17,false),.load none (.tmp 3)⟩,⟨some 19,some (17,false),.bin .gtr (.tmp 18) (.const (.int .i64 10000))⟩,O1 20 (.pick (.tmp 17) (.const (.bool true)) (.tmp 19))] [2,3,4,20]) (.cond (.tmp 20) (.seq (.ops [O1 21 (.build [(.slice none 0 0),(.slice none 0 0),(.slice none 0 0)] []),⟨none,none,.store 3 (.tmp 4) (.tmp 21)⟩,O1 5 (.mov (.const (.int .i64 2)))] [4,5]) (.ret)) (.skip))) (.seq (.ops [O1 7 (.alloc 4 [(1,(.bool false))]),⟨none,none,.store 1 (.tmp 7) (.const (.bool true))⟩] [2,3,4,7]) (.seq (.ops [O1 22 (.load (some 3) (.tmp 2)),O1 23 (.mkFn 50 [] [(.tmp 3),(.tmp 7)]),O1 24 (.callF 49 [(.tmp 22),(.tmp 23)]),O1 8 (.alloc 25 [(3,(.slice none 0 0))]),⟨none,none,.store 3 (.tmp 8) (.tmp 24)⟩] [4,7,8]) (.seq (.seq (.ops [O1 25 (.load none (.tmp 7)),O1 26 (.un .not (.tmp 25))] [4,8,26]) (.cond (.tmp 26) (.seq (.ops [O1 27 (.build [(.slice none 0 0),(.slice none 0 0),(.slice none 0 0)] []),⟨none,none,.store 3 (.tmp 4) (.tmp 27)⟩,O1 5 (.mov (.const (.int .i64 16)))] [4,5]) (.ret)) (.skip))) (.seq (.ops [O1 28 (.load (some 3) (.tmp 8)),⟨none,none,.store 3 (.tmp 4) (.tmp 28)⟩,O1 5 (.mov (.const (.int .i64 0)))] [4,5]) (.ret))))))),29,[(4,(some (some 3))),(5,none)],true⟩
theorem ok22:FunOK Tryd.prog 22 c22:= .code ⟨Tryd.f22,_,c22.code,Tryd.func22,rfl,by kernel_rfl,rfl,by kernel_rfl,by kernel_rfl⟩
/- raddle/grade.Find -/
def c23l0:AC:= .seq (.ops [O1 30 (.bin .lss (.tmp 29) (.tmp 28))] [2,3,27,28,29,30]) (.seq (.cond (.tmp 30) (.skip) (.exit 0)) (.seq (.block 1 (.seq (.ops [O1 31 (.mov (.tmp 29)),O1 32 (.idxS 1 (.tmp 27) (.tmp 29)),O1 33 (.load none (.tmp 32)),O1 10 (.mov (.tmp 31)),O1 11 (.mov (.tmp 33))] [2,3,10,11,27,28,29]) (.seq (.ops [O1 34 (.mov (.tmp 11)),O1 35 (.mov (.tmp 2)),O1 36 (.bin .geq (.tmp 34) (.tmp 35))] [2,3,10,27,28,29,36]) (.cond (.tmp 36) (.seq (.ops [O1 37 (.fldA 0 (.tmp 3)),O1 38 (.load none (.tmp 37)),O1 39 (.mov (.tmp 10)),O1 40 (.idxS 1 (.tmp 38) (.tmp 39)),O1 41 (.load none (.tmp 40)),O1 6 (.mov (.tmp 41)),O1 7 (.mov (.const (.int .i64 0)))] [6,7]) (.ret)) (.skip))))) (.ops [O1 42 (.bin .add (.tmp 29) (.const (.int .i64 1))),O1 29 (.mov (.tmp 42))] [2,3,27,28,29])))
def c23:AFun:=⟨.seq (.ops [O1 3 (.box 25 (.tmp 0)),O1 6 (.mov (.const (.string ⟨#[]⟩))),O1 7 (.mov (.const (.int .i64 0)))] [1,2,3]) (.seq (.seq (.ops [O1 12 (.load (some 3) (.tmp 3)),O1 13 (.callF 19 [.tmp 12]),O1 8 (.mov (.tmp 13))] [1,2,3,8]) (.seq (.ops [O1 14 (.mov (.tmp 8)),O1 15 (.bin .neq (.tmp 14) (.const (.int .i64 0)))] [1,2,3,8,15]) (.cond (.tmp 15) (.seq (.ops [O1 16 (.mov (.tmp 8)),O1 6 (.mov (.const (.string ⟨#[]⟩))),O1 7 (.mov (.tmp 16))] [6,7]) (.ret)) (.skip)))) (.seq (.seq (.ops [O1 17 (.fldA 1 (.tmp 3)),O1 18 (.load none (.tmp 17)),O1 19 (.mov (.tmp 1)),O1 20 (.callF 48 [(.tmp 18),(.tmp 19)]),O1 9 (.mov (.tmp 20))] [2,3,9]) (.seq (.ops [O1 21 (.mov (.tmp 9)),O1 22 (.bin .geq (.tmp 21) (.const (.int .i64 0)))] [2,3,9,22]) (.cond (.tmp 22) (.seq (.ops [O1 23 (.fldA 2 (.tmp 3)),O1 24 (.load none (.tmp 23)),O1 25 (.mov (.tmp 9)),O1 26 (.idxS 1 (.tmp 24) (.tmp 25)),O1 27 (.load none (.tmp 26)),O1 28 (.len false (.tmp 27)),O1 29 (.mov (.const (.int .i64 0)))] [2,3,27,28,29]) (.block 0 (.loop [2,3,27,28,29] c23l0))) (.skip)))) (.seq (.ops [O1 6 (.mov (.const (.string ⟨#[]⟩))),O1 7 (.mov (.const (.int .i64 6)))] [6,7]) (.ret)))),43,[(6,none),(7,none)],true⟩
theorem ok23:FunOK Tryd.prog 23 c23:= .code ⟨Tryd.f23,_,c23.code,Tryd.func23,rfl,by kernel_rfl,rfl,by kernel_rfl,by kernel_rfl⟩
/- raddle/raddleref36.Same -/
def c28l0:AC:= .seq (.seq (.ops [O1 11 (.mov (.tmp 5)),O1 12 (.mov (.tmp 0)),O1 13 (.len false (.tmp 12)),O1 14 (.bin .lss (.tmp 11) (.tmp 13))] [0,1,5,14]) (.cond (.tmp 14) (.skip) (.exit 0))) (.seq (.block 1 (.seq (.draw [O1 17 (.mov (.tmp 0)),O1 18 (.mov (.tmp 5)),O1 19 (.idxS 1 (.tmp 17) (.tmp 18)),O1 20 (.load none (.tmp 19)),O1 21 (.mov (.tmp 1)),O1 22 (.mov (.tmp 5)),O1 23 (.idxS 1 (.tmp 21) (.tmp 22)),O1 24 (.load none (.tmp 23))] [O1 25 (.bin .neq (.tmp 20) (.tmp 24))] [[],[],[],[],[],[],[],[]] [0,1,5,25]) (.cond (.tmp 25) (.seq (.ops [O1 4 (.mov (.const (.bool false)))] [4]) (.ret)) (.skip)))) (.ops [O1 15 (.mov (.tmp 5)),O1 16 (.bin .add (.tmp 15) (.const (.int .i64 1))),O1 5 (.mov (.tmp 16))] [0,1,5]))
def c28:AFun:=⟨.seq (.ops [O1 4 (.mov (.const (.bool false)))] [0,1]) (.seq (.seq (.ops [O1 6 (.mov (.tmp 0)),O1 7 (.len false (.tmp 6)),O1 8 (.mov (.tmp 1)),O1 9 (.len false (.tmp 8)),O1 10 (.bin .neq (.tmp 7) (.tmp 9))] [0,1,10]) (.cond (.tmp 10) (.seq (.ops [O1 4 (.mov (.const (.bool false)))] [4]) (.ret)) (.skip))) (.seq (.seq (.ops [O1 5 (.mov (.const (.int .i64 0)))] [0,1,5]) (.block 0 (.loop [0,1,5] c28l0))) (.seq (.ops [O1 4 (.mov (.const (.bool true)))] [4]) (.ret)))),26,[(4,none)],true⟩
theorem ok28:FunOK Tryd.prog 28 c28:= .code ⟨Tryd.f28,_,c28.code,Tryd.func28,rfl,by kernel_rfl,rfl,by kernel_rfl,by kernel_rfl⟩
/- (*strings.Builder).WriteString -/
def c29:AFun:=⟨.seq (.ops [O1 4 (.mov (.const (.int .i64 0))),O1 5 (.mov (.const .nilIface))] [0,1]) (.seq (.ops [O1 6 (.mov (.tmp 0)),O1 7 (.callF 51 [.tmp 6])] [0,1]) (.seq (.ops [O1 8 (.mov (.tmp 0)),O1 9 (.mov (.tmp 0)),O1 10 (.nilChk (.tmp 9)),O1 11 (.fldA 1 (.tmp 10)),O1 12 (.load none (.tmp 11)),O1 13 (.mov (.tmp 1)),O1 14 (.app 5 1 1 (.tmp 12) (.tmp 13)),O1 15 (.nilChk (.tmp 8)),O1 16 (.fldA 1 (.tmp 15)),⟨none,none,.store 1 (.tmp 16) (.tmp 14)⟩] [1]) (.seq (.ops [O1 17 (.mov (.tmp 1)),O1 18 (.len true (.tmp 17)),O1 4 (.mov (.tmp 18)),O1 5 (.mov (.const .nilIface))] [4,5]) (.ret)))),19,[(4,none),(5,none)],false⟩
theorem ok29:FunOK Tryd.prog 29 c29:= .code ⟨Tryd.f29,_,c29.code,Tryd.func29,rfl,by kernel_rfl,rfl,by kernel_rfl,by kernel_rfl⟩
/- strings.Join (2 operations that the interpreter lacks) -/
def c30l0:AC:= .seq (.ops [O1 66 (.bin .lss (.tmp 65) (.tmp 64))] [1,8,63,64,65,66]) (.seq (.cond (.tmp 66) (.skip) (.exit 3)) (.seq (.block 4 (.seq (.ops [O1 67 (.idxS 1 (.tmp 63) (.tmp 65)),O1 68 (.load none (.tmp 67)),O1 10 (.mov (.tmp 68))] [1,8,10,63,64,65]) (.seq (.ops [O1 69 (.mov (.tmp 1)),O1 70 (.callF 29 [(.tmp 8),(.tmp 69)])] [1,8,10,63,64,65]) (.ops [O1 71 (.mov (.tmp 10)),O1 72 (.callF 29 [(.tmp 8),(.tmp 71)])] [1,8,63,64,65])))) (.ops [O1 73 (.bin .add (.tmp 65) (.const (.int .i64 1))),O1 65 (.mov (.tmp 73))] [1,8,63,64,65])))
def c30l1:AC:= .seq (.ops [O1 42 (.bin .lss (.tmp 41) (.tmp 40))] [0,1,5,39,40,41,42]) (.seq (.cond (.tmp 42) (.skip) (.exit 1)) (.seq (.block 2 (.seq (.ops [O1 43 (.idxS 1 (.tmp 39) (.tmp 41)),O1 44 (.load none (.tmp 43)),O1 7 (.mov (.tmp 44))] [0,1,5,7,39,40,41]) (.seq (.seq (.ops [O1 45 (.mov (.tmp 7)),O1 46 (.len true (.tmp 45)),O1 47 (.mov (.tmp 5)),O1 48 (.bin .sub (.const (.int .i64 9223372036854775807)) (.tmp 47)),O1 49 (.bin .gtr (.tmp 46) (.tmp 48))] [0,1,5,7,39,40,41,49]) (.cond (.tmp 49) (.ops [O1 50 (.mkIf 9 (.const (.string ⟨#[115,116,114,105,110,103,115,58,32,74,111,105,110,32,111,117,116,112,117,116,32,108,101,110,103,116,104,32,111,118,101,114,102,108,111,119]⟩))),⟨none,none,.bad⟩] [0,1,5,7,39,40,41]) (.skip))) (.ops [O1 51 (.mov (.tmp 5)),O1 52 (.mov (.tmp 7)),O1 53 (.len true (.tmp 52)),O1 54 (.bin .add (.tmp 51) (.tmp 53)),O1 5 (.mov (.tmp 54))] [0,1,5,39,40,41])))) (.ops [O1 55 (.bin .add (.tmp 41) (.const (.int .i64 1))),O1 41 (.mov (.tmp 55))] [0,1,5,39,40,41])))
def c30:AFun:=⟨.seq (.ops [O1 4 (.mov (.const (.string ⟨#[]⟩)))] [0,1]) (.seq (.seq (.ops [O1 11 (.mov (.tmp 0)),O1 12 (.len false (.tmp 11))] [0,1,12]) (.block 0 (.seq (.ops [O1 14 (.bin .eql (.tmp 12) (.const (.int .i64 0))),O1 13 (.mov (.tmp 14))] [0,1,12,13]) (.cond (.tmp 13) (.seq (.ops [O1 4 (.mov (.const (.string ⟨#[]⟩)))] [4]) (.ret)) (.seq (.ops [O1 16 (.bin .eql (.tmp 12) (.const (.int .i64 1))),O1 15 (.mov (.tmp 16))] [0,1,15]) (.cond (.tmp 15) (.seq (.ops [O1 17 (.mov (.tmp 0)),O1 18 (.idxS 1 (.tmp 17) (.const (.int .i64 0))),O1 19 (.load none (.tmp 18)),O1 4 (.mov (.tmp 19))] [4]) (.ret)) (.skip))))))) (.seq (.ops [O1 5 (.mov (.const (.int .i64 0)))] [0,1,5]) (.seq (.seq (.ops [O1 20 (.mov (.tmp 1)),O1 21 (.len true (.tmp 20)),O1 22 (.bin .gtr (.tmp 21) (.const (.int .i64 0)))] [0,1,5,22]) (.cond (.tmp 22) (.seq (.seq (.ops [O1 23 (.mov (.tmp 1)),O1 24 (.len true (.tmp 23)),O1 25 (.mov (.tmp 0)),O1 26 (.len false (.tmp 25)),O1 27 (.bin .sub (.tmp 26) (.const (.int .i64 1))),O1 28 (.bin .quo (.const (.int .i64 9223372036854775807)) (.tmp 27)),O1 29 (.bin .geq (.tmp 24) (.tmp 28))] [0,1,5,29]) (.cond (.tmp 29) (.ops [O1 30 (.mkIf 9 (.const (.string ⟨#[115,116,114,105,110,103,115,58,32,74,111,105,110,32,111,117,116,112,117,116,32,108,101,110,103,116,104,32,111,118,101,114,102,108,111,119]⟩))),⟨none,none,.bad⟩] [0,1,5]) (.skip))) (.ops [O1 31 (.mov (.tmp 5)),O1 32 (.mov (.tmp 1)),O1 33 (.len true (.tmp 32)),O1 34 (.mov (.tmp 0)),O1 35 (.len false (.tmp 34)),O1 36 (.bin .sub (.tmp 35) (.const (.int .i64 1))),O1 37 (.bin .mul (.tmp 33) (.tmp 36)),O1 38 (.bin .add (.tmp 31) (.tmp 37)),O1 5 (.mov (.tmp 38))] [0,1,5])) (.skip))) (.seq (.seq (.ops [O1 39 (.mov (.tmp 0)),O1 40 (.len false (.tmp 39)),O1 41 (.mov (.const (.int .i64 0)))] [0,1,5,39,40,41]) (.block 1 (.loop [0,1,5,39,40,41] c30l1))) (.seq (.ops [O1 8 (.alloc 61 [(1,(.pointer none)),(1,(.slice none 0 0))])] [0,1,5,8]) (.seq (.ops [O1 56 (.mov (.tmp 5)),O1 57 (.callF 52 [(.tmp 8),(.tmp 56)])] [0,1,8]) (.seq (.ops [O1 58 (.mov (.tmp 0)),O1 59 (.idxS 1 (.tmp 58) (.const (.int .i64 0))),O1 60 (.load none (.tmp 59)),O1 61 (.callF 29 [(.tmp 8),(.tmp 60)])] [0,1,8]) (.seq (.seq (.ops [O1 62 (.mov (.tmp 0)),O1 63 (.slc 1 (.tmp 62) (some (.const (.int .i64 1))) none none),O1 64 (.len false (.tmp 63)),O1 65 (.mov (.const (.int .i64 0)))] [1,8,63,64,65]) (.block 3 (.loop [1,8,63,64,65] c30l0))) (.seq (.ops [O1 74 (.callF 34 [.tmp 8]),O1 4 (.mov (.tmp 74))] [4]) (.ret)))))))))),75,[(4,none)],true⟩
theorem ok30:FunOK Tryd.prog 30 c30:= .code ⟨Tryd.f30,_,c30.code,Tryd.func30,rfl,by kernel_rfl,rfl,by kernel_rfl,by kernel_rfl⟩
/- (*strings.Builder).WriteByte -/
def c31:AFun:=⟨.seq (.ops [O1 4 (.mov (.const .nilIface))] [0,1]) (.seq (.ops [O1 5 (.mov (.tmp 0)),O1 6 (.callF 51 [.tmp 5])] [0,1]) (.seq (.ops [O1 7 (.mov (.tmp 0)),O1 8 (.mov (.tmp 0)),O1 9 (.nilChk (.tmp 8)),O1 10 (.fldA 1 (.tmp 9)),O1 11 (.load none (.tmp 10)),O1 12 (.mov (.tmp 1)),O1 13 (.mkRow 5 1 1 [(.int .u8 0)] [(0,1,(.tmp 12))]),O1 14 (.app 5 1 1 (.tmp 11) (.tmp 13)),O1 15 (.nilChk (.tmp 7)),O1 16 (.fldA 1 (.tmp 15)),⟨none,none,.store 1 (.tmp 16) (.tmp 14)⟩] []) (.seq (.ops [O1 4 (.mov (.const .nilIface))] [4]) (.ret)))),17,[(4,none)],false⟩
theorem ok31:FunOK Tryd.prog 31 c31:= .code ⟨Tryd.f31,_,c31.code,Tryd.func31,rfl,by kernel_rfl,rfl,by kernel_rfl,by kernel_rfl⟩
/- strconv.Itoa -/
def c32:AFun:=⟨.seq (.ops [O1 2 (.mov (.const (.string ⟨#[]⟩)))] [0]) (.seq (.ops [O1 3 (.mov (.tmp 0)),O1 4 (.callF 53 [.tmp 3]),O1 2 (.mov (.tmp 4))] [2]) (.ret)),5,[(2,none)],true⟩
theorem ok32:FunOK Tryd.prog 32 c32:= .code ⟨Tryd.f32,_,c32.code,Tryd.func32,rfl,by kernel_rfl,rfl,by kernel_rfl,by kernel_rfl⟩
/- (*strings.Builder).Len -/
def c33:AFun:=⟨.seq (.ops [O1 2 (.mov (.const (.int .i64 0)))] [0]) (.seq (.ops [O1 3 (.mov (.tmp 0)),O1 4 (.nilChk (.tmp 3)),O1 5 (.fldA 1 (.tmp 4)),O1 6 (.load none (.tmp 5)),O1 7 (.len false (.tmp 6)),O1 2 (.mov (.tmp 7))] [2]) (.ret)),8,[(2,none)],true⟩
theorem ok33:FunOK Tryd.prog 33 c33:= .code ⟨Tryd.f33,_,c33.code,Tryd.func33,rfl,by kernel_rfl,rfl,by kernel_rfl,by kernel_rfl⟩
/- (*strings.Builder).String -/
def c34:AFun:=⟨.seq (.ops [O1 2 (.mov (.const (.string ⟨#[]⟩)))] [0]) (.seq (.draw [O1 3 (.mov (.tmp 0)),O1 4 (.nilChk (.tmp 3)),O1 5 (.fldA 1 (.tmp 4)),O1 6 (.load none (.tmp 5)),O1 7 (.sdata (.tmp 6)),O1 8 (.mov (.tmp 0)),O1 9 (.nilChk (.tmp 8)),O1 10 (.fldA 1 (.tmp 9)),O1 11 (.load none (.tmp 10)),O1 12 (.len false (.tmp 11))] [O1 13 (.ustr 5 (.tmp 7) (.tmp 12)),O1 2 (.mov (.tmp 13))] [[],[],[],[],[],[],[],[],[],[]] [2]) (.ret)),14,[(2,none)],false⟩
theorem ok34:FunOK Tryd.prog 34 c34:= .code ⟨Tryd.f34,_,c34.code,Tryd.func34,rfl,by kernel_rfl,rfl,by kernel_rfl,by kernel_rfl⟩
/- strings.Split -/
def c36:AFun:=⟨.seq (.ops [O1 4 (.mov (.const (.slice none 0 0)))] [0,1]) (.seq (.ops [O1 5 (.mov (.tmp 0)),O1 6 (.mov (.tmp 1)),O1 7 (.callF 54 [(.tmp 5),(.tmp 6),(.const (.int .i64 0)),(.const (.int .i64 (-1)))]),O1 4 (.mov (.tmp 7))] [4]) (.ret)),8,[(4,none)],true⟩
theorem ok36:FunOK Tryd.prog 36 c36:= .code ⟨Tryd.f36,_,c36.code,Tryd.func36,rfl,by kernel_rfl,rfl,by kernel_rfl,by kernel_rfl⟩
/- strings.TrimSuffix -/
def c37:AFun:=⟨.seq (.ops [O1 4 (.mov (.const (.string ⟨#[]⟩)))] [0,1]) (.seq (.ops [O1 5 (.mov (.tmp 0)),O1 6 (.mov (.tmp 1)),O1 7 (.callF 55 [(.tmp 5),(.tmp 6)]),O1 4 (.mov (.tmp 7))] [4]) (.ret)),8,[(4,none)],true⟩
theorem ok37:FunOK Tryd.prog 37 c37:= .code ⟨Tryd.f37,_,c37.code,Tryd.func37,rfl,by kernel_rfl,rfl,by kernel_rfl,by kernel_rfl⟩
/- strconv.Atoi -/
def c38:AFun:=⟨.seq (.ops [O1 2 (.mov (.const (.int .i64 0))),O1 3 (.mov (.const .nilIface))] [0]) (.seq (.ops [O1 7 (.mov (.tmp 0)),O1 8 (.callF 56 [.tmp 7]),O1 6 (.mov (.tmp 8)),O1 9 (.ext (.tmp 6) 0),O1 10 (.ext (.tmp 6) 1),O1 4 (.mov (.tmp 9)),O1 5 (.mov (.tmp 10))] [0,4,5]) (.seq (.seq (.ops [O1 11 (.mov (.tmp 5)),O1 12 (.eqIf true true [2,3,5,6,12,21,27,97,105,116,124,146,147,149,150] (.tmp 11) (.const .nilIface))] [0,4,5,12]) (.cond (.tmp 12) (.seq (.ops [O1 13 (.mov (.tmp 4)),O1 14 (.mov (.tmp 0)),O1 15 (.mov (.tmp 5)),O1 16 (.callF 57 [(.const (.string ⟨#[65,116,111,105]⟩)),(.tmp 14),(.const (.int .i64 0)),(.const (.int .i64 0)),(.tmp 15)]),O1 2 (.mov (.tmp 13)),O1 3 (.mov (.tmp 16))] [2,3]) (.ret)) (.skip))) (.seq (.ops [O1 17 (.mov (.tmp 4)),O1 2 (.mov (.tmp 17)),O1 3 (.mov (.const .nilIface))] [2,3]) (.ret)))),18,[(2,none),(3,none)],true⟩
theorem ok38:FunOK Tryd.prog 38 c38:= .code ⟨Tryd.f38,_,c38.code,Tryd.func38,rfl,by kernel_rfl,rfl,by kernel_rfl,by kernel_rfl⟩
/- raddle/raddlelaw40.given -/
def c41:AFun:=⟨.seq (.ops [O1 0 (.alloc 25 [(3,(.slice none 0 0))])] [0]) (.seq (.ops [O1 1 (.mkRow 9 1 3 [(.string ⟨#[]⟩)] [(0,1,(.const (.string ⟨#[115]⟩))),(1,1,(.const (.string ⟨#[109]⟩))),(2,1,(.const (.string ⟨#[108]⟩)))]),O1 2 (.mkRow 9 1 2 [(.string ⟨#[]⟩)] [(0,1,(.const (.string ⟨#[99,104,101,115,116]⟩))),(1,1,(.const (.string ⟨#[115,108,101,101,118,101]⟩)))]),O1 3 (.mkRow 3 1 3 [(.int .i64 0)] [(0,1,(.const (.int .i64 900))),(1,1,(.const (.int .i64 1000))),(2,1,(.const (.int .i64 1150)))]),O1 4 (.mkRow 3 1 3 [(.int .i64 0)] [(0,1,(.const (.int .i64 580))),(1,1,(.const (.int .i64 600))),(2,1,(.const (.int .i64 620)))]),O1 5 (.mkRow 40 1 2 [(.slice none 0 0)] [(0,1,(.tmp 3)),(1,1,(.tmp 4))]),O1 6 (.build [(.slice none 0 0),(.slice none 0 0),(.slice none 0 0)] [(0,1,(.tmp 1)),(1,1,(.tmp 2)),(2,1,(.tmp 5))]),⟨none,none,.store 3 (.tmp 0) (.tmp 6)⟩] [0]) (.ret)),7,[(0,(some (some 3)))],true⟩
theorem ok41:FunOK Tryd.prog 41 c41:= .code ⟨Tryd.f41,_,c41.code,Tryd.func41,rfl,by kernel_rfl,rfl,by kernel_rfl,by kernel_rfl⟩
/- raddle/grade.fresh -/
def c45:AFun:=⟨.seq (.ops [O1 2 (.box 25 (.tmp 0)),O1 4 (.mov (.const (.int .i64 0)))] [1,2]) (.seq (.block 0 (.seq (.ops [O1 6 (.fldA 0 (.tmp 2)),O1 7 (.load none (.tmp 6)),O1 8 (.len false (.tmp 7)),O1 9 (.bin .geq (.tmp 8) (.const (.int .i64 20))),O1 5 (.mov (.tmp 9))] [1,2,5]) (.cond (.tmp 5) (.seq (.ops [O1 4 (.mov (.const (.int .i64 4)))] [4]) (.ret)) (.seq (.ops [O1 11 (.mov (.tmp 1)),O1 12 (.callF 59 [.tmp 11]),O1 13 (.un .not (.tmp 12)),O1 10 (.mov (.tmp 13))] [1,2,10]) (.cond (.tmp 10) (.seq (.ops [O1 4 (.mov (.const (.int .i64 8)))] [4]) (.ret)) (.seq (.ops [O1 15 (.fldA 0 (.tmp 2)),O1 16 (.load none (.tmp 15)),O1 17 (.mov (.tmp 1)),O1 18 (.callF 48 [(.tmp 16),(.tmp 17)]),O1 19 (.bin .geq (.tmp 18) (.const (.int .i64 0))),O1 14 (.mov (.tmp 19))] [14]) (.cond (.tmp 14) (.seq (.ops [O1 4 (.mov (.const (.int .i64 14)))] [4]) (.ret)) (.skip)))))))) (.seq (.ops [O1 4 (.mov (.const (.int .i64 0)))] [4]) (.ret))),20,[(4,none)],true⟩
theorem ok45:FunOK Tryd.prog 45 c45:= .code ⟨Tryd.f45,_,c45.code,Tryd.func45,rfl,by kernel_rfl,rfl,by kernel_rfl,by kernel_rfl⟩
/- raddle/grade.put -/
def c46:AFun:=⟨.seq (.ops [O1 4 (.box 25 (.tmp 0)),O1 5 (.box 3 (.tmp 1)),O1 7 (.box 40 (.tmp 3)),O1 8 (.alloc 25 [(3,(.slice none 0 0))])] [2,4,5,7,8]) (.seq (.ops [O1 9 (.alloc 3 [(1,(.int .i64 0))]),⟨none,none,.store 1 (.tmp 9) (.const (.int .i64 (-1)))⟩] [2,4,5,7,8,9]) (.seq (.ops [O1 11 (.load (some 3) (.tmp 4)),O1 12 (.mkFn 60 [] [(.tmp 9),(.tmp 5),(.tmp 7)]),O1 13 (.callF 49 [(.tmp 11),(.tmp 12)]),O1 10 (.alloc 25 [(3,(.slice none 0 0))]),⟨none,none,.store 3 (.tmp 10) (.tmp 13)⟩] [2,4,5,8,10]) (.seq (.ops [O1 14 (.fldA 0 (.tmp 4)),O1 15 (.load none (.tmp 14)),O1 16 (.load none (.tmp 5)),O1 17 (.mov (.tmp 2)),O1 18 (.callF 62 [(.tmp 15),(.tmp 16),(.tmp 17)]),O1 19 (.fldA 0 (.tmp 10)),⟨none,none,.store 1 (.tmp 19) (.tmp 18)⟩] [8,10]) (.seq (.ops [O1 20 (.load (some 3) (.tmp 10)),⟨none,none,.store 3 (.tmp 8) (.tmp 20)⟩] [8]) (.ret))))),21,[(8,(some (some 3)))],false⟩
theorem ok46:FunOK Tryd.prog 46 c46:= .code ⟨Tryd.f46,_,c46.code,Tryd.func46,rfl,by kernel_rfl,rfl,by kernel_rfl,by kernel_rfl⟩
/- raddle/grade.words -/
def c47l0:AC:= .seq (.ops [O1 12 (.bin .lss (.tmp 11) (.tmp 10))] [0,2,3,9,10,11,12]) (.seq (.cond (.tmp 12) (.skip) (.exit 0)) (.seq (.block 1 (.seq (.ops [O1 13 (.mov (.tmp 11)),O1 14 (.idxS 1 (.tmp 9) (.tmp 11)),O1 15 (.load none (.tmp 14)),O1 4 (.mov (.tmp 13)),O1 5 (.mov (.tmp 15))] [0,2,3,4,5,9,10,11]) (.seq (.ops [O1 16 (.mov (.tmp 2)),O1 17 (.mov (.tmp 16)),⟨some 18,some (17,true),.mov (.tmp 5)⟩,⟨some 19,some (17,true),.callF 59 [.tmp 18]⟩,O1 20 (.pick (.tmp 17) (.tmp 19) (.const (.bool false))),O1 2 (.mov (.tmp 20))] [0,2,3,4,5,9,10,11]) (.ops [O1 21 (.mov (.tmp 3)),O1 22 (.mov (.tmp 21)),⟨some 23,some (22,false),.mov (.tmp 0)⟩,⟨some 24,some (22,false),.mov (.tmp 5)⟩,⟨some 25,some (22,false),.callF 48 [(.tmp 23),(.tmp 24)]⟩,⟨some 26,some (22,false),.mov (.tmp 4)⟩,⟨some 27,some (22,false),.bin .lss (.tmp 25) (.tmp 26)⟩,O1 28 (.pick (.tmp 22) (.const (.bool true)) (.tmp 27)),O1 3 (.mov (.tmp 28))] [0,2,3,9,10,11])))) (.ops [O1 29 (.bin .add (.tmp 11) (.const (.int .i64 1))),O1 11 (.mov (.tmp 29))] [0,2,3,9,10,11])))
def c47:AFun:=⟨.seq (.ops [O1 2 (.mov (.const (.bool false))),O1 3 (.mov (.const (.bool false)))] [0,3]) (.seq (.ops [O1 6 (.mov (.tmp 0)),O1 7 (.len false (.tmp 6)),O1 8 (.bin .gtr (.tmp 7) (.const (.int .i64 0))),O1 2 (.mov (.tmp 8))] [0,2,3]) (.seq (.seq (.ops [O1 9 (.mov (.tmp 0)),O1 10 (.len false (.tmp 9)),O1 11 (.mov (.const (.int .i64 0)))] [0,2,3,9,10,11]) (.block 0 (.loop [0,2,3,9,10,11] c47l0))) (.seq (.ops [O1 30 (.mov (.tmp 2)),O1 31 (.mov (.tmp 3)),O1 2 (.mov (.tmp 30)),O1 3 (.mov (.tmp 31))] [2,3]) (.ret)))),32,[(2,none),(3,none)],true⟩
theorem ok47:FunOK Tryd.prog 47 c47:= .code ⟨Tryd.f47,_,c47.code,Tryd.func47,rfl,by kernel_rfl,rfl,by kernel_rfl,by kernel_rfl⟩
/- raddle/grade.index[string] -/
def c48l0:AC:= .seq (.ops [O1 10 (.bin .lss (.tmp 9) (.tmp 8))] [1,7,8,9,10]) (.seq (.cond (.tmp 10) (.skip) (.exit 0)) (.seq (.block 1 (.seq (.ops [O1 11 (.mov (.tmp 9)),O1 12 (.idxS 1 (.tmp 7) (.tmp 9)),O1 13 (.load none (.tmp 12)),O1 5 (.mov (.tmp 11)),O1 6 (.mov (.tmp 13))] [1,5,6,7,8,9]) (.seq (.ops [O1 14 (.mov (.tmp 1)),O1 15 (.mov (.tmp 6)),O1 16 (.bin .eql (.tmp 14) (.tmp 15))] [1,5,7,8,9,16]) (.cond (.tmp 16) (.seq (.ops [O1 17 (.mov (.tmp 5)),O1 4 (.mov (.tmp 17))] [4]) (.ret)) (.skip))))) (.ops [O1 18 (.bin .add (.tmp 9) (.const (.int .i64 1))),O1 9 (.mov (.tmp 18))] [1,7,8,9])))
def c48:AFun:=⟨.seq (.ops [O1 4 (.mov (.const (.int .i64 0)))] [0,1]) (.seq (.seq (.ops [O1 7 (.mov (.tmp 0)),O1 8 (.len false (.tmp 7)),O1 9 (.mov (.const (.int .i64 0)))] [1,7,8,9]) (.block 0 (.loop [1,7,8,9] c48l0))) (.seq (.ops [O1 4 (.mov (.const (.int .i64 (-1))))] [4]) (.ret))),19,[(4,none)],true⟩
theorem ok48:FunOK Tryd.prog 48 c48:= .code ⟨Tryd.f48,_,c48.code,Tryd.func48,rfl,by kernel_rfl,rfl,by kernel_rfl,by kernel_rfl⟩
/- raddle/grade.each -/
def c49l0:AC:= .seq (.ops [O1 25 (.bin .lss (.tmp 24) (.tmp 23))] [1,4,5,22,23,24,25]) (.seq (.cond (.tmp 25) (.skip) (.exit 0)) (.seq (.block 1 (.seq (.ops [O1 26 (.mov (.tmp 24)),O1 27 (.idxS 1 (.tmp 22) (.tmp 24)),O1 28 (.load none (.tmp 27)),O1 6 (.mov (.tmp 26)),O1 7 (.mov (.tmp 28))] [1,4,5,6,7,22,23,24]) (.drawW [⟨O1 29 (.fldA 2 (.tmp 5)),[],none⟩,⟨O1 30 (.load none (.tmp 29)),[],none⟩,⟨O1 31 (.mov (.tmp 6)),[0,1],none⟩,⟨O1 32 (.mov (.tmp 1)),[0,1,2],none⟩,⟨O1 33 (.mov (.tmp 7)),[0,1,2,3],none⟩,⟨O1 34 (.callV (.tmp 32) [.tmp 33]),[0,1,2],(some [5])⟩] [O1 35 (.idxS 1 (.tmp 30) (.tmp 31)),⟨none,none,.store 1 (.tmp 35) (.tmp 34)⟩] [1,4,5,22,23,24]))) (.ops [O1 36 (.bin .add (.tmp 24) (.const (.int .i64 1))),O1 24 (.mov (.tmp 36))] [1,4,5,22,23,24])))
def c49:AFun:=⟨.seq (.ops [O1 2 (.box 25 (.tmp 0)),O1 4 (.alloc 25 [(3,(.slice none 0 0))])] [1,2,4]) (.seq (.draw [O1 8 (.mkRow 9 1 0 [(.string ⟨#[]⟩)] []),O1 9 (.fldA 0 (.tmp 2)),O1 10 (.load none (.tmp 9)),O1 11 (.app 9 1 16 (.tmp 8) (.tmp 10)),O1 12 (.mkRow 9 1 0 [(.string ⟨#[]⟩)] []),O1 13 (.fldA 1 (.tmp 2)),O1 14 (.load none (.tmp 13)),O1 15 (.app 9 1 16 (.tmp 12) (.tmp 14)),O1 16 (.fldA 2 (.tmp 2)),O1 17 (.load none (.tmp 16)),O1 18 (.len false (.tmp 17)),O1 19 (.mkSlice 40 1 24 [(.slice none 0 0)] (.tmp 18) (.tmp 18)),O1 20 (.build [(.slice none 0 0),(.slice none 0 0),(.slice none 0 0)] [(0,1,(.tmp 11)),(1,1,(.tmp 15)),(2,1,(.tmp 19))]),O1 5 (.alloc 25 [(3,(.slice none 0 0))])] [⟨none,none,.store 3 (.tmp 5) (.tmp 20)⟩] [[],[false],[true,false],[],[false,false,false,false],[false,false,false,false,false],[true,false,false,false,false,false],[],[false,false,false,false,false,false,false,false],[true,false,false,false,false,false,false,false,false],[true,true,false,false,false,false,false,false,false,false],[true,true,true,false,false,false,false,false,false,false,false],[],[false,false,false,false,false,false,false,false,false,false,false,false,false]] [1,2,4,5]) (.seq (.seq (.ops [O1 21 (.fldA 2 (.tmp 2)),O1 22 (.load none (.tmp 21)),O1 23 (.len false (.tmp 22)),O1 24 (.mov (.const (.int .i64 0)))] [1,4,5,22,23,24]) (.block 0 (.loop [1,4,5,22,23,24] c49l0))) (.seq (.ops [O1 37 (.load (some 3) (.tmp 5)),⟨none,none,.store 3 (.tmp 4) (.tmp 37)⟩] [4]) (.ret)))),38,[(4,(some (some 3)))],false⟩
theorem ok49:FunOK Tryd.prog 49 c49:= .code ⟨Tryd.f49,_,c49.code,Tryd.func49,rfl,by kernel_rfl,rfl,by kernel_rfl,by kernel_rfl⟩
/- raddle/grade.Snap$1 -/
def c50l0:AC:= .seq (.ops [O1 14 (.bin .lss (.tmp 13) (.tmp 12))] [1,2,5,11,12,13,14]) (.seq (.cond (.tmp 14) (.skip) (.exit 0)) (.seq (.block 1 (.seq (.ops [O1 15 (.mov (.tmp 13)),O1 16 (.idxS 1 (.tmp 11) (.tmp 13)),O1 17 (.load none (.tmp 16)),O1 6 (.mov (.tmp 15)),O1 7 (.mov (.tmp 17))] [1,2,5,6,7,11,12,13]) (.seq (.draw [O1 18 (.mov (.tmp 5)),O1 19 (.mov (.tmp 6)),O1 20 (.load none (.tmp 1)),O1 21 (.mov (.tmp 7)),O1 22 (.bin .mul (.const (.int .i64 2)) (.tmp 21)),O1 23 (.load none (.tmp 1)),O1 24 (.bin .add (.tmp 22) (.tmp 23)),O1 25 (.load none (.tmp 1)),O1 26 (.bin .mul (.const (.int .i64 2)) (.tmp 25)),O1 27 (.bin .quo (.tmp 24) (.tmp 26)),O1 28 (.bin .mul (.tmp 20) (.tmp 27))] [O1 29 (.idxS 1 (.tmp 18) (.tmp 19)),⟨none,none,.store 1 (.tmp 29) (.tmp 28)⟩] [[],[],[],[],[],[],[],[],[],[],[]] [1,2,5,6,11,12,13]) (.ops [O1 30 (.load none (.tmp 2)),O1 31 (.mov (.tmp 30)),⟨some 32,some (31,true),.mov (.tmp 5)⟩,⟨some 33,some (31,true),.mov (.tmp 6)⟩,⟨some 34,some (31,true),.idxS 1 (.tmp 32) (.tmp 33)⟩,⟨some 35,some (31,true),.load none (.tmp 34)⟩,⟨some 36,some (31,true),.bin .leq (.tmp 35) (.const (.int .i64 1000000))⟩,O1 37 (.pick (.tmp 31) (.tmp 36) (.const (.bool false))),⟨none,none,.store 1 (.tmp 2) (.tmp 37)⟩] [1,2,5,11,12,13])))) (.ops [O1 38 (.bin .add (.tmp 13) (.const (.int .i64 1))),O1 13 (.mov (.tmp 38))] [1,2,5,11,12,13])))
def c50:AFun:=⟨.seq (.ops [O1 4 (.mov (.const (.slice none 0 0)))] [0,1,2]) (.seq (.ops [O1 8 (.mov (.tmp 0)),O1 9 (.len false (.tmp 8)),O1 10 (.mkSlice 3 1 8 [(.int .i64 0)] (.tmp 9) (.tmp 9)),O1 5 (.mov (.tmp 10))] [0,1,2,5]) (.seq (.seq (.ops [O1 11 (.mov (.tmp 0)),O1 12 (.len false (.tmp 11)),O1 13 (.mov (.const (.int .i64 0)))] [1,2,5,11,12,13]) (.block 0 (.loop [1,2,5,11,12,13] c50l0))) (.seq (.ops [O1 39 (.mov (.tmp 5)),O1 4 (.mov (.tmp 39))] [4]) (.ret)))),40,[(4,none)],false⟩
theorem ok50:FunOK Tryd.prog 50 c50:= .code ⟨Tryd.f50,_,c50.code,Tryd.func50,rfl,by kernel_rfl,rfl,by kernel_rfl,by kernel_rfl⟩
/- (*strings.Builder).copyCheck (1 operations that the interpreter lacks) -/
def c51:AFun:=⟨.seq (.ops [O1 2 (.mov (.tmp 0)),O1 3 (.nilChk (.tmp 2)),O1 4 (.fldA 0 (.tmp 3)),O1 5 (.load none (.tmp 4)),O1 6 (.eqNil 0 false (.tmp 5) (.const (.pointer none)))] [0,6]) (.cond (.tmp 6) (.ops [O1 7 (.mov (.tmp 0)),O1 8 (.mov (.tmp 0)),O1 9 (.toUns (.tmp 8)),O1 10 (.callF 63 [.tmp 9]),O1 11 (.fromUns 61 2 (.tmp 10)),O1 12 (.nilChk (.tmp 7)),O1 13 (.fldA 0 (.tmp 12)),⟨none,none,.store 1 (.tmp 13) (.tmp 11)⟩] []) (.seq (.ops [O1 14 (.mov (.tmp 0)),O1 15 (.nilChk (.tmp 14)),O1 16 (.fldA 0 (.tmp 15)),O1 17 (.load none (.tmp 16)),O1 18 (.mov (.tmp 0)),O1 19 (.eqPtr true (.tmp 17) (.tmp 18))] [19]) (.cond (.tmp 19) (.bad) (.skip)))),20,[],false⟩
theorem ok51:FunOK Tryd.prog 51 c51:= .code ⟨Tryd.f51,_,c51.code,Tryd.func51,rfl,by kernel_rfl,rfl,by kernel_rfl,by kernel_rfl⟩
/- (*strings.Builder).Grow (1 operations that the interpreter lacks) -/
def c52:AFun:=⟨.seq (.ops [O1 4 (.mov (.tmp 0)),O1 5 (.callF 51 [.tmp 4])] [0,1]) (.seq (.seq (.ops [O1 6 (.mov (.tmp 1)),O1 7 (.bin .lss (.tmp 6) (.const (.int .i64 0)))] [0,1,7]) (.cond (.tmp 7) (.ops [O1 8 (.mkIf 9 (.const (.string ⟨#[115,116,114,105,110,103,115,46,66,117,105,108,100,101,114,46,71,114,111,119,58,32,110,101,103,97,116,105,118,101,32,99,111,117,110,116]⟩))),⟨none,none,.bad⟩] [0,1]) (.skip))) (.seq (.draw [O1 9 (.mov (.tmp 0)),O1 10 (.nilChk (.tmp 9)),O1 11 (.fldA 1 (.tmp 10)),O1 12 (.load none (.tmp 11)),O1 13 (.cap (.tmp 12)),O1 14 (.mov (.tmp 0)),O1 15 (.nilChk (.tmp 14)),O1 16 (.fldA 1 (.tmp 15)),O1 17 (.load none (.tmp 16)),O1 18 (.len false (.tmp 17)),O1 19 (.bin .sub (.tmp 13) (.tmp 18)),O1 20 (.mov (.tmp 1))] [O1 21 (.bin .lss (.tmp 19) (.tmp 20))] [[],[],[],[],[],[],[],[],[],[],[],[]] [0,1,21]) (.cond (.tmp 21) (.ops [O1 22 (.mov (.tmp 0)),O1 23 (.mov (.tmp 1)),O1 24 (.callF 64 [(.tmp 22),(.tmp 23)])] []) (.skip)))),25,[],false⟩
theorem ok52:FunOK Tryd.prog 52 c52:= .code ⟨Tryd.f52,_,c52.code,Tryd.func52,rfl,by kernel_rfl,rfl,by kernel_rfl,by kernel_rfl⟩
/- internal/strconv.Itoa -/
def c53:AFun:=⟨.seq (.ops [O1 2 (.mov (.const (.string ⟨#[]⟩)))] [0]) (.seq (.ops [O1 3 (.mov (.tmp 0)),O1 4 (.callF 65 [(.tmp 3),(.const (.int .i64 10))]),O1 2 (.mov (.tmp 4))] [2]) (.ret)),5,[(2,none)],true⟩
theorem ok53:FunOK Tryd.prog 53 c53:= .code ⟨Tryd.f53,_,c53.code,Tryd.func53,rfl,by kernel_rfl,rfl,by kernel_rfl,by kernel_rfl⟩
/- strings.genSplit -/
def c54l0:AC:= .seq (.seq (.ops [O1 34 (.mov (.tmp 10)),O1 35 (.mov (.tmp 3)),O1 36 (.bin .lss (.tmp 34) (.tmp 35))] [0,1,2,3,9,10,36]) (.cond (.tmp 36) (.skip) (.exit 0))) (.block 1 (.seq (.ops [O1 37 (.mov (.tmp 0)),O1 38 (.mov (.tmp 1)),O1 39 (.callF 68 [(.tmp 37),(.tmp 38)]),O1 11 (.mov (.tmp 39))] [0,1,2,3,9,10,11]) (.seq (.seq (.ops [O1 40 (.mov (.tmp 11)),O1 41 (.bin .lss (.tmp 40) (.const (.int .i64 0)))] [0,1,2,3,9,10,11,41]) (.cond (.tmp 41) (.exit 0) (.skip))) (.seq (.ops [O1 42 (.mov (.tmp 9)),O1 43 (.mov (.tmp 10)),O1 44 (.mov (.tmp 0)),O1 45 (.mov (.tmp 11)),O1 46 (.mov (.tmp 2)),O1 47 (.bin .add (.tmp 45) (.tmp 46)),O1 48 (.slcS (.tmp 44) none (some (.tmp 47))),O1 49 (.idxS 1 (.tmp 42) (.tmp 43)),⟨none,none,.store 1 (.tmp 49) (.tmp 48)⟩] [0,1,2,3,9,10,11]) (.seq (.ops [O1 50 (.mov (.tmp 0)),O1 51 (.mov (.tmp 11)),O1 52 (.mov (.tmp 1)),O1 53 (.len true (.tmp 52)),O1 54 (.bin .add (.tmp 51) (.tmp 53)),O1 55 (.slcS (.tmp 50) (some (.tmp 54)) none),O1 0 (.mov (.tmp 55))] [0,1,2,3,9,10]) (.ops [O1 56 (.mov (.tmp 10)),O1 57 (.bin .add (.tmp 56) (.const (.int .i64 1))),O1 10 (.mov (.tmp 57))] [0,1,2,3,9,10]))))))
def c54:AFun:=⟨.seq (.ops [O1 8 (.mov (.const (.slice none 0 0)))] [0,1,2,3]) (.seq (.seq (.ops [O1 12 (.mov (.tmp 3)),O1 13 (.bin .eql (.tmp 12) (.const (.int .i64 0)))] [0,1,2,3,13]) (.cond (.tmp 13) (.seq (.ops [O1 8 (.mov (.const (.slice none 0 0)))] [8]) (.ret)) (.skip))) (.seq (.seq (.ops [O1 14 (.mov (.tmp 1)),O1 15 (.bin .eql (.tmp 14) (.const (.string ⟨#[]⟩)))] [0,1,2,3,15]) (.cond (.tmp 15) (.seq (.ops [O1 16 (.mov (.tmp 0)),O1 17 (.mov (.tmp 3)),O1 18 (.callF 66 [(.tmp 16),(.tmp 17)]),O1 8 (.mov (.tmp 18))] [8]) (.ret)) (.skip))) (.seq (.seq (.ops [O1 19 (.mov (.tmp 3)),O1 20 (.bin .lss (.tmp 19) (.const (.int .i64 0)))] [0,1,2,3,20]) (.cond (.tmp 20) (.ops [O1 21 (.mov (.tmp 0)),O1 22 (.mov (.tmp 1)),O1 23 (.callF 67 [(.tmp 21),(.tmp 22)]),O1 24 (.bin .add (.tmp 23) (.const (.int .i64 1))),O1 3 (.mov (.tmp 24))] [0,1,2,3]) (.skip))) (.seq (.ops [O1 25 (.mov (.tmp 3)),O1 26 (.mov (.tmp 0)),O1 27 (.len true (.tmp 26)),O1 28 (.bin .add (.tmp 27) (.const (.int .i64 1))),O1 29 (.mm false (.tmp 25) (.tmp 28)),O1 3 (.mov (.tmp 29))] [0,1,2,3]) (.seq (.ops [O1 30 (.mov (.tmp 3)),O1 31 (.mkSlice 9 1 16 [(.string ⟨#[]⟩)] (.tmp 30) (.tmp 30)),O1 9 (.mov (.tmp 31))] [0,1,2,3,9]) (.seq (.ops [O1 32 (.mov (.tmp 3)),O1 33 (.bin .sub (.tmp 32) (.const (.int .i64 1))),O1 3 (.mov (.tmp 33))] [0,1,2,3,9]) (.seq (.ops [O1 10 (.mov (.const (.int .i64 0)))] [0,1,2,3,9,10]) (.seq (.block 0 (.loop [0,1,2,3,9,10] c54l0)) (.seq (.ops [O1 58 (.mov (.tmp 9)),O1 59 (.mov (.tmp 10)),O1 60 (.mov (.tmp 0)),O1 61 (.idxS 1 (.tmp 58) (.tmp 59)),⟨none,none,.store 1 (.tmp 61) (.tmp 60)⟩] [9,10]) (.seq (.ops [O1 62 (.mov (.tmp 9)),O1 63 (.mov (.tmp 10)),O1 64 (.bin .add (.tmp 63) (.const (.int .i64 1))),O1 65 (.slc 1 (.tmp 62) none (some (.tmp 64)) none),O1 8 (.mov (.tmp 65))] [8]) (.ret))))))))))),66,[(8,none)],true⟩
theorem ok54:FunOK Tryd.prog 54 c54:= .code ⟨Tryd.f54,_,c54.code,Tryd.func54,rfl,by kernel_rfl,rfl,by kernel_rfl,by kernel_rfl⟩
/- internal/stringslite.TrimSuffix -/
def c55:AFun:=⟨.seq (.ops [O1 4 (.mov (.const (.string ⟨#[]⟩)))] [0,1]) (.seq (.seq (.ops [O1 5 (.mov (.tmp 0)),O1 6 (.mov (.tmp 1)),O1 7 (.callF 69 [(.tmp 5),(.tmp 6)])] [0,1,7]) (.cond (.tmp 7) (.seq (.ops [O1 8 (.mov (.tmp 0)),O1 9 (.mov (.tmp 0)),O1 10 (.len true (.tmp 9)),O1 11 (.mov (.tmp 1)),O1 12 (.len true (.tmp 11)),O1 13 (.bin .sub (.tmp 10) (.tmp 12)),O1 14 (.slcS (.tmp 8) none (some (.tmp 13))),O1 4 (.mov (.tmp 14))] [4]) (.ret)) (.skip))) (.seq (.ops [O1 15 (.mov (.tmp 0)),O1 4 (.mov (.tmp 15))] [4]) (.ret))),16,[(4,none)],true⟩
theorem ok55:FunOK Tryd.prog 55 c55:= .code ⟨Tryd.f55,_,c55.code,Tryd.func55,rfl,by kernel_rfl,rfl,by kernel_rfl,by kernel_rfl⟩
/- internal/strconv.Atoi -/
def c56l0:AC:= .seq (.ops [O1 50 (.bin .lss (.tmp 49) (.tmp 48))] [5,6,47,48,49,50]) (.seq (.cond (.tmp 50) (.skip) (.exit 0)) (.seq (.block 1 (.seq (.ops [O1 51 (.idxS 1 (.tmp 47) (.tmp 49)),O1 52 (.load none (.tmp 51)),O1 8 (.mov (.tmp 52))] [5,6,8,47,48,49]) (.seq (.ops [O1 53 (.mov (.tmp 8)),O1 54 (.bin .sub (.tmp 53) (.const (.int .u8 48))),O1 8 (.mov (.tmp 54))] [5,6,8,47,48,49]) (.seq (.seq (.ops [O1 55 (.mov (.tmp 8)),O1 56 (.bin .gtr (.tmp 55) (.const (.int .u8 9)))] [5,6,8,47,48,49,56]) (.cond (.tmp 56) (.seq (.ops [O1 57 (.mkIf 97 (.const (.int .i64 2))),O1 2 (.mov (.const (.int .i64 0))),O1 3 (.mov (.tmp 57))] [2,3]) (.ret)) (.skip))) (.ops [O1 58 (.mov (.tmp 6)),O1 59 (.bin .mul (.tmp 58) (.const (.int .i64 10))),O1 60 (.mov (.tmp 8)),O1 61 (.convI .i64 (.tmp 60)),O1 62 (.bin .add (.tmp 59) (.tmp 61)),O1 6 (.mov (.tmp 62))] [5,6,47,48,49]))))) (.ops [O1 63 (.bin .add (.tmp 49) (.const (.int .i64 1))),O1 49 (.mov (.tmp 63))] [5,6,47,48,49])))
def c56:AFun:=⟨.seq (.ops [O1 2 (.mov (.const (.int .i64 0))),O1 3 (.mov (.const .nilIface))] [0]) (.seq (.ops [O1 11 (.mov (.tmp 0)),O1 12 (.len true (.tmp 11)),O1 4 (.mov (.tmp 12))] [0,4]) (.seq (.seq (.ops [O1 13 (.mov (.const (.bool false))),⟨some 14,some (13,true),.mov (.tmp 4)⟩,⟨some 15,some (13,true),.bin .lss (.const (.int .i64 0)) (.tmp 14)⟩,⟨some 16,some (13,true),.mov (.tmp 15)⟩,⟨some 17,some (16,true),.mov (.tmp 4)⟩,⟨some 18,some (16,true),.bin .lss (.tmp 17) (.const (.int .i64 10))⟩,⟨some 19,some (13,true),.pick (.tmp 16) (.tmp 18) (.const (.bool false))⟩,O1 20 (.pick (.tmp 13) (.tmp 19) (.const (.bool false))),O1 21 (.mov (.tmp 20)),⟨some 22,some (21,false),.mov (.const (.bool true))⟩,⟨some 23,some (22,true),.mov (.tmp 4)⟩,⟨some 24,some (22,true),.bin .lss (.const (.int .i64 0)) (.tmp 23)⟩,⟨some 25,some (22,true),.mov (.tmp 24)⟩,⟨some 26,some (25,true),.mov (.tmp 4)⟩,⟨some 27,some (25,true),.bin .lss (.tmp 26) (.const (.int .i64 19))⟩,⟨some 28,some (22,true),.pick (.tmp 25) (.tmp 27) (.const (.bool false))⟩,⟨some 29,some (21,false),.pick (.tmp 22) (.tmp 28) (.const (.bool false))⟩,O1 30 (.pick (.tmp 21) (.const (.bool true)) (.tmp 29))] [0,30]) (.cond (.tmp 30) (.seq (.ops [O1 31 (.mov (.tmp 0)),O1 5 (.mov (.tmp 31))] [0,5]) (.seq (.seq (.ops [O1 32 (.mov (.tmp 0)),O1 33 (.idxStr (.tmp 32) (.const (.int .i64 0))),O1 34 (.bin .eql (.tmp 33) (.const (.int .u8 45))),O1 35 (.mov (.tmp 34)),⟨some 36,some (35,false),.mov (.tmp 0)⟩,⟨some 37,some (35,false),.idxStr (.tmp 36) (.const (.int .i64 0))⟩,⟨some 38,some (35,false),.bin .eql (.tmp 37) (.const (.int .u8 43))⟩,O1 39 (.pick (.tmp 35) (.const (.bool true)) (.tmp 38))] [0,5,39]) (.cond (.tmp 39) (.seq (.ops [O1 40 (.mov (.tmp 0)),O1 41 (.slcS (.tmp 40) (some (.const (.int .i64 1))) none),O1 0 (.mov (.tmp 41))] [0,5]) (.seq (.ops [O1 42 (.mov (.tmp 0)),O1 43 (.len true (.tmp 42)),O1 44 (.bin .lss (.tmp 43) (.const (.int .i64 1)))] [0,5,44]) (.cond (.tmp 44) (.seq (.ops [O1 45 (.mkIf 97 (.const (.int .i64 2))),O1 2 (.mov (.const (.int .i64 0))),O1 3 (.mov (.tmp 45))] [2,3]) (.ret)) (.skip)))) (.skip))) (.seq (.ops [O1 6 (.mov (.const (.int .i64 0)))] [0,5,6]) (.seq (.seq (.ops [O1 46 (.mov (.tmp 0)),O1 47 (.s2b 5 (.tmp 46)),O1 48 (.len false (.tmp 47)),O1 49 (.mov (.const (.int .i64 0)))] [5,6,47,48,49]) (.block 0 (.loop [5,6,47,48,49] c56l0))) (.seq (.seq (.ops [O1 64 (.mov (.tmp 5)),O1 65 (.idxStr (.tmp 64) (.const (.int .i64 0))),O1 66 (.bin .eql (.tmp 65) (.const (.int .u8 45)))] [6,66]) (.cond (.tmp 66) (.ops [O1 67 (.mov (.tmp 6)),O1 68 (.un .neg (.tmp 67)),O1 6 (.mov (.tmp 68))] [6]) (.skip))) (.seq (.ops [O1 69 (.mov (.tmp 6)),O1 2 (.mov (.tmp 69)),O1 3 (.mov (.const .nilIface))] [2,3]) (.ret))))))) (.skip))) (.seq (.ops [O1 71 (.mov (.tmp 0)),O1 72 (.callF 70 [(.tmp 71),(.const (.int .i64 10)),(.const (.int .i64 0))]),O1 70 (.mov (.tmp 72)),O1 73 (.ext (.tmp 70) 0),O1 74 (.ext (.tmp 70) 1),O1 9 (.mov (.tmp 73)),O1 10 (.mov (.tmp 74))] [9,10]) (.seq (.ops [O1 75 (.mov (.tmp 9)),O1 76 (.mov (.tmp 10)),
  O1 2 (.mov (.tmp 75)),O1 3 (.mov (.tmp 76))] [2,3]) (.ret))))),77,[(2,none),(3,none)],true⟩
theorem ok56:FunOK Tryd.prog 56 c56:= .code ⟨Tryd.f56,_,c56.code,Tryd.func56,rfl,by kernel_rfl,rfl,by kernel_rfl,by kernel_rfl⟩
/- strconv.toError -/
def c57:AFun:=⟨.seq (.ops [O1 10 (.mov (.const .nilIface))] [0,1,2,3,4]) (.seq (.seq (.ops [O1 11 (.mov (.tmp 4))] [0,1,2,3,4,11]) (.block 0 (.seq (.ops [O1 13 (.mkIf 97 (.const (.int .i64 2))),O1 14 (.eqIf false false [2,3,5,6,12,21,27,97,105,116,124,146,147,149,150] (.tmp 11) (.tmp 13)),O1 12 (.mov (.tmp 14))] [0,1,2,3,4,11,12]) (.cond (.tmp 12) (.seq (.ops [O1 15 (.mov (.tmp 0)),O1 16 (.mov (.tmp 1)),O1 17 (.callF 71 [(.tmp 15),(.tmp 16)]),O1 18 (.mkIf 100 (.tmp 17)),O1 10 (.mov (.tmp 18))] [10]) (.ret)) (.seq (.ops [O1 20 (.mkIf 97 (.const (.int .i64 1))),O1 21 (.eqIf false false [2,3,5,6,12,21,27,97,105,116,124,146,147,149,150] (.tmp 11) (.tmp 20)),O1 19 (.mov (.tmp 21))] [0,1,2,3,4,11,19]) (.cond (.tmp 19) (.seq (.ops [O1 22 (.mov (.tmp 0)),O1 23 (.mov (.tmp 1)),O1 24 (.callF 72 [(.tmp 22),(.tmp 23)]),O1 25 (.mkIf 100 (.tmp 24)),O1 10 (.mov (.tmp 25))] [10]) (.ret)) (.seq (.ops [O1 27 (.mkIf 97 (.const (.int .i64 3))),O1 28 (.eqIf false false [2,3,5,6,12,21,27,97,105,116,124,146,147,149,150] (.tmp 11) (.tmp 27)),O1 26 (.mov (.tmp 28))] [0,1,2,3,4,11,26]) (.cond (.tmp 26) (.seq (.ops [O1 29 (.mov (.tmp 0)),O1 30 (.mov (.tmp 1)),O1 31 (.mov (.tmp 2)),O1 32 (.callF 73 [(.tmp 29),(.tmp 30),(.tmp 31)]),O1 33 (.mkIf 100 (.tmp 32)),O1 10 (.mov (.tmp 33))] [10]) (.ret)) (.seq (.ops [O1 35 (.mkIf 97 (.const (.int .i64 4))),O1 36 (.eqIf false false [2,3,5,6,12,21,27,97,105,116,124,146,147,149,150] (.tmp 11) (.tmp 35)),O1 34 (.mov (.tmp 36))] [0,1,3,4,34]) (.cond (.tmp 34) (.seq (.ops [O1 37 (.mov (.tmp 0)),O1 38 (.mov (.tmp 1)),O1 39 (.mov (.tmp 3)),O1 40 (.callF 74 [(.tmp 37),(.tmp 38),(.tmp 39)]),O1 41 (.mkIf 100 (.tmp 40)),O1 10 (.mov (.tmp 41))] [10]) (.ret)) (.skip))))))))))) (.seq (.ops [O1 42 (.mov (.tmp 4)),O1 10 (.mov (.tmp 42))] [10]) (.ret))),43,[(10,none)],true⟩
theorem ok57:FunOK Tryd.prog 57 c57:= .code ⟨Tryd.f57,_,c57.code,Tryd.func57,rfl,by kernel_rfl,rfl,by kernel_rfl,by kernel_rfl⟩
/- raddle/grade.word -/
def c59l0:AC:= .seq (.ops [O1 17 (.bin .lss (.tmp 16) (.tmp 15))] [14,15,16,17]) (.seq (.cond (.tmp 17) (.skip) (.exit 0)) (.seq (.block 1 (.seq (.ops [O1 18 (.idxS 1 (.tmp 14) (.tmp 16)),O1 19 (.load none (.tmp 18)),O1 4 (.mov (.tmp 19))] [4,14,15,16]) (.seq (.ops [O1 20 (.mov (.tmp 4)),O1 21 (.bin .neq (.tmp 20) (.const (.int .u8 45))),O1 22 (.mov (.tmp 21)),⟨some 23,some (22,true),.mov (.tmp 4)⟩,⟨some 24,some (22,true),.bin .lss (.tmp 23) (.const (.int .u8 97))⟩,⟨some 25,some (22,true),.mov (.tmp 24)⟩,⟨some 26,some (25,false),.mov (.tmp 4)⟩,⟨some 27,some (25,false),.bin .gtr (.tmp 26) (.const (.int .u8 122))⟩,⟨some 28,some (22,true),.pick (.tmp 25) (.const (.bool true)) (.tmp 27)⟩,O1 29 (.pick (.tmp 22) (.tmp 28) (.const (.bool false))),O1 30 (.mov (.tmp 29)),⟨some 31,some (30,true),.mov (.tmp 4)⟩,⟨some 32,some (30,true),.bin .lss (.tmp 31) (.const (.int .u8 48))⟩,⟨some 33,some (30,true),.mov (.tmp 32)⟩,⟨some 34,some (33,false),.mov (.tmp 4)⟩,⟨some 35,some (33,false),.bin .gtr (.tmp 34) (.const (.int .u8 57))⟩,⟨some 36,some (30,true),.pick (.tmp 33) (.const (.bool true)) (.tmp 35)⟩,O1 37 (.pick (.tmp 30) (.tmp 36) (.const (.bool false)))] [14,15,16,37]) (.cond (.tmp 37) (.seq (.ops [O1 2 (.mov (.const (.bool false)))] [2]) (.ret)) (.skip))))) (.ops [O1 38 (.bin .add (.tmp 16) (.const (.int .i64 1))),O1 16 (.mov (.tmp 38))] [14,15,16])))
def c59:AFun:=⟨.seq (.ops [O1 2 (.mov (.const (.bool false)))] [0]) (.seq (.seq (.ops [O1 5 (.mov (.tmp 0)),O1 6 (.len true (.tmp 5)),O1 7 (.bin .eql (.tmp 6) (.const (.int .i64 0))),O1 8 (.mov (.tmp 7)),⟨some 9,some (8,false),.mov (.tmp 0)⟩,⟨some 10,some (8,false),.len true (.tmp 9)⟩,⟨some 11,some (8,false),.bin .gtr (.tmp 10) (.const (.int .i64 40))⟩,O1 12 (.pick (.tmp 8) (.const (.bool true)) (.tmp 11))] [0,12]) (.cond (.tmp 12) (.seq (.ops [O1 2 (.mov (.const (.bool false)))] [2]) (.ret)) (.skip))) (.seq (.seq (.ops [O1 13 (.mov (.tmp 0)),O1 14 (.s2b 5 (.tmp 13)),O1 15 (.len false (.tmp 14)),O1 16 (.mov (.const (.int .i64 0)))] [14,15,16]) (.block 0 (.loop [14,15,16] c59l0))) (.seq (.ops [O1 2 (.mov (.const (.bool true)))] [2]) (.ret)))),39,[(2,none)],true⟩
theorem ok59:FunOK Tryd.prog 59 c59:= .code ⟨Tryd.f59,_,c59.code,Tryd.func59,rfl,by kernel_rfl,rfl,by kernel_rfl,by kernel_rfl⟩
/- raddle/grade.put$1 -/
def c60:AFun:=⟨.seq (.ops [O1 5 (.mov (.const (.slice none 0 0)))] [0,1,2,3]) (.seq (.ops [O1 6 (.load none (.tmp 1)),O1 7 (.bin .add (.tmp 6) (.const (.int .i64 1))),⟨none,none,.store 1 (.tmp 1) (.tmp 7)⟩] [0,1,2,3]) (.seq (.draw [O1 8 (.mov (.tmp 0)),O1 9 (.load none (.tmp 2)),O1 10 (.load none (.tmp 3)),O1 11 (.load none (.tmp 1)),O1 12 (.idxS 1 (.tmp 10) (.tmp 11)),O1 13 (.load none (.tmp 12))] [O1 14 (.callF 61 [(.tmp 8),(.tmp 9),(.tmp 13)]),O1 5 (.mov (.tmp 14))] [[],[],[],[],[],[]] [5]) (.ret))),15,[(5,none)],false⟩
theorem ok60:FunOK Tryd.prog 60 c60:= .code ⟨Tryd.f60,_,c60.code,Tryd.func60,rfl,by kernel_rfl,rfl,by kernel_rfl,by kernel_rfl⟩
/- raddle/grade.with[int] -/
def c61:AFun:=⟨.seq (.ops [O1 6 (.mov (.const (.slice none 0 0)))] [0,1,2]) (.seq (.ops [O1 8 (.mkRow 3 1 0 [(.int .i64 0)] []),O1 9 (.mov (.tmp 0)),O1 10 (.mov (.tmp 1)),O1 11 (.slc 1 (.tmp 9) none (some (.tmp 10)) none),O1 12 (.app 3 1 8 (.tmp 8) (.tmp 11)),O1 7 (.mov (.tmp 12))] [0,1,2,7]) (.seq (.drawW [⟨O1 13 (.mov (.tmp 7)),[],none⟩,⟨O1 14 (.mov (.tmp 2)),[0],none⟩,⟨O1 15 (.mkRow 3 1 1 [(.int .i64 0)] [(0,1,(.tmp 14))]),[0],none⟩,⟨O1 16 (.app 3 1 8 (.tmp 13) (.tmp 15)),[],none⟩,⟨O1 17 (.mov (.tmp 0)),[0,1,2,3],none⟩,⟨O1 18 (.mov (.tmp 1)),[0,1,2,3,4],none⟩,⟨O1 19 (.slc 1 (.tmp 17) (some (.tmp 18)) none none),[0,1,2,3],none⟩] [O1 20 (.app 3 1 8 (.tmp 16) (.tmp 19)),O1 6 (.mov (.tmp 20))] [6]) (.ret))),21,[(6,none)],true⟩
theorem ok61:FunOK Tryd.prog 61 c61:= .code ⟨Tryd.f61,_,c61.code,Tryd.func61,rfl,by kernel_rfl,rfl,by kernel_rfl,by kernel_rfl⟩
/- raddle/grade.with[string] -/
def c62:AFun:=⟨.seq (.ops [O1 6 (.mov (.const (.slice none 0 0)))] [0,1,2]) (.seq (.ops [O1 8 (.mkRow 9 1 0 [(.string ⟨#[]⟩)] []),O1 9 (.mov (.tmp 0)),O1 10 (.mov (.tmp 1)),O1 11 (.slc 1 (.tmp 9) none (some (.tmp 10)) none),O1 12 (.app 9 1 16 (.tmp 8) (.tmp 11)),O1 7 (.mov (.tmp 12))] [0,1,2,7]) (.seq (.drawW [⟨O1 13 (.mov (.tmp 7)),[],none⟩,⟨O1 14 (.mov (.tmp 2)),[0],none⟩,⟨O1 15 (.mkRow 9 1 1 [(.string ⟨#[]⟩)] [(0,1,(.tmp 14))]),[0],none⟩,⟨O1 16 (.app 9 1 16 (.tmp 13) (.tmp 15)),[],none⟩,⟨O1 17 (.mov (.tmp 0)),[0,1,2,3],none⟩,⟨O1 18 (.mov (.tmp 1)),[0,1,2,3,4],none⟩,⟨O1 19 (.slc 1 (.tmp 17) (some (.tmp 18)) none none),[0,1,2,3],none⟩] [O1 20 (.app 9 1 16 (.tmp 16) (.tmp 19)),O1 6 (.mov (.tmp 20))] [6]) (.ret))),21,[(6,none)],true⟩
theorem ok62:FunOK Tryd.prog 62 c62:= .code ⟨Tryd.f62,_,c62.code,Tryd.func62,rfl,by kernel_rfl,rfl,by kernel_rfl,by kernel_rfl⟩
/- (*strings.Builder).grow -/
def c64:AFun:=⟨.seq (.draw [O1 5 (.mov (.tmp 0)),O1 6 (.nilChk (.tmp 5)),O1 7 (.fldA 1 (.tmp 6)),O1 8 (.load none (.tmp 7)),O1 9 (.cap (.tmp 8)),O1 10 (.bin .mul (.const (.int .i64 2)) (.tmp 9)),O1 11 (.mov (.tmp 1)),O1 12 (.bin .add (.tmp 10) (.tmp 11)),O1 13 (.callF 75 [.tmp 12]),O1 14 (.mov (.tmp 0)),O1 15 (.nilChk (.tmp 14)),O1 16 (.fldA 1 (.tmp 15)),O1 17 (.load none (.tmp 16)),O1 18 (.len false (.tmp 17))] [O1 19 (.slc 1 (.tmp 13) none (some (.tmp 18)) none),O1 4 (.mov (.tmp 19))] [[],[],[],[],[],[],[],[],[],[false,false,false,false,false,false,false,false,false],[true,false,false,false,false,false,false,false,false,false],[true,true,false,false,false,false,false,false,false,false,false],[true,true,true,false,false,false,false,false,false,false,false,false],[true,true,true,true,false,false,false,false,false,false,false,false,false]] [0,4]) (.seq (.ops [O1 20 (.mov (.tmp 4)),O1 21 (.mov (.tmp 0)),O1 22 (.nilChk (.tmp 21)),O1 23 (.fldA 1 (.tmp 22)),O1 24 (.load none (.tmp 23)),O1 25 (.copy 1 (.tmp 20) (.tmp 24))] [0,4]) (.ops [O1 26 (.mov (.tmp 0)),O1 27 (.mov (.tmp 4)),O1 28 (.nilChk (.tmp 26)),O1 29 (.fldA 1 (.tmp 28)),⟨none,none,.store 1 (.tmp 29) (.tmp 27)⟩] [])),30,[],false⟩
theorem ok64:FunOK Tryd.prog 64 c64:= .code ⟨Tryd.f64,_,c64.code,Tryd.func64,rfl,by kernel_rfl,rfl,by kernel_rfl,by kernel_rfl⟩
/- internal/strconv.FormatInt -/
def c65:AFun:=⟨.seq (.ops [O1 4 (.mov (.const (.string ⟨#[]⟩)))] [0,1]) (.seq (.seq (.ops [O1 10 (.mov (.tmp 1)),O1 11 (.bin .eql (.tmp 10) (.const (.int .i64 10)))] [0,1,11]) (.cond (.tmp 11) (.seq (.seq (.ops [O1 12 (.mov (.tmp 0)),O1 13 (.bin .leq (.const (.int .i64 0)) (.tmp 12)),O1 14 (.mov (.tmp 13)),⟨some 15,some (14,true),.mov (.tmp 0)⟩,⟨some 16,some (14,true),.bin .lss (.tmp 15) (.const (.int .i64 100))⟩,O1 17 (.pick (.tmp 14) (.tmp 16) (.const (.bool false)))] [0,17]) (.cond (.tmp 17) (.seq (.ops [O1 18 (.mov (.tmp 0)),O1 19 (.callF 76 [.tmp 18]),O1 4 (.mov (.tmp 19))] [4]) (.ret)) (.skip))) (.seq (.ops [O1 5 (.alloc 104 [(24,(.int .u8 0))])] [0,5]) (.seq (.ops [O1 20 (.mov (.tmp 0)),O1 21 (.convI .u64 (.tmp 20)),O1 6 (.mov (.tmp 21))] [0,5,6]) (.seq (.seq (.ops [O1 22 (.mov (.tmp 0)),O1 23 (.bin .lss (.tmp 22) (.const (.int .i64 0)))] [0,5,6,23]) (.cond (.tmp 23) (.ops [O1 24 (.mov (.tmp 6)),O1 25 (.un .neg (.tmp 24)),O1 6 (.mov (.tmp 25))] [0,5,6]) (.skip))) (.seq (.ops [O1 26 (.mov (.tmp 6)),O1 27 (.callF 77 [.tmp 26]),O1 7 (.mov (.tmp 27))] [0,5,6,7]) (.seq (.ops [O1 28 (.mov (.tmp 7)),O1 29 (.bin .add (.const (.int .i64 1)) (.tmp 28)),O1 30 (.slcA 24 1 (.tmp 5) (some (.const (.int .i64 1))) (some (.tmp 29))),O1 31 (.mov (.tmp 6)),O1 32 (.callF 78 [(.tmp 30),(.tmp 31)])] [0,5,7]) (.seq (.seq (.ops [O1 33 (.mov (.tmp 0)),O1 34 (.bin .lss (.tmp 33) (.const (.int .i64 0)))] [5,7,34]) (.cond (.tmp 34) (.seq (.ops [O1 35 (.idxA 24 1 (.tmp 5) (.const (.int .i64 0))),⟨none,none,.store 1 (.tmp 35) (.const (.int .u8 45))⟩] [5,7]) (.seq (.ops [O1 36 (.mov (.tmp 7)),O1 37 (.bin .add (.const (.int .i64 1)) (.tmp 36)),O1 38 (.slcA 24 1 (.tmp 5) none (some (.tmp 37))),O1 39 (.b2s (.tmp 38)),O1 4 (.mov (.tmp 39))] [4]) (.ret))) (.skip))) (.seq (.ops [O1 40 (.mov (.tmp 7)),O1 41 (.bin .add (.const (.int .i64 1)) (.tmp 40)),O1 42 (.slcA 24 1 (.tmp 5) (some (.const (.int .i64 1))) (some (.tmp 41))),O1 43 (.b2s (.tmp 42)),O1 4 (.mov (.tmp 43))] [4]) (.ret))))))))) (.skip))) (.seq (.ops [O1 45 (.mov (.tmp 0)),O1 46 (.convI .u64 (.tmp 45)),O1 47 (.mov (.tmp 1)),O1 48 (.mov (.tmp 0)),O1 49 (.bin .lss (.tmp 48) (.const (.int .i64 0))),O1 50 (.callF 79 [(.const (.slice none 0 0)),(.tmp 46),(.tmp 47),(.tmp 49),(.const (.bool false))]),O1 44 (.mov (.tmp 50)),O1 51 (.ext (.tmp 44) 0),O1 52 (.ext (.tmp 44) 1),O1 8 (.mov (.tmp 51)),O1 9 (.mov (.tmp 52))] [9]) (.seq (.ops [O1 53 (.mov (.tmp 9)),O1 4 (.mov (.tmp 53))] [4]) (.ret)))),54,[(4,none)],true⟩
theorem ok65:FunOK Tryd.prog 65 c65:= .code ⟨Tryd.f65,_,c65.code,Tryd.func65,rfl,by kernel_rfl,rfl,by kernel_rfl,by kernel_rfl⟩
/- strings.explode -/
def c66l0:AC:= .seq (.seq (.ops [O1 22 (.mov (.tmp 7)),O1 23 (.mov (.tmp 1)),O1 24 (.bin .sub (.tmp 23) (.const (.int .i64 1))),O1 25 (.bin .lss (.tmp 22) (.tmp 24))] [0,1,6,7,25]) (.cond (.tmp 25) (.skip) (.exit 0))) (.seq (.block 1 (.seq (.ops [O1 29 (.mov (.tmp 0)),O1 30 (.callF 81 [.tmp 29]),O1 28 (.mov (.tmp 30)),O1 31 (.ext (.tmp 28) 0),O1 32 (.ext (.tmp 28) 1),O1 8 (.mov (.tmp 31)),O1 9 (.mov (.tmp 32))] [0,1,6,7,9]) (.seq (.ops [O1 33 (.mov (.tmp 6)),O1 34 (.mov (.tmp 7)),O1 35 (.mov (.tmp 0)),O1 36 (.mov (.tmp 9)),O1 37 (.slcS (.tmp 35) none (some (.tmp 36))),O1 38 (.idxS 1 (.tmp 33) (.tmp 34)),⟨none,none,.store 1 (.tmp 38) (.tmp 37)⟩] [0,1,6,7,9]) (.ops [O1 39 (.mov (.tmp 0)),O1 40 (.mov (.tmp 9)),O1 41 (.slcS (.tmp 39) (some (.tmp 40)) none),O1 0 (.mov (.tmp 41))] [0,1,6,7])))) (.ops [O1 26 (.mov (.tmp 7)),O1 27 (.bin .add (.tmp 26) (.const (.int .i64 1))),O1 7 (.mov (.tmp 27))] [0,1,6,7]))
def c66:AFun:=⟨.seq (.ops [O1 4 (.mov (.const (.slice none 0 0)))] [0,1]) (.seq (.ops [O1 10 (.mov (.tmp 0)),O1 11 (.callF 80 [.tmp 10]),O1 5 (.mov (.tmp 11))] [0,1,5]) (.seq (.seq (.ops [O1 12 (.mov (.tmp 1)),O1 13 (.bin .lss (.tmp 12) (.const (.int .i64 0))),O1 14 (.mov (.tmp 13)),⟨some 15,some (14,false),.mov (.tmp 1)⟩,⟨some 16,some (14,false),.mov (.tmp 5)⟩,⟨some 17,some (14,false),.bin .gtr (.tmp 15) (.tmp 16)⟩,O1 18 (.pick (.tmp 14) (.const (.bool true)) (.tmp 17))] [0,1,5,18]) (.cond (.tmp 18) (.ops [O1 19 (.mov (.tmp 5)),O1 1 (.mov (.tmp 19))] [0,1]) (.skip))) (.seq (.ops [O1 20 (.mov (.tmp 1)),O1 21 (.mkSlice 9 1 16 [(.string ⟨#[]⟩)] (.tmp 20) (.tmp 20)),O1 6 (.mov (.tmp 21))] [0,1,6]) (.seq (.seq (.ops [O1 7 (.mov (.const (.int .i64 0)))] [0,1,6,7]) (.block 0 (.loop [0,1,6,7] c66l0))) (.seq (.seq (.ops [O1 42 (.mov (.tmp 1)),O1 43 (.bin .gtr (.tmp 42) (.const (.int .i64 0)))] [0,1,6,43]) (.cond (.tmp 43) (.ops [O1 44 (.mov (.tmp 6)),O1 45 (.mov (.tmp 1)),O1 46 (.bin .sub (.tmp 45) (.const (.int .i64 1))),O1 47 (.mov (.tmp 0)),O1 48 (.idxS 1 (.tmp 44) (.tmp 46)),⟨none,none,.store 1 (.tmp 48) (.tmp 47)⟩] [6]) (.skip))) (.seq (.ops [O1 49 (.mov (.tmp 6)),O1 4 (.mov (.tmp 49))] [4]) (.ret))))))),50,[(4,none)],true⟩
theorem ok66:FunOK Tryd.prog 66 c66:= .code ⟨Tryd.f66,_,c66.code,Tryd.func66,rfl,by kernel_rfl,rfl,by kernel_rfl,by kernel_rfl⟩
/- strings.Count -/
def c67l0:AC:= .block 1 (.seq (.ops [O1 20 (.mov (.tmp 0)),O1 21 (.mov (.tmp 1)),O1 22 (.callF 68 [(.tmp 20),(.tmp 21)]),O1 6 (.mov (.tmp 22))] [0,1,5,6]) (.seq (.seq (.ops [O1 23 (.mov (.tmp 6)),O1 24 (.bin .eql (.tmp 23) (.const (.int .i64 (-1))))] [0,1,5,6,24]) (.cond (.tmp 24) (.seq (.ops [O1 25 (.mov (.tmp 5)),O1 4 (.mov (.tmp 25))] [4]) (.ret)) (.skip))) (.seq (.ops [O1 26 (.mov (.tmp 5)),O1 27 (.bin .add (.tmp 26) (.const (.int .i64 1))),O1 5 (.mov (.tmp 27))] [0,1,5,6]) (.ops [O1 28 (.mov (.tmp 0)),O1 29 (.mov (.tmp 6)),O1 30 (.mov (.tmp 1)),O1 31 (.len true (.tmp 30)),O1 32 (.bin .add (.tmp 29) (.tmp 31)),O1 33 (.slcS (.tmp 28) (some (.tmp 32)) none),O1 0 (.mov (.tmp 33))] [0,1,5]))))
def c67:AFun:=⟨.seq (.ops [O1 4 (.mov (.const (.int .i64 0)))] [0,1]) (.seq (.seq (.ops [O1 7 (.mov (.tmp 1)),O1 8 (.len true (.tmp 7)),O1 9 (.bin .eql (.tmp 8) (.const (.int .i64 0)))] [0,1,9]) (.cond (.tmp 9) (.seq (.ops [O1 10 (.mov (.tmp 0)),O1 11 (.callF 80 [.tmp 10]),O1 12 (.bin .add (.tmp 11) (.const (.int .i64 1))),O1 4 (.mov (.tmp 12))] [4]) (.ret)) (.skip))) (.seq (.seq (.ops [O1 13 (.mov (.tmp 1)),O1 14 (.len true (.tmp 13)),O1 15 (.bin .eql (.tmp 14) (.const (.int .i64 1)))] [0,1,15]) (.cond (.tmp 15) (.seq (.ops [O1 16 (.mov (.tmp 0)),O1 17 (.mov (.tmp 1)),O1 18 (.idxStr (.tmp 17) (.const (.int .i64 0))),O1 19 (.callF 82 [(.tmp 16),(.tmp 18)]),O1 4 (.mov (.tmp 19))] [4]) (.ret)) (.skip))) (.seq (.ops [O1 5 (.mov (.const (.int .i64 0)))] [0,1,5]) (.block 0 (.loop [0,1,5] c67l0))))),34,[(4,none)],true⟩
theorem ok67:FunOK Tryd.prog 67 c67:= .code ⟨Tryd.f67,_,c67.code,Tryd.func67,rfl,by kernel_rfl,rfl,by kernel_rfl,by kernel_rfl⟩
/- strings.Index -/
def c68:AFun:=⟨.seq (.ops [O1 4 (.mov (.const (.int .i64 0)))] [0,1]) (.seq (.ops [O1 5 (.mov (.tmp 0)),O1 6 (.mov (.tmp 1)),O1 7 (.callF 83 [(.tmp 5),(.tmp 6)]),O1 4 (.mov (.tmp 7))] [4]) (.ret)),8,[(4,none)],true⟩
theorem ok68:FunOK Tryd.prog 68 c68:= .code ⟨Tryd.f68,_,c68.code,Tryd.func68,rfl,by kernel_rfl,rfl,by kernel_rfl,by kernel_rfl⟩
/- internal/stringslite.HasSuffix -/
def c69:AFun:=⟨.seq (.ops [O1 4 (.mov (.const (.bool false)))] [0,1]) (.seq (.ops [O1 5 (.mov (.tmp 0)),O1 6 (.len true (.tmp 5)),O1 7 (.mov (.tmp 1)),O1 8 (.len true (.tmp 7)),O1 9 (.bin .geq (.tmp 6) (.tmp 8)),O1 10 (.mov (.tmp 9)),⟨some 11,some (10,true),.mov (.tmp 0)⟩,⟨some 12,some (10,true),.mov (.tmp 0)⟩,⟨some 13,some (10,true),.len true (.tmp 12)⟩,⟨some 14,some (10,true),.mov (.tmp 1)⟩,⟨some 15,some (10,true),.len true (.tmp 14)⟩,⟨some 16,some (10,true),.bin .sub (.tmp 13) (.tmp 15)⟩,⟨some 17,some (10,true),.slcS (.tmp 11) (some (.tmp 16)) none⟩,⟨some 18,some (10,true),.mov (.tmp 1)⟩,⟨some 19,some (10,true),.bin .eql (.tmp 17) (.tmp 18)⟩,O1 20 (.pick (.tmp 10) (.tmp 19) (.const (.bool false))),O1 4 (.mov (.tmp 20))] [4]) (.ret)),21,[(4,none)],true⟩
theorem ok69:FunOK Tryd.prog 69 c69:= .code ⟨Tryd.f69,_,c69.code,Tryd.func69,rfl,by kernel_rfl,rfl,by kernel_rfl,by kernel_rfl⟩
/- internal/strconv.ParseInt -/
def c70:AFun:=⟨.seq (.ops [O1 6 (.mov (.const (.int .i64 0))),O1 7 (.mov (.const .nilIface))] [0,1,2]) (.seq (.seq (.ops [O1 12 (.mov (.tmp 0)),O1 13 (.bin .eql (.tmp 12) (.const (.string ⟨#[]⟩)))] [0,1,2,13]) (.cond (.tmp 13) (.seq (.ops [O1 14 (.mkIf 97 (.const (.int .i64 2))),O1 6 (.mov (.const (.int .i64 0))),O1 7 (.mov (.tmp 14))] [6,7]) (.ret)) (.skip))) (.seq (.ops [O1 8 (.mov (.const (.bool false)))] [0,1,2,8]) (.seq (.seq (.ops [O1 15 (.mov (.tmp 0)),O1 16 (.idxStr (.tmp 15) (.const (.int .i64 0)))] [0,1,2,8,16]) (.block 0 (.seq (.ops [O1 18 (.bin .eql (.tmp 16) (.const (.int .u8 43))),O1 17 (.mov (.tmp 18))] [0,1,2,8,16,17]) (.cond (.tmp 17) (.ops [O1 19 (.mov (.tmp 0)),O1 20 (.slcS (.tmp 19) (some (.const (.int .i64 1))) none),O1 0 (.mov (.tmp 20))] [0,1,2,8]) (.seq (.ops [O1 22 (.bin .eql (.tmp 16) (.const (.int .u8 45))),O1 21 (.mov (.tmp 22))] [0,1,2,8,21]) (.cond (.tmp 21) (.seq (.ops [O1 23 (.mov (.tmp 0)),O1 24 (.slcS (.tmp 23) (some (.const (.int .i64 1))) none),O1 0 (.mov (.tmp 24))] [0,1,2]) (.ops [O1 8 (.mov (.const (.bool true)))] [0,1,2,8])) (.skip))))))) (.seq (.ops [O1 9 (.mov (.const (.int .u64 0)))] [0,1,2,8]) (.seq (.ops [O1 26 (.mov (.tmp 0)),O1 27 (.mov (.tmp 1)),O1 28 (.mov (.tmp 2)),O1 29 (.callF 84 [(.tmp 26),(.tmp 27),(.tmp 28)]),O1 25 (.mov (.tmp 29)),O1 30 (.ext (.tmp 25) 0),O1 31 (.ext (.tmp 25) 1),O1 9 (.mov (.tmp 30)),O1 7 (.mov (.tmp 31))] [2,7,8,9]) (.seq (.seq (.ops [O1 32 (.mov (.tmp 7)),O1 33 (.eqIf true true [2,3,5,6,12,21,27,97,105,116,124,146,147,149,150] (.tmp 32) (.const .nilIface)),O1 34 (.mov (.tmp 33)),⟨some 35,some (34,true),.mov (.tmp 7)⟩,⟨some 36,some (34,true),.mkIf 97 (.const (.int .i64 1))⟩,⟨some 37,some (34,true),.eqIf true false [2,3,5,6,12,21,27,97,105,116,124,146,147,149,150] (.tmp 35) (.tmp 36)⟩,O1 38 (.pick (.tmp 34) (.tmp 37) (.const (.bool false)))] [2,7,8,9,38]) (.cond (.tmp 38) (.seq (.ops [O1 39 (.mov (.tmp 7)),O1 6 (.mov (.const (.int .i64 0))),O1 7 (.mov (.tmp 39))] [6,7]) (.ret)) (.skip))) (.seq (.seq (.ops [O1 40 (.mov (.tmp 2)),O1 41 (.bin .eql (.tmp 40) (.const (.int .i64 0)))] [2,8,9,41]) (.cond (.tmp 41) (.ops [O1 2 (.mov (.const (.int .i64 64)))] [2,8,9]) (.skip))) (.seq (.ops [O1 42 (.mov (.tmp 2)),O1 43 (.bin .sub (.tmp 42) (.const (.int .i64 1))),O1 44 (.convI .u64 (.tmp 43)),O1 45 (.bin .shl (.const (.int .u64 1)) (.tmp 44)),O1 10 (.mov (.tmp 45))] [8,9,10]) (.seq (.seq (.ops [O1 46 (.mov (.tmp 8)),O1 47 (.un .not (.tmp 46)),O1 48 (.mov (.tmp 47)),⟨some 49,some (48,true),.mov (.tmp 9)⟩,⟨some 50,some (48,true),.mov (.tmp 10)⟩,⟨some 51,some (48,true),.bin .geq (.tmp 49) (.tmp 50)⟩,O1 52 (.pick (.tmp 48) (.tmp 51) (.const (.bool false)))] [8,9,10,52]) (.cond (.tmp 52) (.seq (.ops [O1 53 (.mov (.tmp 10)),O1 54 (.bin .sub (.tmp 53) (.const (.int .u64 1))),O1 55 (.convI .i64 (.tmp 54)),O1 56 (.mkIf 97 (.const (.int .i64 1))),O1 6 (.mov (.tmp 55)),O1 7 (.mov (.tmp 56))] [6,7]) (.ret)) (.skip))) (.seq (.seq (.ops [O1 57 (.mov (.tmp 8)),O1 58 (.mov (.tmp 57)),⟨some 59,some (58,true),.mov (.tmp 9)⟩,
  ⟨some 60,some (58,true),.mov (.tmp 10)⟩,⟨some 61,some (58,true),.bin .gtr (.tmp 59) (.tmp 60)⟩,O1 62 (.pick (.tmp 58) (.tmp 61) (.const (.bool false)))] [8,9,10,62]) (.cond (.tmp 62) (.seq (.ops [O1 63 (.mov (.tmp 10)),O1 64 (.convI .i64 (.tmp 63)),O1 65 (.un .neg (.tmp 64)),O1 66 (.mkIf 97 (.const (.int .i64 1))),O1 6 (.mov (.tmp 65)),O1 7 (.mov (.tmp 66))] [6,7]) (.ret)) (.skip))) (.seq (.ops [O1 67 (.mov (.tmp 9)),O1 68 (.convI .i64 (.tmp 67)),O1 11 (.mov (.tmp 68))] [8,11]) (.seq (.seq (.ops [O1 69 (.mov (.tmp 8))] [11,69]) (.cond (.tmp 69) (.ops [O1 70 (.mov (.tmp 11)),O1 71 (.un .neg (.tmp 70)),O1 11 (.mov (.tmp 71))] [11]) (.skip))) (.seq (.ops [O1 72 (.mov (.tmp 11)),O1 6 (.mov (.tmp 72)),O1 7 (.mov (.const .nilIface))] [6,7]) (.ret)))))))))))))),73,[(6,none),(7,none)],true⟩
theorem ok70:FunOK Tryd.prog 70 c70:= .code ⟨Tryd.f70,_,c70.code,Tryd.func70,rfl,by kernel_rfl,rfl,by kernel_rfl,by kernel_rfl⟩
/- strconv.syntaxError -/
def c71:AFun:=⟨.seq (.ops [O1 4 (.mov (.const (.pointer none)))] [0,1]) (.seq (.draw [O1 5 (.mov (.tmp 0)),O1 6 (.mov (.tmp 1)),O1 7 (.callF 85 [.tmp 6]),O1 8 (.load none (.global 0))] [O1 9 (.build [(.string ⟨#[]⟩),(.string ⟨#[]⟩),.nilIface] [(0,1,(.tmp 5)),(1,1,(.tmp 7)),(2,1,(.tmp 8))]),O1 10 (.box 119 (.tmp 9)),O1 4 (.mov (.tmp 10))] [[],[],[],[false,false,false]] [4]) (.ret)),11,[(4,none)],true⟩
theorem ok71:FunOK Tryd.prog 71 c71:= .code ⟨Tryd.f71,_,c71.code,Tryd.func71,rfl,by kernel_rfl,rfl,by kernel_rfl,by kernel_rfl⟩
/- strconv.rangeError -/
def c72:AFun:=⟨.seq (.ops [O1 4 (.mov (.const (.pointer none)))] [0,1]) (.seq (.draw [O1 5 (.mov (.tmp 0)),O1 6 (.mov (.tmp 1)),O1 7 (.callF 85 [.tmp 6]),O1 8 (.load none (.global 1))] [O1 9 (.build [(.string ⟨#[]⟩),(.string ⟨#[]⟩),.nilIface] [(0,1,(.tmp 5)),(1,1,(.tmp 7)),(2,1,(.tmp 8))]),O1 10 (.box 119 (.tmp 9)),O1 4 (.mov (.tmp 10))] [[],[],[],[false,false,false]] [4]) (.ret)),11,[(4,none)],true⟩
theorem ok72:FunOK Tryd.prog 72 c72:= .code ⟨Tryd.f72,_,c72.code,Tryd.func72,rfl,by kernel_rfl,rfl,by kernel_rfl,by kernel_rfl⟩
/- strconv.baseError -/
def c73:AFun:=⟨.seq (.ops [O1 6 (.mov (.const (.pointer none)))] [0,1,2]) (.seq (.ops [O1 7 (.mov (.tmp 0)),O1 8 (.mov (.tmp 1)),O1 9 (.callF 85 [.tmp 8]),O1 10 (.mov (.tmp 2)),O1 11 (.callF 32 [.tmp 10]),O1 12 (.bin .add (.const (.string ⟨#[105,110,118,97,108,105,100,32,98,97,115,101,32]⟩)) (.tmp 11)),O1 13 (.callF 86 [.tmp 12]),O1 14 (.build [(.string ⟨#[]⟩),(.string ⟨#[]⟩),.nilIface] [(0,1,(.tmp 7)),(1,1,(.tmp 9)),(2,1,(.tmp 13))]),O1 15 (.box 119 (.tmp 14)),O1 6 (.mov (.tmp 15))] [6]) (.ret)),16,[(6,none)],true⟩
theorem ok73:FunOK Tryd.prog 73 c73:= .code ⟨Tryd.f73,_,c73.code,Tryd.func73,rfl,by kernel_rfl,rfl,by kernel_rfl,by kernel_rfl⟩
/- strconv.bitSizeError -/
def c74:AFun:=⟨.seq (.ops [O1 6 (.mov (.const (.pointer none)))] [0,1,2]) (.seq (.ops [O1 7 (.mov (.tmp 0)),O1 8 (.mov (.tmp 1)),O1 9 (.callF 85 [.tmp 8]),O1 10 (.mov (.tmp 2)),O1 11 (.callF 32 [.tmp 10]),O1 12 (.bin .add (.const (.string ⟨#[105,110,118,97,108,105,100,32,98,105,116,32,115,105,122,101,32]⟩)) (.tmp 11)),O1 13 (.callF 86 [.tmp 12]),O1 14 (.build [(.string ⟨#[]⟩),(.string ⟨#[]⟩),.nilIface] [(0,1,(.tmp 7)),(1,1,(.tmp 9)),(2,1,(.tmp 13))]),O1 15 (.box 119 (.tmp 14)),O1 6 (.mov (.tmp 15))] [6]) (.ret)),16,[(6,none)],true⟩
theorem ok74:FunOK Tryd.prog 74 c74:= .code ⟨Tryd.f74,_,c74.code,Tryd.func74,rfl,by kernel_rfl,rfl,by kernel_rfl,by kernel_rfl⟩
/- internal/strconv.small -/
def c76:AFun:=⟨.seq (.ops [O1 2 (.mov (.const (.string ⟨#[]⟩)))] [0]) (.seq (.seq (.ops [O1 3 (.mov (.tmp 0)),O1 4 (.bin .lss (.tmp 3) (.const (.int .i64 10)))] [0,4]) (.cond (.tmp 4) (.seq (.ops [O1 5 (.mov (.tmp 0)),O1 6 (.mov (.tmp 0)),O1 7 (.bin .add (.tmp 6) (.const (.int .i64 1))),O1 8 (.slcS (.const (.string ⟨#[48,49,50,51,52,53,54,55,56,57,97,98,99,100,101,102,103,104,105,106,107,108,109,110,111,112,113,114,115,116,117,118,119,120,121,122]⟩)) (some (.tmp 5)) (some (.tmp 7))),O1 2 (.mov (.tmp 8))] [2]) (.ret)) (.skip))) (.seq (.ops [O1 9 (.mov (.tmp 0)),O1 10 (.bin .mul (.tmp 9) (.const (.int .i64 2))),O1 11 (.mov (.tmp 0)),O1 12 (.bin .mul (.tmp 11) (.const (.int .i64 2))),O1 13 (.bin .add (.tmp 12) (.const (.int .i64 2))),O1 14 (.slcS (.const (.string ⟨#[48,48,48,49,48,50,48,51,48,52,48,53,48,54,48,55,48,56,48,57,49,48,49,49,49,50,49,51,49,52,49,53,49,54,49,55,49,56,49,57,50,48,50,49,50,50,50,51,50,52,50,53,50,54,50,55,50,56,50,57,51,48,51,49,51,50,51,51,51,52,51,53,51,54,51,55,51,56,51,57,52,48,52,49,52,50,52,51,52,52,52,53,52,54,52,55,52,56,52,57,53,48,53,49,53,50,53,51,53,52,53,53,53,54,53,55,53,56,53,57,54,48,54,49,54,50,54,51,54,52,54,53,54,54,54,55,54,56,54,57,55,48,55,49,55,50,55,51,55,52,55,53,55,54,55,55,55,56,55,57,56,48,56,49,56,50,56,51,56,52,56,53,56,54,56,55,56,56,56,57,57,48,57,49,57,50,57,51,57,52,57,53,57,54,57,55,57,56,57,57]⟩)) (some (.tmp 10)) (some (.tmp 13))),O1 2 (.mov (.tmp 14))] [2]) (.ret))),15,[(2,none)],true⟩
theorem ok76:FunOK Tryd.prog 76 c76:= .code ⟨Tryd.f76,_,c76.code,Tryd.func76,rfl,by kernel_rfl,rfl,by kernel_rfl,by kernel_rfl⟩
/- internal/strconv.numDigits -/
def c77:AFun:=⟨.seq (.ops [O1 2 (.mov (.const (.int .i64 0)))] [0]) (.seq (.ops [O1 4 (.mov (.tmp 0)),O1 5 (.callF 88 [.tmp 4]),O1 6 (.callF 87 [.tmp 5]),O1 3 (.mov (.tmp 6))] [0,3]) (.seq (.ops [O1 7 (.mov (.tmp 3)),O1 8 (.mov (.tmp 0)),O1 9 (.mov (.tmp 3)),O1 10 (.idxA 20 1 (.global 3) (.tmp 9)),O1 11 (.load none (.tmp 10)),O1 12 (.bin .geq (.tmp 8) (.tmp 11)),O1 13 (.callF 89 [.tmp 12]),O1 14 (.bin .add (.tmp 7) (.tmp 13)),O1 2 (.mov (.tmp 14))] [2]) (.ret))),15,[(2,none)],true⟩
theorem ok77:FunOK Tryd.prog 77 c77:= .code ⟨Tryd.f77,_,c77.code,Tryd.func77,rfl,by kernel_rfl,rfl,by kernel_rfl,by kernel_rfl⟩
/- internal/strconv.formatBase10 -/
def c78l0:AC:= .seq (.seq (.ops [O1 19 (.mov (.tmp 4)),O1 20 (.bin .geq (.tmp 19) (.const (.int .i64 8)))] [0,1,4,20]) (.cond (.tmp 20) (.skip) (.exit 0))) (.block 1 (.seq (.ops [O1 21 (.mov (.tmp 1)),O1 22 (.bin .rem (.tmp 21) (.const (.int .u64 100000000))),O1 23 (.convI .u32 (.tmp 22)),O1 5 (.mov (.tmp 23))] [0,1,4,5]) (.seq (.ops [O1 24 (.mov (.tmp 1)),O1 25 (.bin .quo (.tmp 24) (.const (.int .u64 100000000))),O1 1 (.mov (.tmp 25))] [0,1,4,5]) (.seq (.ops [O1 26 (.mov (.tmp 5)),O1 27 (.bin .quo (.tmp 26) (.const (.int .u32 10000))),O1 28 (.mov (.tmp 5)),O1 29 (.bin .rem (.tmp 28) (.const (.int .u32 10000))),O1 6 (.mov (.tmp 27)),O1 7 (.mov (.tmp 29))] [0,1,4,6,7]) (.seq (.ops [O1 30 (.mov (.tmp 7)),O1 31 (.bin .quo (.tmp 30) (.const (.int .u32 100))),O1 32 (.bin .mul (.tmp 31) (.const (.int .u32 2))),O1 33 (.mov (.tmp 7)),O1 34 (.bin .rem (.tmp 33) (.const (.int .u32 100))),O1 35 (.bin .mul (.tmp 34) (.const (.int .u32 2))),O1 8 (.mov (.tmp 32)),O1 9 (.mov (.tmp 35))] [0,1,4,6,8,9]) (.seq (.ops [O1 36 (.mov (.tmp 6)),O1 37 (.bin .quo (.tmp 36) (.const (.int .u32 100))),O1 38 (.bin .mul (.tmp 37) (.const (.int .u32 2))),O1 39 (.mov (.tmp 6)),O1 40 (.bin .rem (.tmp 39) (.const (.int .u32 100))),O1 41 (.bin .mul (.tmp 40) (.const (.int .u32 2))),O1 10 (.mov (.tmp 38)),O1 11 (.mov (.tmp 41))] [0,1,4,8,9,10,11]) (.seq (.drawW [⟨O1 42 (.mov (.tmp 0)),[],none⟩,⟨O1 43 (.mov (.tmp 4)),[0],none⟩,⟨O1 44 (.bin .sub (.tmp 43) (.const (.int .i64 1))),[0],none⟩,⟨O1 45 (.mov (.tmp 0)),[0,1,2],none⟩,⟨O1 46 (.mov (.tmp 4)),[0,1,2,3],none⟩,⟨O1 47 (.bin .sub (.tmp 46) (.const (.int .i64 2))),[0,1,2,3],none⟩,⟨O1 48 (.mov (.tmp 9)),[0,1,2,3,4,5],none⟩,⟨O1 49 (.bin .add (.tmp 48) (.const (.int .u32 1))),[0,1,2,3,4,5],none⟩,⟨O1 50 (.idxStr (.const (.string ⟨#[48,48,48,49,48,50,48,51,48,52,48,53,48,54,48,55,48,56,48,57,49,48,49,49,49,50,49,51,49,52,49,53,49,54,49,55,49,56,49,57,50,48,50,49,50,50,50,51,50,52,50,53,50,54,50,55,50,56,50,57,51,48,51,49,51,50,51,51,51,52,51,53,51,54,51,55,51,56,51,57,52,48,52,49,52,50,52,51,52,52,52,53,52,54,52,55,52,56,52,57,53,48,53,49,53,50,53,51,53,52,53,53,53,54,53,55,53,56,53,57,54,48,54,49,54,50,54,51,54,52,54,53,54,54,54,55,54,56,54,57,55,48,55,49,55,50,55,51,55,52,55,53,55,54,55,55,55,56,55,57,56,48,56,49,56,50,56,51,56,52,56,53,56,54,56,55,56,56,56,57,57,48,57,49,57,50,57,51,57,52,57,53,57,54,57,55,57,56,57,57]⟩)) (.tmp 49)),[0,1,2,3,4,5],none⟩,⟨O1 51 (.mov (.tmp 9)),[0,1,2,3,4,5,6,7,8],none⟩,⟨O1 52 (.idxStr (.const (.string ⟨#[48,48,48,49,48,50,48,51,48,52,48,53,48,54,48,55,48,56,48,57,49,48,49,49,49,50,49,51,49,52,49,53,49,54,49,55,49,56,49,57,50,48,50,49,50,50,50,51,50,52,50,53,50,54,50,55,50,56,50,57,51,48,51,49,51,50,51,51,51,52,51,53,51,54,51,55,51,56,51,57,52,48,52,49,52,50,52,51,52,52,52,53,52,54,52,55,52,56,52,57,53,48,53,49,53,50,53,51,53,52,53,53,53,54,53,55,53,56,53,57,54,48,54,49,54,50,54,51,54,52,54,53,54,54,54,55,54,56,54,57,55,48,55,49,55,50,55,51,55,52,55,53,55,54,55,55,55,56,55,57,56,48,56,49,56,50,56,51,56,52,56,53,56,54,56,55,56,56,56,57,57,48,57,49,57,50,57,51,57,52,57,53,57,54,57,55,57,56,57,57]⟩)) (.tmp 51)),[0,1,2,3,4,5,6,7,8],none⟩,
  ⟨O1 53 (.idxS 1 (.tmp 42) (.tmp 44)),[3,4,5,9,10],none⟩,⟨⟨none,none,.store 1 (.tmp 53) (.tmp 50)⟩,[3,4,5,9,10],none⟩] [O1 54 (.idxS 1 (.tmp 45) (.tmp 47)),⟨none,none,.store 1 (.tmp 54) (.tmp 52)⟩] [0,1,4,8,10,11]) (.seq (.drawW [⟨O1 55 (.mov (.tmp 0)),[],none⟩,⟨O1 56 (.mov (.tmp 4)),[0],none⟩,⟨O1 57 (.bin .sub (.tmp 56) (.const (.int .i64 3))),[0],none⟩,⟨O1 58 (.mov (.tmp 0)),[0,1,2],none⟩,⟨O1 59 (.mov (.tmp 4)),[0,1,2,3],none⟩,⟨O1 60 (.bin .sub (.tmp 59) (.const (.int .i64 4))),[0,1,2,3],none⟩,⟨O1 61 (.mov (.tmp 8)),[0,1,2,3,4,5],none⟩,⟨O1 62 (.bin .add (.tmp 61) (.const (.int .u32 1))),[0,1,2,3,4,5],none⟩,⟨O1 63 (.idxStr (.const (.string ⟨#[48,48,48,49,48,50,48,51,48,52,48,53,48,54,48,55,48,56,48,57,49,48,49,49,49,50,49,51,49,52,49,53,49,54,49,55,49,56,49,57,50,48,50,49,50,50,50,51,50,52,50,53,50,54,50,55,50,56,50,57,51,48,51,49,51,50,51,51,51,52,51,53,51,54,51,55,51,56,51,57,52,48,52,49,52,50,52,51,52,52,52,53,52,54,52,55,52,56,52,57,53,48,53,49,53,50,53,51,53,52,53,53,53,54,53,55,53,56,53,57,54,48,54,49,54,50,54,51,54,52,54,53,54,54,54,55,54,56,54,57,55,48,55,49,55,50,55,51,55,52,55,53,55,54,55,55,55,56,55,57,56,48,56,49,56,50,56,51,56,52,56,53,56,54,56,55,56,56,56,57,57,48,57,49,57,50,57,51,57,52,57,53,57,54,57,55,57,56,57,57]⟩)) (.tmp 62)),[0,1,2,3,4,5],none⟩,⟨O1 64 (.mov (.tmp 8)),[0,1,2,3,4,5,6,7,8],none⟩,⟨O1 65 (.idxStr (.const (.string ⟨#[48,48,48,49,48,50,48,51,48,52,48,53,48,54,48,55,48,56,48,57,49,48,49,49,49,50,49,51,49,52,49,53,49,54,49,55,49,56,49,57,50,48,50,49,50,50,50,51,50,52,50,53,50,54,50,55,50,56,50,57,51,48,51,49,51,50,51,51,51,52,51,53,51,54,51,55,51,56,51,57,52,48,52,49,52,50,52,51,52,52,52,53,52,54,52,55,52,56,52,57,53,48,53,49,53,50,53,51,53,52,53,53,53,54,53,55,53,56,53,57,54,48,54,49,54,50,54,51,54,52,54,53,54,54,54,55,54,56,54,57,55,48,55,49,55,50,55,51,55,52,55,53,55,54,55,55,55,56,55,57,56,48,56,49,56,50,56,51,56,52,56,53,56,54,56,55,56,56,56,57,57,48,57,49,57,50,57,51,57,52,57,53,57,54,57,55,57,56,57,57]⟩)) (.tmp 64)),[0,1,2,3,4,5,6,7,8],none⟩,⟨O1 66 (.idxS 1 (.tmp 55) (.tmp 57)),[3,4,5,9,10],none⟩,⟨⟨none,none,.store 1 (.tmp 66) (.tmp 63)⟩,[3,4,5,9,10],none⟩] [O1 67 (.idxS 1 (.tmp 58) (.tmp 60)),⟨none,none,.store 1 (.tmp 67) (.tmp 65)⟩] [0,1,4,10,11]) (.seq (.drawW [⟨O1 68 (.mov (.tmp 0)),[],none⟩,⟨O1 69 (.mov (.tmp 4)),[0],none⟩,⟨O1 70 (.bin .sub (.tmp 69) (.const (.int .i64 5))),[0],none⟩,⟨O1 71 (.mov (.tmp 0)),[0,1,2],none⟩,⟨O1 72 (.mov (.tmp 4)),[0,1,2,3],none⟩,⟨O1 73 (.bin .sub (.tmp 72) (.const (.int .i64 6))),[0,1,2,3],none⟩,⟨O1 74 (.mov (.tmp 11)),[0,1,2,3,4,5],none⟩,⟨O1 75 (.bin .add (.tmp 74) (.const (.int .u32 1))),[0,1,2,3,4,5],none⟩,⟨O1 76 (.idxStr (.const (.string ⟨#[48,48,48,49,48,50,48,51,48,52,48,53,48,54,48,55,48,56,48,57,49,48,49,49,49,50,49,51,49,52,49,53,49,54,49,55,49,56,49,57,50,48,50,49,50,50,50,51,50,52,50,53,50,54,50,55,50,56,50,57,51,48,51,49,51,50,51,51,51,52,51,53,51,54,51,55,51,56,51,57,52,48,52,49,52,50,52,51,52,52,52,53,52,54,52,55,52,56,52,57,53,48,53,49,53,50,53,51,53,52,53,53,53,54,53,55,53,56,53,57,54,48,54,49,54,50,54,51,54,52,54,53,54,54,54,55,54,56,54,57,55,48,55,49,55,50,55,51,55,52,55,53,55,54,55,55,55,56,55,57,56,48,56,49,56,50,56,51,56,52,56,53,56,54,56,55,56,56,56,57,57,48,57,49,57,50,57,51,57,52,57,53,57,54,57,55,57,56,57,57]⟩)) (.tmp 75)),[0,1,2,3,4,5],none⟩,
  ⟨O1 77 (.mov (.tmp 11)),[0,1,2,3,4,5,6,7,8],none⟩,⟨O1 78 (.idxStr (.const (.string ⟨#[48,48,48,49,48,50,48,51,48,52,48,53,48,54,48,55,48,56,48,57,49,48,49,49,49,50,49,51,49,52,49,53,49,54,49,55,49,56,49,57,50,48,50,49,50,50,50,51,50,52,50,53,50,54,50,55,50,56,50,57,51,48,51,49,51,50,51,51,51,52,51,53,51,54,51,55,51,56,51,57,52,48,52,49,52,50,52,51,52,52,52,53,52,54,52,55,52,56,52,57,53,48,53,49,53,50,53,51,53,52,53,53,53,54,53,55,53,56,53,57,54,48,54,49,54,50,54,51,54,52,54,53,54,54,54,55,54,56,54,57,55,48,55,49,55,50,55,51,55,52,55,53,55,54,55,55,55,56,55,57,56,48,56,49,56,50,56,51,56,52,56,53,56,54,56,55,56,56,56,57,57,48,57,49,57,50,57,51,57,52,57,53,57,54,57,55,57,56,57,57]⟩)) (.tmp 77)),[0,1,2,3,4,5,6,7,8],none⟩,⟨O1 79 (.idxS 1 (.tmp 68) (.tmp 70)),[3,4,5,9,10],none⟩,⟨⟨none,none,.store 1 (.tmp 79) (.tmp 76)⟩,[3,4,5,9,10],none⟩] [O1 80 (.idxS 1 (.tmp 71) (.tmp 73)),⟨none,none,.store 1 (.tmp 80) (.tmp 78)⟩] [0,1,4,10]) (.seq (.drawW [⟨O1 81 (.mov (.tmp 0)),[],none⟩,⟨O1 82 (.mov (.tmp 4)),[0],none⟩,⟨O1 83 (.bin .sub (.tmp 82) (.const (.int .i64 7))),[0],none⟩,⟨O1 84 (.mov (.tmp 0)),[0,1,2],none⟩,⟨O1 85 (.mov (.tmp 4)),[0,1,2,3],none⟩,⟨O1 86 (.bin .sub (.tmp 85) (.const (.int .i64 8))),[0,1,2,3],none⟩,⟨O1 87 (.mov (.tmp 10)),[0,1,2,3,4,5],none⟩,⟨O1 88 (.bin .add (.tmp 87) (.const (.int .u32 1))),[0,1,2,3,4,5],none⟩,⟨O1 89 (.idxStr (.const (.string ⟨#[48,48,48,49,48,50,48,51,48,52,48,53,48,54,48,55,48,56,48,57,49,48,49,49,49,50,49,51,49,52,49,53,49,54,49,55,49,56,49,57,50,48,50,49,50,50,50,51,50,52,50,53,50,54,50,55,50,56,50,57,51,48,51,49,51,50,51,51,51,52,51,53,51,54,51,55,51,56,51,57,52,48,52,49,52,50,52,51,52,52,52,53,52,54,52,55,52,56,52,57,53,48,53,49,53,50,53,51,53,52,53,53,53,54,53,55,53,56,53,57,54,48,54,49,54,50,54,51,54,52,54,53,54,54,54,55,54,56,54,57,55,48,55,49,55,50,55,51,55,52,55,53,55,54,55,55,55,56,55,57,56,48,56,49,56,50,56,51,56,52,56,53,56,54,56,55,56,56,56,57,57,48,57,49,57,50,57,51,57,52,57,53,57,54,57,55,57,56,57,57]⟩)) (.tmp 88)),[0,1,2,3,4,5],none⟩,⟨O1 90 (.mov (.tmp 10)),[0,1,2,3,4,5,6,7,8],none⟩,⟨O1 91 (.idxStr (.const (.string ⟨#[48,48,48,49,48,50,48,51,48,52,48,53,48,54,48,55,48,56,48,57,49,48,49,49,49,50,49,51,49,52,49,53,49,54,49,55,49,56,49,57,50,48,50,49,50,50,50,51,50,52,50,53,50,54,50,55,50,56,50,57,51,48,51,49,51,50,51,51,51,52,51,53,51,54,51,55,51,56,51,57,52,48,52,49,52,50,52,51,52,52,52,53,52,54,52,55,52,56,52,57,53,48,53,49,53,50,53,51,53,52,53,53,53,54,53,55,53,56,53,57,54,48,54,49,54,50,54,51,54,52,54,53,54,54,54,55,54,56,54,57,55,48,55,49,55,50,55,51,55,52,55,53,55,54,55,55,55,56,55,57,56,48,56,49,56,50,56,51,56,52,56,53,56,54,56,55,56,56,56,57,57,48,57,49,57,50,57,51,57,52,57,53,57,54,57,55,57,56,57,57]⟩)) (.tmp 90)),[0,1,2,3,4,5,6,7,8],none⟩,⟨O1 92 (.idxS 1 (.tmp 81) (.tmp 83)),[3,4,5,9,10],none⟩,⟨⟨none,none,.store 1 (.tmp 92) (.tmp 89)⟩,[3,4,5,9,10],none⟩] [O1 93 (.idxS 1 (.tmp 84) (.tmp 86)),⟨none,none,.store 1 (.tmp 93) (.tmp 91)⟩] [0,1,4]) (.ops [O1 94 (.mov (.tmp 4)),O1 95 (.bin .sub (.tmp 94) (.const (.int .i64 8))),
  O1 4 (.mov (.tmp 95))] [0,1,4])))))))))))
def c78:AFun:=⟨.seq (.ops [O1 17 (.mov (.tmp 0)),O1 18 (.len false (.tmp 17)),O1 4 (.mov (.tmp 18))] [0,1,4]) (.seq (.block 0 (.loop [0,1,4] c78l0)) (.seq (.ops [O1 96 (.mov (.tmp 1)),O1 97 (.convI .u32 (.tmp 96)),O1 12 (.mov (.tmp 97))] [0,4,12]) (.seq (.seq (.ops [O1 98 (.mov (.tmp 4)),O1 99 (.bin .geq (.tmp 98) (.const (.int .i64 4)))] [0,4,12,99]) (.cond (.tmp 99) (.seq (.ops [O1 100 (.mov (.tmp 12)),O1 101 (.bin .rem (.tmp 100) (.const (.int .u32 10000))),O1 13 (.mov (.tmp 101))] [0,4,12,13]) (.seq (.ops [O1 102 (.mov (.tmp 12)),O1 103 (.bin .quo (.tmp 102) (.const (.int .u32 10000))),O1 12 (.mov (.tmp 103))] [0,4,12,13]) (.seq (.ops [O1 104 (.mov (.tmp 13)),O1 105 (.bin .quo (.tmp 104) (.const (.int .u32 100))),O1 106 (.bin .mul (.tmp 105) (.const (.int .u32 2))),O1 107 (.mov (.tmp 13)),O1 108 (.bin .rem (.tmp 107) (.const (.int .u32 100))),O1 109 (.bin .mul (.tmp 108) (.const (.int .u32 2))),O1 14 (.mov (.tmp 106)),O1 15 (.mov (.tmp 109))] [0,4,12,14,15]) (.seq (.drawW [⟨O1 110 (.mov (.tmp 0)),[],none⟩,⟨O1 111 (.mov (.tmp 4)),[0],none⟩,⟨O1 112 (.bin .sub (.tmp 111) (.const (.int .i64 1))),[0],none⟩,⟨O1 113 (.mov (.tmp 0)),[0,1,2],none⟩,⟨O1 114 (.mov (.tmp 4)),[0,1,2,3],none⟩,⟨O1 115 (.bin .sub (.tmp 114) (.const (.int .i64 2))),[0,1,2,3],none⟩,⟨O1 116 (.mov (.tmp 15)),[0,1,2,3,4,5],none⟩,⟨O1 117 (.bin .add (.tmp 116) (.const (.int .u32 1))),[0,1,2,3,4,5],none⟩,⟨O1 118 (.idxStr (.const (.string ⟨#[48,48,48,49,48,50,48,51,48,52,48,53,48,54,48,55,48,56,48,57,49,48,49,49,49,50,49,51,49,52,49,53,49,54,49,55,49,56,49,57,50,48,50,49,50,50,50,51,50,52,50,53,50,54,50,55,50,56,50,57,51,48,51,49,51,50,51,51,51,52,51,53,51,54,51,55,51,56,51,57,52,48,52,49,52,50,52,51,52,52,52,53,52,54,52,55,52,56,52,57,53,48,53,49,53,50,53,51,53,52,53,53,53,54,53,55,53,56,53,57,54,48,54,49,54,50,54,51,54,52,54,53,54,54,54,55,54,56,54,57,55,48,55,49,55,50,55,51,55,52,55,53,55,54,55,55,55,56,55,57,56,48,56,49,56,50,56,51,56,52,56,53,56,54,56,55,56,56,56,57,57,48,57,49,57,50,57,51,57,52,57,53,57,54,57,55,57,56,57,57]⟩)) (.tmp 117)),[0,1,2,3,4,5],none⟩,⟨O1 119 (.mov (.tmp 15)),[0,1,2,3,4,5,6,7,8],none⟩,⟨O1 120 (.idxStr (.const (.string ⟨#[48,48,48,49,48,50,48,51,48,52,48,53,48,54,48,55,48,56,48,57,49,48,49,49,49,50,49,51,49,52,49,53,49,54,49,55,49,56,49,57,50,48,50,49,50,50,50,51,50,52,50,53,50,54,50,55,50,56,50,57,51,48,51,49,51,50,51,51,51,52,51,53,51,54,51,55,51,56,51,57,52,48,52,49,52,50,52,51,52,52,52,53,52,54,52,55,52,56,52,57,53,48,53,49,53,50,53,51,53,52,53,53,53,54,53,55,53,56,53,57,54,48,54,49,54,50,54,51,54,52,54,53,54,54,54,55,54,56,54,57,55,48,55,49,55,50,55,51,55,52,55,53,55,54,55,55,55,56,55,57,56,48,56,49,56,50,56,51,56,52,56,53,56,54,56,55,56,56,56,57,57,48,57,49,57,50,57,51,57,52,57,53,57,54,57,55,57,56,57,57]⟩)) (.tmp 119)),[0,1,2,3,4,5,6,7,8],none⟩,⟨O1 121 (.idxS 1 (.tmp 110) (.tmp 112)),[3,4,5,9,10],none⟩,⟨⟨none,none,.store 1 (.tmp 121) (.tmp 118)⟩,[3,4,5,9,10],none⟩] [O1 122 (.idxS 1 (.tmp 113) (.tmp 115)),⟨none,none,.store 1 (.tmp 122) (.tmp 120)⟩] [0,4,12,14])
  (.seq (.drawW [⟨O1 123 (.mov (.tmp 0)),[],none⟩,⟨O1 124 (.mov (.tmp 4)),[0],none⟩,⟨O1 125 (.bin .sub (.tmp 124) (.const (.int .i64 3))),[0],none⟩,⟨O1 126 (.mov (.tmp 0)),[0,1,2],none⟩,⟨O1 127 (.mov (.tmp 4)),[0,1,2,3],none⟩,⟨O1 128 (.bin .sub (.tmp 127) (.const (.int .i64 4))),[0,1,2,3],none⟩,⟨O1 129 (.mov (.tmp 14)),[0,1,2,3,4,5],none⟩,⟨O1 130 (.bin .add (.tmp 129) (.const (.int .u32 1))),[0,1,2,3,4,5],none⟩,⟨O1 131 (.idxStr (.const (.string ⟨#[48,48,48,49,48,50,48,51,48,52,48,53,48,54,48,55,48,56,48,57,49,48,49,49,49,50,49,51,49,52,49,53,49,54,49,55,49,56,49,57,50,48,50,49,50,50,50,51,50,52,50,53,50,54,50,55,50,56,50,57,51,48,51,49,51,50,51,51,51,52,51,53,51,54,51,55,51,56,51,57,52,48,52,49,52,50,52,51,52,52,52,53,52,54,52,55,52,56,52,57,53,48,53,49,53,50,53,51,53,52,53,53,53,54,53,55,53,56,53,57,54,48,54,49,54,50,54,51,54,52,54,53,54,54,54,55,54,56,54,57,55,48,55,49,55,50,55,51,55,52,55,53,55,54,55,55,55,56,55,57,56,48,56,49,56,50,56,51,56,52,56,53,56,54,56,55,56,56,56,57,57,48,57,49,57,50,57,51,57,52,57,53,57,54,57,55,57,56,57,57]⟩)) (.tmp 130)),[0,1,2,3,4,5],none⟩,⟨O1 132 (.mov (.tmp 14)),[0,1,2,3,4,5,6,7,8],none⟩,⟨O1 133 (.idxStr (.const (.string ⟨#[48,48,48,49,48,50,48,51,48,52,48,53,48,54,48,55,48,56,48,57,49,48,49,49,49,50,49,51,49,52,49,53,49,54,49,55,49,56,49,57,50,48,50,49,50,50,50,51,50,52,50,53,50,54,50,55,50,56,50,57,51,48,51,49,51,50,51,51,51,52,51,53,51,54,51,55,51,56,51,57,52,48,52,49,52,50,52,51,52,52,52,53,52,54,52,55,52,56,52,57,53,48,53,49,53,50,53,51,53,52,53,53,53,54,53,55,53,56,53,57,54,48,54,49,54,50,54,51,54,52,54,53,54,54,54,55,54,56,54,57,55,48,55,49,55,50,55,51,55,52,55,53,55,54,55,55,55,56,55,57,56,48,56,49,56,50,56,51,56,52,56,53,56,54,56,55,56,56,56,57,57,48,57,49,57,50,57,51,57,52,57,53,57,54,57,55,57,56,57,57]⟩)) (.tmp 132)),[0,1,2,3,4,5,6,7,8],none⟩,⟨O1 134 (.idxS 1 (.tmp 123) (.tmp 125)),[3,4,5,9,10],none⟩,⟨⟨none,none,.store 1 (.tmp 134) (.tmp 131)⟩,[3,4,5,9,10],none⟩] [O1 135 (.idxS 1 (.tmp 126) (.tmp 128)),⟨none,none,.store 1 (.tmp 135) (.tmp 133)⟩] [0,4,12]) (.ops [O1 136 (.mov (.tmp 4)),O1 137 (.bin .sub (.tmp 136) (.const (.int .i64 4))),O1 4 (.mov (.tmp 137))] [0,4,12])))))) (.skip))) (.seq (.seq (.ops [O1 138 (.mov (.tmp 4)),O1 139 (.bin .geq (.tmp 138) (.const (.int .i64 2)))] [0,4,12,139]) (.cond (.tmp 139) (.seq (.ops [O1 140 (.mov (.tmp 12)),O1 141 (.bin .rem (.tmp 140) (.const (.int .u32 100))),O1 142 (.bin .mul (.tmp 141) (.const (.int .u32 2))),O1 16 (.mov (.tmp 142))] [0,4,12,16]) (.seq (.ops [O1 143 (.mov (.tmp 12)),O1 144 (.bin .quo (.tmp 143) (.const (.int .u32 100))),O1 12 (.mov (.tmp 144))] [0,4,12,16]) (.seq (.drawW [⟨O1 145 (.mov (.tmp 0)),[],none⟩,⟨O1 146 (.mov (.tmp 4)),[0],none⟩,⟨O1 147 (.bin .sub (.tmp 146) (.const (.int .i64 1))),[0],none⟩,⟨O1 148 (.mov (.tmp 0)),[0,1,2],none⟩,⟨O1 149 (.mov (.tmp 4)),[0,1,2,3],none⟩,⟨O1 150 (.bin .sub (.tmp 149) (.const (.int .i64 2))),[0,1,2,3],none⟩,⟨O1 151 (.mov (.tmp 16)),[0,1,2,3,4,5],none⟩,⟨O1 152 (.bin .add (.tmp 151) (.const (.int .u32 1))),[0,1,2,3,4,5],none⟩,
  ⟨O1 153 (.idxStr (.const (.string ⟨#[48,48,48,49,48,50,48,51,48,52,48,53,48,54,48,55,48,56,48,57,49,48,49,49,49,50,49,51,49,52,49,53,49,54,49,55,49,56,49,57,50,48,50,49,50,50,50,51,50,52,50,53,50,54,50,55,50,56,50,57,51,48,51,49,51,50,51,51,51,52,51,53,51,54,51,55,51,56,51,57,52,48,52,49,52,50,52,51,52,52,52,53,52,54,52,55,52,56,52,57,53,48,53,49,53,50,53,51,53,52,53,53,53,54,53,55,53,56,53,57,54,48,54,49,54,50,54,51,54,52,54,53,54,54,54,55,54,56,54,57,55,48,55,49,55,50,55,51,55,52,55,53,55,54,55,55,55,56,55,57,56,48,56,49,56,50,56,51,56,52,56,53,56,54,56,55,56,56,56,57,57,48,57,49,57,50,57,51,57,52,57,53,57,54,57,55,57,56,57,57]⟩)) (.tmp 152)),[0,1,2,3,4,5],none⟩,⟨O1 154 (.mov (.tmp 16)),[0,1,2,3,4,5,6,7,8],none⟩,⟨O1 155 (.idxStr (.const (.string ⟨#[48,48,48,49,48,50,48,51,48,52,48,53,48,54,48,55,48,56,48,57,49,48,49,49,49,50,49,51,49,52,49,53,49,54,49,55,49,56,49,57,50,48,50,49,50,50,50,51,50,52,50,53,50,54,50,55,50,56,50,57,51,48,51,49,51,50,51,51,51,52,51,53,51,54,51,55,51,56,51,57,52,48,52,49,52,50,52,51,52,52,52,53,52,54,52,55,52,56,52,57,53,48,53,49,53,50,53,51,53,52,53,53,53,54,53,55,53,56,53,57,54,48,54,49,54,50,54,51,54,52,54,53,54,54,54,55,54,56,54,57,55,48,55,49,55,50,55,51,55,52,55,53,55,54,55,55,55,56,55,57,56,48,56,49,56,50,56,51,56,52,56,53,56,54,56,55,56,56,56,57,57,48,57,49,57,50,57,51,57,52,57,53,57,54,57,55,57,56,57,57]⟩)) (.tmp 154)),[0,1,2,3,4,5,6,7,8],none⟩,⟨O1 156 (.idxS 1 (.tmp 145) (.tmp 147)),[3,4,5,9,10],none⟩,⟨⟨none,none,.store 1 (.tmp 156) (.tmp 153)⟩,[3,4,5,9,10],none⟩] [O1 157 (.idxS 1 (.tmp 148) (.tmp 150)),⟨none,none,.store 1 (.tmp 157) (.tmp 155)⟩] [0,4,12]) (.ops [O1 158 (.mov (.tmp 4)),O1 159 (.bin .sub (.tmp 158) (.const (.int .i64 2))),O1 4 (.mov (.tmp 159))] [0,4,12])))) (.skip))) (.seq (.ops [O1 160 (.mov (.tmp 4)),O1 161 (.bin .gtr (.tmp 160) (.const (.int .i64 0)))] [0,12,161]) (.cond (.tmp 161) (.ops [O1 162 (.mov (.tmp 0)),O1 163 (.mov (.tmp 12)),O1 164 (.bin .add (.const (.int .u32 48)) (.tmp 163)),O1 165 (.convI .u8 (.tmp 164)),O1 166 (.idxS 1 (.tmp 162) (.const (.int .i64 0))),⟨none,none,.store 1 (.tmp 166) (.tmp 165)⟩] []) (.skip))))))),167,[],false⟩
theorem ok78:FunOK Tryd.prog 78 c78:= .code ⟨Tryd.f78,_,c78.code,Tryd.func78,rfl,by kernel_rfl,rfl,by kernel_rfl,by kernel_rfl⟩
/- internal/strconv.formatBits (1 operations that the interpreter lacks) -/
def c79l0:AC:= .seq (.seq (.ops [O1 66 (.mov (.tmp 1)),O1 67 (.mov (.tmp 17)),O1 68 (.bin .geq (.tmp 66) (.tmp 67))] [0,1,3,4,10,11,12,13,17,68]) (.cond (.tmp 68) (.skip) (.exit 2))) (.block 3 (.seq (.ops [O1 69 (.mov (.tmp 13)),O1 70 (.bin .sub (.tmp 69) (.const (.int .i64 1))),O1 13 (.mov (.tmp 70))] [0,1,3,4,10,11,12,13,17]) (.seq (.ops [O1 71 (.mov (.tmp 1)),O1 72 (.mov (.tmp 17)),O1 73 (.bin .quo (.tmp 71) (.tmp 72)),O1 18 (.mov (.tmp 73))] [0,1,3,4,10,11,12,13,17,18]) (.seq (.ops [O1 74 (.mov (.tmp 13)),O1 75 (.mov (.tmp 1)),O1 76 (.mov (.tmp 18)),O1 77 (.mov (.tmp 17)),O1 78 (.bin .mul (.tmp 76) (.tmp 77)),O1 79 (.bin .sub (.tmp 75) (.tmp 78)),O1 80 (.idxStr (.const (.string ⟨#[48,49,50,51,52,53,54,55,56,57,97,98,99,100,101,102,103,104,105,106,107,108,109,110,111,112,113,114,115,116,117,118,119,120,121,122]⟩)) (.tmp 79)),O1 81 (.idxA 65 1 (.tmp 12) (.tmp 74)),⟨none,none,.store 1 (.tmp 81) (.tmp 80)⟩] [0,3,4,10,11,12,13,17,18]) (.ops [O1 82 (.mov (.tmp 18)),O1 1 (.mov (.tmp 82))] [0,1,3,4,10,11,12,13,17])))))
def c79l1:AC:= .seq (.seq (.ops [O1 44 (.mov (.tmp 1)),O1 45 (.mov (.tmp 15)),O1 46 (.bin .geq (.tmp 44) (.tmp 45))] [0,1,3,4,10,11,12,13,14,15,16,46]) (.cond (.tmp 46) (.skip) (.exit 0))) (.block 1 (.seq (.ops [O1 47 (.mov (.tmp 13)),O1 48 (.bin .sub (.tmp 47) (.const (.int .i64 1))),O1 13 (.mov (.tmp 48))] [0,1,3,4,10,11,12,13,14,15,16]) (.seq (.ops [O1 49 (.mov (.tmp 13)),O1 50 (.mov (.tmp 1)),O1 51 (.mov (.tmp 16)),O1 52 (.bin .and (.tmp 50) (.tmp 51)),O1 53 (.idxStr (.const (.string ⟨#[48,49,50,51,52,53,54,55,56,57,97,98,99,100,101,102,103,104,105,106,107,108,109,110,111,112,113,114,115,116,117,118,119,120,121,122]⟩)) (.tmp 52)),O1 54 (.idxA 65 1 (.tmp 12) (.tmp 49)),⟨none,none,.store 1 (.tmp 54) (.tmp 53)⟩] [0,1,3,4,10,11,12,13,14,15,16]) (.ops [O1 55 (.mov (.tmp 1)),O1 56 (.mov (.tmp 14)),O1 57 (.bin .shr (.tmp 55) (.tmp 56)),O1 1 (.mov (.tmp 57))] [0,1,3,4,10,11,12,13,14,15,16]))))
def c79:AFun:=⟨.seq (.ops [O1 10 (.mov (.const (.slice none 0 0))),O1 11 (.mov (.const (.string ⟨#[]⟩)))] [0,1,2,3,4,10,11]) (.seq (.seq (.ops [O1 19 (.mov (.tmp 2)),O1 20 (.bin .lss (.tmp 19) (.const (.int .i64 2))),O1 21 (.mov (.tmp 20)),⟨some 22,some (21,false),.mov (.tmp 2)⟩,⟨some 23,some (21,false),.bin .eql (.tmp 22) (.const (.int .i64 10))⟩,O1 24 (.pick (.tmp 21) (.const (.bool true)) (.tmp 23)),O1 25 (.mov (.tmp 24)),⟨some 26,some (25,false),.mov (.tmp 2)⟩,⟨some 27,some (25,false),.bin .gtr (.tmp 26) (.const (.int .i64 36))⟩,O1 28 (.pick (.tmp 25) (.const (.bool true)) (.tmp 27))] [0,1,2,3,4,10,11,28]) (.cond (.tmp 28) (.ops [O1 29 (.mkIf 9 (.const (.string ⟨#[115,116,114,99,111,110,118,58,32,105,108,108,101,103,97,108,32,65,112,112,101,110,100,73,110,116,47,70,111,114,109,97,116,73,110,116,32,98,97,115,101]⟩))),⟨none,none,.bad⟩] [0,1,2,3,4,10,11]) (.skip))) (.seq (.ops [O1 12 (.alloc 125 [(65,(.int .u8 0))])] [0,1,2,3,4,10,11,12]) (.seq (.ops [O1 13 (.mov (.const (.int .i64 65)))] [0,1,2,3,4,10,11,12,13]) (.seq (.seq (.ops [O1 30 (.mov (.tmp 3))] [0,1,2,3,4,10,11,12,13,30]) (.cond (.tmp 30) (.ops [O1 31 (.mov (.tmp 1)),O1 32 (.un .neg (.tmp 31)),O1 1 (.mov (.tmp 32))] [0,1,2,3,4,10,11,12,13]) (.skip))) (.seq (.seq (.ops [O1 33 (.mov (.tmp 2)),O1 34 (.callF 90 [.tmp 33])] [0,1,2,3,4,10,11,12,13,34]) (.cond (.tmp 34) (.seq (.ops [O1 35 (.mov (.tmp 2)),O1 36 (.convI .u64 (.tmp 35)),O1 37 (.callF 91 [.tmp 36]),O1 38 (.convI .u64 (.tmp 37)),O1 14 (.mov (.tmp 38))] [0,1,2,3,4,10,11,12,13,14]) (.seq (.ops [O1 39 (.mov (.tmp 2)),O1 40 (.convI .u64 (.tmp 39)),O1 15 (.mov (.tmp 40))] [0,1,2,3,4,10,11,12,13,14,15]) (.seq (.ops [O1 41 (.mov (.tmp 2)),O1 42 (.convI .u64 (.tmp 41)),O1 43 (.bin .sub (.tmp 42) (.const (.int .u64 1))),O1 16 (.mov (.tmp 43))] [0,1,3,4,10,11,12,13,14,15,16]) (.seq (.block 0 (.loop [0,1,3,4,10,11,12,13,14,15,16] c79l1)) (.seq (.ops [O1 58 (.mov (.tmp 13)),O1 59 (.bin .sub (.tmp 58) (.const (.int .i64 1))),O1 13 (.mov (.tmp 59))] [0,1,3,4,10,11,12,13]) (.ops [O1 60 (.mov (.tmp 13)),O1 61 (.mov (.tmp 1)),O1 62 (.idxStr (.const (.string ⟨#[48,49,50,51,52,53,54,55,56,57,97,98,99,100,101,102,103,104,105,106,107,108,109,110,111,112,113,114,115,116,117,118,119,120,121,122]⟩)) (.tmp 61)),O1 63 (.idxA 65 1 (.tmp 12) (.tmp 60)),⟨none,none,.store 1 (.tmp 63) (.tmp 62)⟩] [0,3,4,10,11,12,13])))))) (.seq (.ops [O1 64 (.mov (.tmp 2)),O1 65 (.convI .u64 (.tmp 64)),O1 17 (.mov (.tmp 65))] [0,1,3,4,10,11,12,13,17]) (.seq (.block 2 (.loop [0,1,3,4,10,11,12,13,17] c79l0)) (.seq (.ops [O1 83 (.mov (.tmp 13)),O1 84 (.bin .sub (.tmp 83) (.const (.int .i64 1))),O1 13 (.mov (.tmp 84))] [0,1,3,4,10,11,12,13]) (.ops [O1 85 (.mov (.tmp 13)),O1 86 (.mov (.tmp 1)),O1 87 (.idxStr (.const (.string ⟨#[48,49,50,51,52,53,54,55,56,57,97,98,99,100,101,102,103,104,105,106,107,108,109,110,111,112,113,114,115,116,117,118,119,120,121,122]⟩)) (.tmp 86)),O1 88 (.idxA 65 1 (.tmp 12) (.tmp 85)),⟨none,none,.store 1 (.tmp 88) (.tmp 87)⟩] [0,3,4,10,11,12,13])))))) (.seq (.seq (.ops [O1 89 (.mov (.tmp 3))] [0,4,10,11,12,13,89])
  (.cond (.tmp 89) (.seq (.ops [O1 90 (.mov (.tmp 13)),O1 91 (.bin .sub (.tmp 90) (.const (.int .i64 1))),O1 13 (.mov (.tmp 91))] [0,4,10,11,12,13]) (.ops [O1 92 (.mov (.tmp 13)),O1 93 (.idxA 65 1 (.tmp 12) (.tmp 92)),⟨none,none,.store 1 (.tmp 93) (.const (.int .u8 45))⟩] [0,4,10,11,12,13])) (.skip))) (.seq (.seq (.ops [O1 94 (.mov (.tmp 4))] [0,10,11,12,13,94]) (.cond (.tmp 94) (.seq (.ops [O1 95 (.mov (.tmp 0)),O1 96 (.mov (.tmp 13)),O1 97 (.slcA 65 1 (.tmp 12) (some (.tmp 96)) none),O1 98 (.app 5 1 1 (.tmp 95) (.tmp 97)),O1 10 (.mov (.tmp 98))] [10,11]) (.ret)) (.skip))) (.seq (.ops [O1 99 (.mov (.tmp 13)),O1 100 (.slcA 65 1 (.tmp 12) (some (.tmp 99)) none),O1 101 (.b2s (.tmp 100)),O1 11 (.mov (.tmp 101))] [10,11]) (.ret))))))))),102,[(10,none),(11,none)],false⟩
theorem ok79:FunOK Tryd.prog 79 c79:= .code ⟨Tryd.f79,_,c79.code,Tryd.func79,rfl,by kernel_rfl,rfl,by kernel_rfl,by kernel_rfl⟩
/- unicode/utf8.RuneCountInString -/
def c80l0:AC:= .seq (.ops [O1 5 (.nextS (.tmp 4)),O1 6 (.ext (.tmp 5) 0)] [2,4,6]) (.seq (.cond (.tmp 6) (.skip) (.exit 0)) (.block 1 (.ops [O1 7 (.mov (.tmp 2)),O1 8 (.bin .add (.tmp 7) (.const (.int .i64 1))),O1 2 (.mov (.tmp 8))] [2,4])))
def c80:AFun:=⟨.seq (.ops [O1 2 (.mov (.const (.int .i64 0)))] [0,2]) (.seq (.seq (.ops [O1 3 (.mov (.tmp 0)),O1 4 (.rangeS (.tmp 3))] [2,4]) (.block 0 (.loop [2,4] c80l0))) (.seq (.ops [O1 9 (.mov (.tmp 2)),O1 2 (.mov (.tmp 9))] [2]) (.ret))),10,[(2,none)],true⟩
theorem ok80:FunOK Tryd.prog 80 c80:= .code ⟨Tryd.f80,_,c80.code,Tryd.func80,rfl,by kernel_rfl,rfl,by kernel_rfl,by kernel_rfl⟩
/- unicode/utf8.DecodeRuneInString -/
def c81:AFun:=⟨.seq (.ops [O1 2 (.mov (.const (.int .i32 0))),O1 3 (.mov (.const (.int .i64 0)))] [0]) (.seq (.seq (.ops [O1 4 (.mov (.tmp 0)),O1 5 (.bin .neq (.tmp 4) (.const (.string ⟨#[]⟩))),O1 6 (.mov (.tmp 5)),⟨some 7,some (6,true),.mov (.tmp 0)⟩,⟨some 8,some (6,true),.idxStr (.tmp 7) (.const (.int .i64 0))⟩,⟨some 9,some (6,true),.bin .lss (.tmp 8) (.const (.int .u8 128))⟩,O1 10 (.pick (.tmp 6) (.tmp 9) (.const (.bool false)))] [0,10]) (.cond (.tmp 10) (.seq (.ops [O1 11 (.mov (.tmp 0)),O1 12 (.idxStr (.tmp 11) (.const (.int .i64 0))),O1 13 (.convI .i32 (.tmp 12)),O1 2 (.mov (.tmp 13)),O1 3 (.mov (.const (.int .i64 1)))] [2,3]) (.ret)) (.ops [O1 15 (.mov (.tmp 0)),O1 16 (.callF 92 [.tmp 15]),O1 14 (.mov (.tmp 16)),O1 17 (.ext (.tmp 14) 0),O1 18 (.ext (.tmp 14) 1),O1 2 (.mov (.tmp 17)),O1 3 (.mov (.tmp 18))] [2,3]))) (.ret)),19,[(2,none),(3,none)],true⟩
theorem ok81:FunOK Tryd.prog 81 c81:= .code ⟨Tryd.f81,_,c81.code,Tryd.func81,rfl,by kernel_rfl,rfl,by kernel_rfl,by kernel_rfl⟩
/- internal/stringslite.Index -/
def c83l0:AC:= .seq (.seq (.ops [O1 57 (.mov (.tmp 8)),O1 58 (.mov (.tmp 9)),O1 59 (.bin .lss (.tmp 57) (.tmp 58))] [0,1,5,6,7,8,9,10,59]) (.cond (.tmp 59) (.skip) (.exit 1))) (.block 2 (.seq (.seq (.ops [O1 60 (.mov (.tmp 0)),O1 61 (.mov (.tmp 8)),O1 62 (.idxStr (.tmp 60) (.tmp 61)),O1 63 (.mov (.tmp 6)),O1 64 (.bin .neq (.tmp 62) (.tmp 63))] [0,1,5,6,7,8,9,10,64]) (.cond (.tmp 64) (.seq (.ops [O1 65 (.mov (.tmp 0)),O1 66 (.mov (.tmp 8)),O1 67 (.bin .add (.tmp 66) (.const (.int .i64 1))),O1 68 (.mov (.tmp 9)),O1 69 (.slcS (.tmp 65) (some (.tmp 67)) (some (.tmp 68))),O1 70 (.mov (.tmp 6)),O1 71 (.callF 93 [(.tmp 69),(.tmp 70)]),O1 11 (.mov (.tmp 71))] [0,1,5,6,7,8,9,10,11]) (.seq (.seq (.ops [O1 72 (.mov (.tmp 11)),O1 73 (.bin .lss (.tmp 72) (.const (.int .i64 0)))] [0,1,5,6,7,8,9,10,11,73]) (.cond (.tmp 73) (.seq (.ops [O1 4 (.mov (.const (.int .i64 (-1))))] [4]) (.ret)) (.skip))) (.ops [O1 74 (.mov (.tmp 8)),O1 75 (.mov (.tmp 11)),O1 76 (.bin .add (.tmp 75) (.const (.int .i64 1))),O1 77 (.bin .add (.tmp 74) (.tmp 76)),O1 8 (.mov (.tmp 77))] [0,1,5,6,7,8,9,10]))) (.skip))) (.seq (.seq (.ops [O1 78 (.mov (.tmp 0)),O1 79 (.mov (.tmp 8)),O1 80 (.bin .add (.tmp 79) (.const (.int .i64 1))),O1 81 (.idxStr (.tmp 78) (.tmp 80)),O1 82 (.mov (.tmp 7)),O1 83 (.bin .eql (.tmp 81) (.tmp 82)),O1 84 (.mov (.tmp 83)),⟨some 85,some (84,true),.mov (.tmp 0)⟩,⟨some 86,some (84,true),.mov (.tmp 8)⟩,⟨some 87,some (84,true),.mov (.tmp 8)⟩,⟨some 88,some (84,true),.mov (.tmp 5)⟩,⟨some 89,some (84,true),.bin .add (.tmp 87) (.tmp 88)⟩,⟨some 90,some (84,true),.slcS (.tmp 85) (some (.tmp 86)) (some (.tmp 89))⟩,⟨some 91,some (84,true),.mov (.tmp 1)⟩,⟨some 92,some (84,true),.bin .eql (.tmp 90) (.tmp 91)⟩,O1 93 (.pick (.tmp 84) (.tmp 92) (.const (.bool false)))] [0,1,5,6,7,8,9,10,93]) (.cond (.tmp 93) (.seq (.ops [O1 94 (.mov (.tmp 8)),O1 4 (.mov (.tmp 94))] [4]) (.ret)) (.skip))) (.seq (.ops [O1 95 (.mov (.tmp 8)),O1 96 (.bin .add (.tmp 95) (.const (.int .i64 1))),O1 8 (.mov (.tmp 96))] [0,1,5,6,7,8,9,10]) (.seq (.ops [O1 97 (.mov (.tmp 10)),O1 98 (.bin .add (.tmp 97) (.const (.int .i64 1))),O1 10 (.mov (.tmp 98))] [0,1,5,6,7,8,9,10]) (.seq (.ops [O1 99 (.mov (.tmp 5)),O1 100 (.load none (.global 2)),O1 101 (.bin .leq (.tmp 99) (.tmp 100)),O1 102 (.mov (.tmp 101)),⟨some 103,some (102,true),.mov (.tmp 10)⟩,⟨some 104,some (102,true),.mov (.tmp 8)⟩,⟨some 105,some (102,true),.callF 95 [.tmp 104]⟩,⟨some 106,some (102,true),.bin .gtr (.tmp 103) (.tmp 105)⟩,O1 107 (.pick (.tmp 102) (.tmp 106) (.const (.bool false)))] [0,1,5,6,7,8,9,10,107]) (.cond (.tmp 107) (.seq (.ops [O1 108 (.mov (.tmp 0)),O1 109 (.mov (.tmp 8)),O1 110 (.slcS (.tmp 108) (some (.tmp 109)) none),O1 111 (.mov (.tmp 1)),O1 112 (.callF 94 [(.tmp 110),(.tmp 111)]),O1 12 (.mov (.tmp 112))] [8,12]) (.seq (.seq (.ops [O1 113 (.mov (.tmp 12)),O1 114 (.bin .geq (.tmp 113) (.const (.int .i64 0)))] [8,12,114]) (.cond (.tmp 114) (.seq (.ops [O1 115 (.mov (.tmp 12)),O1 116 (.mov (.tmp 8)),O1 117 (.bin .add (.tmp 115) (.tmp 116)),
  O1 4 (.mov (.tmp 117))] [4]) (.ret)) (.skip))) (.seq (.ops [O1 4 (.mov (.const (.int .i64 (-1))))] [4]) (.ret)))) (.seq (.ops [O1 118 (.mov (.tmp 5)),O1 119 (.load none (.global 2)),O1 120 (.bin .gtr (.tmp 118) (.tmp 119)),O1 121 (.mov (.tmp 120)),⟨some 122,some (121,true),.mov (.tmp 10)⟩,⟨some 123,some (121,true),.mov (.tmp 8)⟩,⟨some 124,some (121,true),.bin .shr (.tmp 123) (.const (.int .u64 4))⟩,⟨some 125,some (121,true),.bin .add (.const (.int .i64 4)) (.tmp 124)⟩,⟨some 126,some (121,true),.bin .geq (.tmp 122) (.tmp 125)⟩,O1 127 (.pick (.tmp 121) (.tmp 126) (.const (.bool false))),O1 128 (.mov (.tmp 127)),⟨some 129,some (128,true),.mov (.tmp 8)⟩,⟨some 130,some (128,true),.mov (.tmp 9)⟩,⟨some 131,some (128,true),.bin .lss (.tmp 129) (.tmp 130)⟩,O1 132 (.pick (.tmp 128) (.tmp 131) (.const (.bool false)))] [0,1,5,6,7,8,9,10,132]) (.cond (.tmp 132) (.seq (.ops [O1 133 (.mov (.tmp 0)),O1 134 (.mov (.tmp 8)),O1 135 (.slcS (.tmp 133) (some (.tmp 134)) none),O1 136 (.mov (.tmp 1)),O1 137 (.callF 96 [(.tmp 135),(.tmp 136)]),O1 13 (.mov (.tmp 137))] [8,13]) (.seq (.seq (.ops [O1 138 (.mov (.tmp 13)),O1 139 (.bin .lss (.tmp 138) (.const (.int .i64 0)))] [8,13,139]) (.cond (.tmp 139) (.seq (.ops [O1 4 (.mov (.const (.int .i64 (-1))))] [4]) (.ret)) (.skip))) (.seq (.ops [O1 140 (.mov (.tmp 8)),O1 141 (.mov (.tmp 13)),O1 142 (.bin .add (.tmp 140) (.tmp 141)),O1 4 (.mov (.tmp 142))] [4]) (.ret)))) (.skip))))))))))
def c83:AFun:=⟨.seq (.ops [O1 4 (.mov (.const (.int .i64 0)))] [0,1]) (.seq (.ops [O1 14 (.mov (.tmp 1)),O1 15 (.len true (.tmp 14)),O1 5 (.mov (.tmp 15))] [0,1,5]) (.seq (.block 0 (.seq (.ops [O1 17 (.mov (.tmp 5)),O1 18 (.bin .eql (.tmp 17) (.const (.int .i64 0))),O1 19 (.mov (.tmp 18)),⟨some 20,some (19,false),.mov (.tmp 1)⟩,⟨some 21,some (19,false),.mov (.tmp 0)⟩,⟨some 22,some (19,false),.bin .eql (.tmp 20) (.tmp 21)⟩,O1 23 (.pick (.tmp 19) (.const (.bool true)) (.tmp 22)),O1 16 (.mov (.tmp 23))] [0,1,5,16]) (.cond (.tmp 16) (.seq (.ops [O1 4 (.mov (.const (.int .i64 0)))] [4]) (.ret)) (.seq (.ops [O1 25 (.mov (.tmp 5)),O1 26 (.bin .eql (.tmp 25) (.const (.int .i64 1))),O1 24 (.mov (.tmp 26))] [0,1,5,24]) (.cond (.tmp 24) (.seq (.ops [O1 27 (.mov (.tmp 0)),O1 28 (.mov (.tmp 1)),O1 29 (.idxStr (.tmp 28) (.const (.int .i64 0))),O1 30 (.callF 93 [(.tmp 27),(.tmp 29)]),O1 4 (.mov (.tmp 30))] [4]) (.ret)) (.seq (.ops [O1 32 (.mov (.tmp 5)),O1 33 (.mov (.tmp 0)),O1 34 (.len true (.tmp 33)),O1 35 (.bin .geq (.tmp 32) (.tmp 34)),O1 31 (.mov (.tmp 35))] [0,1,5,31]) (.cond (.tmp 31) (.seq (.ops [O1 4 (.mov (.const (.int .i64 (-1))))] [4]) (.ret)) (.seq (.ops [O1 37 (.mov (.tmp 5)),O1 38 (.load none (.global 2)),O1 39 (.bin .leq (.tmp 37) (.tmp 38)),O1 40 (.mov (.tmp 39)),⟨some 41,some (40,true),.mov (.tmp 0)⟩,⟨some 42,some (40,true),.len true (.tmp 41)⟩,⟨some 43,some (40,true),.bin .leq (.tmp 42) (.const (.int .i64 64))⟩,O1 44 (.pick (.tmp 40) (.tmp 43) (.const (.bool false))),O1 36 (.mov (.tmp 44))] [0,1,5,36]) (.cond (.tmp 36) (.seq (.ops [O1 45 (.mov (.tmp 0)),O1 46 (.mov (.tmp 1)),O1 47 (.callF 94 [(.tmp 45),(.tmp 46)]),O1 4 (.mov (.tmp 47))] [4]) (.ret)) (.skip)))))))))) (.seq (.ops [O1 48 (.mov (.tmp 1)),O1 49 (.idxStr (.tmp 48) (.const (.int .i64 0))),O1 6 (.mov (.tmp 49))] [0,1,5,6]) (.seq (.ops [O1 50 (.mov (.tmp 1)),O1 51 (.idxStr (.tmp 50) (.const (.int .i64 1))),O1 7 (.mov (.tmp 51))] [0,1,5,6,7]) (.seq (.ops [O1 8 (.mov (.const (.int .i64 0)))] [0,1,5,6,7,8]) (.seq (.ops [O1 52 (.mov (.tmp 0)),O1 53 (.len true (.tmp 52)),O1 54 (.mov (.tmp 5)),O1 55 (.bin .sub (.tmp 53) (.tmp 54)),O1 56 (.bin .add (.tmp 55) (.const (.int .i64 1))),O1 9 (.mov (.tmp 56))] [0,1,5,6,7,8,9]) (.seq (.ops [O1 10 (.mov (.const (.int .i64 0)))] [0,1,5,6,7,8,9,10]) (.seq (.block 1 (.loop [0,1,5,6,7,8,9,10] c83l0)) (.seq (.ops [O1 4 (.mov (.const (.int .i64 (-1))))] [4]) (.ret)))))))))),143,[(4,none)],true⟩
theorem ok83:FunOK Tryd.prog 83 c83:= .code ⟨Tryd.f83,_,c83.code,Tryd.func83,rfl,by kernel_rfl,rfl,by kernel_rfl,by kernel_rfl⟩
/- internal/strconv.ParseUint -/
def c84l0:AC:= .seq (.ops [O1 102 (.bin .lss (.tmp 101) (.tmp 100))] [1,8,9,10,11,12,13,99,100,101,102]) (.seq (.cond (.tmp 102) (.skip) (.exit 3)) (.seq (.block 4 (.seq (.ops [O1 103 (.idxS 1 (.tmp 99) (.tmp 101)),O1 104 (.load none (.tmp 103)),O1 15 (.mov (.tmp 104))] [1,8,9,10,11,12,13,15,99,100,101]) (.seq (.ops [O1 16 (.mov (.const (.int .u8 0)))] [1,8,9,10,11,12,13,15,99,100,101]) (.seq (.block 5 (.seq (.ops [O1 107 (.mov (.tmp 15)),O1 108 (.bin .eql (.tmp 107) (.const (.int .u8 95))),O1 109 (.mov (.tmp 108)),⟨some 110,some (109,true),.mov (.tmp 8)⟩,O1 111 (.pick (.tmp 109) (.tmp 110) (.const (.bool false))),O1 106 (.mov (.tmp 111))] [1,8,9,10,11,12,13,15,99,100,101,106]) (.cond (.tmp 106) (.seq (.ops [O1 12 (.mov (.const (.bool true)))] [1,8,9,10,11,12,13,99,100,101]) (.exit 4)) (.seq (.ops [O1 113 (.mov (.tmp 15)),O1 114 (.bin .leq (.const (.int .u8 48)) (.tmp 113)),O1 115 (.mov (.tmp 114)),⟨some 116,some (115,true),.mov (.tmp 15)⟩,⟨some 117,some (115,true),.bin .leq (.tmp 116) (.const (.int .u8 57))⟩,O1 118 (.pick (.tmp 115) (.tmp 117) (.const (.bool false))),O1 112 (.mov (.tmp 118))] [1,8,9,10,11,12,13,15,99,100,101,112]) (.cond (.tmp 112) (.ops [O1 119 (.mov (.tmp 15)),O1 120 (.bin .sub (.tmp 119) (.const (.int .u8 48))),O1 16 (.mov (.tmp 120))] [1,8,9,10,11,12,13,16,99,100,101]) (.seq (.ops [O1 122 (.mov (.tmp 15)),O1 123 (.callF 97 [.tmp 122]),O1 124 (.bin .leq (.const (.int .u8 97)) (.tmp 123)),O1 125 (.mov (.tmp 124)),⟨some 126,some (125,true),.mov (.tmp 15)⟩,⟨some 127,some (125,true),.callF 97 [.tmp 126]⟩,⟨some 128,some (125,true),.bin .leq (.tmp 127) (.const (.int .u8 122))⟩,O1 129 (.pick (.tmp 125) (.tmp 128) (.const (.bool false))),O1 121 (.mov (.tmp 129))] [1,8,9,10,11,12,13,15,99,100,101,121]) (.cond (.tmp 121) (.ops [O1 130 (.mov (.tmp 15)),O1 131 (.callF 97 [.tmp 130]),O1 132 (.bin .sub (.tmp 131) (.const (.int .u8 97))),O1 133 (.bin .add (.tmp 132) (.const (.int .u8 10))),O1 16 (.mov (.tmp 133))] [1,8,9,10,11,12,13,16,99,100,101]) (.seq (.ops [O1 105 (.mkIf 97 (.const (.int .i64 2))),O1 6 (.mov (.const (.int .u64 0))),O1 7 (.mov (.tmp 105))] [6,7]) (.ret))))))))) (.seq (.seq (.ops [O1 134 (.mov (.tmp 16)),O1 135 (.mov (.tmp 1)),O1 136 (.convI .u8 (.tmp 135)),O1 137 (.bin .geq (.tmp 134) (.tmp 136))] [1,8,9,10,11,12,13,16,99,100,101,137]) (.cond (.tmp 137) (.seq (.ops [O1 138 (.mkIf 97 (.const (.int .i64 2))),O1 6 (.mov (.const (.int .u64 0))),O1 7 (.mov (.tmp 138))] [6,7]) (.ret)) (.skip))) (.seq (.seq (.ops [O1 139 (.mov (.tmp 13)),O1 140 (.mov (.tmp 10)),O1 141 (.bin .geq (.tmp 139) (.tmp 140))] [1,8,9,10,11,12,13,16,99,100,101,141]) (.cond (.tmp 141) (.seq (.ops [O1 142 (.mov (.tmp 11)),O1 143 (.mkIf 97 (.const (.int .i64 1))),O1 6 (.mov (.tmp 142)),O1 7 (.mov (.tmp 143))] [6,7]) (.ret)) (.skip))) (.seq (.ops [O1 144 (.mov (.tmp 13)),O1 145 (.mov (.tmp 1)),O1 146 (.convI .u64 (.tmp 145)),O1 147 (.bin .mul (.tmp 144) (.tmp 146)),O1 13 (.mov (.tmp 147))] [1,8,9,10,11,12,13,16,99,100,101]) (.seq (.ops [O1 148 (.mov (.tmp 13)),
  O1 149 (.mov (.tmp 16)),O1 150 (.convI .u64 (.tmp 149)),O1 151 (.bin .add (.tmp 148) (.tmp 150)),O1 17 (.mov (.tmp 151))] [1,8,9,10,11,12,13,17,99,100,101]) (.seq (.seq (.ops [O1 152 (.mov (.tmp 17)),O1 153 (.mov (.tmp 13)),O1 154 (.bin .lss (.tmp 152) (.tmp 153)),O1 155 (.mov (.tmp 154)),⟨some 156,some (155,false),.mov (.tmp 17)⟩,⟨some 157,some (155,false),.mov (.tmp 11)⟩,⟨some 158,some (155,false),.bin .gtr (.tmp 156) (.tmp 157)⟩,O1 159 (.pick (.tmp 155) (.const (.bool true)) (.tmp 158))] [1,8,9,10,11,12,17,99,100,101,159]) (.cond (.tmp 159) (.seq (.ops [O1 160 (.mov (.tmp 11)),O1 161 (.mkIf 97 (.const (.int .i64 1))),O1 6 (.mov (.tmp 160)),O1 7 (.mov (.tmp 161))] [6,7]) (.ret)) (.skip))) (.ops [O1 162 (.mov (.tmp 17)),O1 13 (.mov (.tmp 162))] [1,8,9,10,11,12,13,99,100,101])))))))))) (.ops [O1 163 (.bin .add (.tmp 101) (.const (.int .i64 1))),O1 101 (.mov (.tmp 163))] [1,8,9,10,11,12,13,99,100,101])))
def c84:AFun:=⟨.seq (.ops [O1 6 (.mov (.const (.int .u64 0))),O1 7 (.mov (.const .nilIface))] [0,1,2]) (.seq (.seq (.ops [O1 18 (.mov (.tmp 0)),O1 19 (.bin .eql (.tmp 18) (.const (.string ⟨#[]⟩)))] [0,1,2,19]) (.cond (.tmp 19) (.seq (.ops [O1 20 (.mkIf 97 (.const (.int .i64 2))),O1 6 (.mov (.const (.int .u64 0))),O1 7 (.mov (.tmp 20))] [6,7]) (.ret)) (.skip))) (.seq (.ops [O1 21 (.mov (.tmp 1)),O1 22 (.bin .eql (.tmp 21) (.const (.int .i64 0))),O1 8 (.mov (.tmp 22))] [0,1,2,8]) (.seq (.ops [O1 23 (.mov (.tmp 0)),O1 9 (.mov (.tmp 23))] [0,1,2,8,9]) (.seq (.block 0 (.seq (.ops [O1 26 (.mov (.tmp 1)),O1 27 (.bin .leq (.const (.int .i64 2)) (.tmp 26)),O1 28 (.mov (.tmp 27)),⟨some 29,some (28,true),.mov (.tmp 1)⟩,⟨some 30,some (28,true),.bin .leq (.tmp 29) (.const (.int .i64 36))⟩,O1 31 (.pick (.tmp 28) (.tmp 30) (.const (.bool false))),O1 25 (.mov (.tmp 31))] [0,1,2,8,9,25]) (.cond (.tmp 25) (.skip) (.seq (.ops [O1 33 (.mov (.tmp 1)),O1 34 (.bin .eql (.tmp 33) (.const (.int .i64 0))),O1 32 (.mov (.tmp 34))] [0,2,8,9,32]) (.cond (.tmp 32) (.seq (.ops [O1 1 (.mov (.const (.int .i64 10)))] [0,1,2,8,9]) (.seq (.ops [O1 35 (.mov (.tmp 0)),O1 36 (.idxStr (.tmp 35) (.const (.int .i64 0))),O1 37 (.bin .eql (.tmp 36) (.const (.int .u8 48)))] [0,1,2,8,9,37]) (.cond (.tmp 37) (.block 1 (.seq (.ops [O1 41 (.mov (.tmp 0)),O1 42 (.len true (.tmp 41)),O1 43 (.bin .geq (.tmp 42) (.const (.int .i64 3))),O1 44 (.mov (.tmp 43)),⟨some 45,some (44,true),.mov (.tmp 0)⟩,⟨some 46,some (44,true),.idxStr (.tmp 45) (.const (.int .i64 1))⟩,⟨some 47,some (44,true),.callF 97 [.tmp 46]⟩,⟨some 48,some (44,true),.bin .eql (.tmp 47) (.const (.int .u8 98))⟩,O1 49 (.pick (.tmp 44) (.tmp 48) (.const (.bool false))),O1 40 (.mov (.tmp 49))] [0,2,8,9,40]) (.cond (.tmp 40) (.seq (.ops [O1 1 (.mov (.const (.int .i64 2)))] [0,1,2,8,9]) (.ops [O1 50 (.mov (.tmp 0)),O1 51 (.slcS (.tmp 50) (some (.const (.int .i64 2))) none),O1 0 (.mov (.tmp 51))] [0,1,2,8,9])) (.seq (.ops [O1 53 (.mov (.tmp 0)),O1 54 (.len true (.tmp 53)),O1 55 (.bin .geq (.tmp 54) (.const (.int .i64 3))),O1 56 (.mov (.tmp 55)),⟨some 57,some (56,true),.mov (.tmp 0)⟩,⟨some 58,some (56,true),.idxStr (.tmp 57) (.const (.int .i64 1))⟩,⟨some 59,some (56,true),.callF 97 [.tmp 58]⟩,⟨some 60,some (56,true),.bin .eql (.tmp 59) (.const (.int .u8 111))⟩,O1 61 (.pick (.tmp 56) (.tmp 60) (.const (.bool false))),O1 52 (.mov (.tmp 61))] [0,2,8,9,52]) (.cond (.tmp 52) (.seq (.ops [O1 1 (.mov (.const (.int .i64 8)))] [0,1,2,8,9]) (.ops [O1 62 (.mov (.tmp 0)),O1 63 (.slcS (.tmp 62) (some (.const (.int .i64 2))) none),O1 0 (.mov (.tmp 63))] [0,1,2,8,9])) (.seq (.ops [O1 65 (.mov (.tmp 0)),O1 66 (.len true (.tmp 65)),O1 67 (.bin .geq (.tmp 66) (.const (.int .i64 3))),O1 68 (.mov (.tmp 67)),⟨some 69,some (68,true),.mov (.tmp 0)⟩,⟨some 70,some (68,true),.idxStr (.tmp 69) (.const (.int .i64 1))⟩,⟨some 71,some (68,true),.callF 97 [.tmp 70]⟩,⟨some 72,some (68,true),.bin .eql (.tmp 71) (.const (.int .u8 120))⟩,O1 73 (.pick (.tmp 68) (.tmp 72) (.const (.bool false))),
  O1 64 (.mov (.tmp 73))] [0,2,8,9,64]) (.cond (.tmp 64) (.seq (.ops [O1 1 (.mov (.const (.int .i64 16)))] [0,1,2,8,9]) (.ops [O1 74 (.mov (.tmp 0)),O1 75 (.slcS (.tmp 74) (some (.const (.int .i64 2))) none),O1 0 (.mov (.tmp 75))] [0,1,2,8,9])) (.seq (.ops [O1 1 (.mov (.const (.int .i64 8)))] [0,1,2,8,9]) (.ops [O1 38 (.mov (.tmp 0)),O1 39 (.slcS (.tmp 38) (some (.const (.int .i64 1))) none),O1 0 (.mov (.tmp 39))] [0,1,2,8,9]))))))))) (.skip)))) (.seq (.ops [O1 24 (.mkIf 97 (.const (.int .i64 3))),O1 6 (.mov (.const (.int .u64 0))),O1 7 (.mov (.tmp 24))] [6,7]) (.ret))))))) (.seq (.seq (.ops [O1 76 (.mov (.tmp 2)),O1 77 (.bin .eql (.tmp 76) (.const (.int .i64 0)))] [0,1,2,8,9,77]) (.cond (.tmp 77) (.ops [O1 2 (.mov (.const (.int .i64 64)))] [0,1,2,8,9]) (.seq (.ops [O1 78 (.mov (.tmp 2)),O1 79 (.bin .lss (.tmp 78) (.const (.int .i64 0))),O1 80 (.mov (.tmp 79)),⟨some 81,some (80,false),.mov (.tmp 2)⟩,⟨some 82,some (80,false),.bin .gtr (.tmp 81) (.const (.int .i64 64))⟩,O1 83 (.pick (.tmp 80) (.const (.bool true)) (.tmp 82))] [0,1,2,8,9,83]) (.cond (.tmp 83) (.seq (.ops [O1 84 (.mkIf 97 (.const (.int .i64 4))),O1 6 (.mov (.const (.int .u64 0))),O1 7 (.mov (.tmp 84))] [6,7]) (.ret)) (.skip))))) (.seq (.ops [O1 10 (.mov (.const (.int .u64 0)))] [0,1,2,8,9]) (.seq (.seq (.ops [O1 85 (.mov (.tmp 1))] [0,1,2,8,9,85]) (.block 2 (.seq (.ops [O1 91 (.bin .eql (.tmp 85) (.const (.int .i64 10))),O1 90 (.mov (.tmp 91))] [0,1,2,8,9,85,90]) (.cond (.tmp 90) (.ops [O1 10 (.mov (.const (.int .u64 1844674407370955162)))] [0,1,2,8,9,10]) (.seq (.ops [O1 93 (.bin .eql (.tmp 85) (.const (.int .i64 16))),O1 92 (.mov (.tmp 93))] [0,1,2,8,9,92]) (.cond (.tmp 92) (.ops [O1 10 (.mov (.const (.int .u64 1152921504606846976)))] [0,1,2,8,9,10]) (.ops [O1 86 (.mov (.tmp 1)),O1 87 (.convI .u64 (.tmp 86)),O1 88 (.bin .quo (.const (.int .u64 18446744073709551615)) (.tmp 87)),O1 89 (.bin .add (.tmp 88) (.const (.int .u64 1))),O1 10 (.mov (.tmp 89))] [0,1,2,8,9,10]))))))) (.seq (.ops [O1 94 (.mov (.tmp 2)),O1 95 (.convI .u64 (.tmp 94)),O1 96 (.bin .shl (.const (.int .u64 1)) (.tmp 95)),O1 97 (.bin .sub (.tmp 96) (.const (.int .u64 1))),O1 11 (.mov (.tmp 97))] [0,1,8,9,10,11]) (.seq (.ops [O1 12 (.mov (.const (.bool false)))] [0,1,8,9,10,11,12]) (.seq (.ops [O1 13 (.mov (.const (.int .u64 0)))] [0,1,8,9,10,11,12,13]) (.seq (.seq (.ops [O1 98 (.mov (.tmp 0)),O1 99 (.s2b 5 (.tmp 98)),O1 100 (.len false (.tmp 99)),O1 101 (.mov (.const (.int .i64 0)))] [1,8,9,10,11,12,13,99,100,101]) (.block 3 (.loop [1,8,9,10,11,12,13,99,100,101] c84l0))) (.seq (.seq (.ops [O1 164 (.mov (.tmp 12)),O1 165 (.mov (.tmp 164)),⟨some 166,some (165,true),.mov (.tmp 9)⟩,⟨some 167,some (165,true),.callF 98 [.tmp 166]⟩,⟨some 168,some (165,true),.un .not (.tmp 167)⟩,O1 169 (.pick (.tmp 165) (.tmp 168) (.const (.bool false)))] [13,169]) (.cond (.tmp 169) (.seq (.ops [O1 170 (.mkIf 97 (.const (.int .i64 2))),O1 6 (.mov (.const (.int .u64 0))),O1 7 (.mov (.tmp 170))] [6,7]) (.ret)) (.skip))) (.seq (.ops [O1 171 (.mov (.tmp 13)),
  O1 6 (.mov (.tmp 171)),O1 7 (.mov (.const .nilIface))] [6,7]) (.ret)))))))))))))),172,[(6,none),(7,none)],true⟩
theorem ok84:FunOK Tryd.prog 84 c84:= .code ⟨Tryd.f84,_,c84.code,Tryd.func84,rfl,by kernel_rfl,rfl,by kernel_rfl,by kernel_rfl⟩
/- internal/stringslite.Clone -/
def c85:AFun:=⟨.seq (.ops [O1 2 (.mov (.const (.string ⟨#[]⟩)))] [0]) (.seq (.seq (.ops [O1 4 (.mov (.tmp 0)),O1 5 (.len true (.tmp 4)),O1 6 (.bin .eql (.tmp 5) (.const (.int .i64 0)))] [0,6]) (.cond (.tmp 6) (.seq (.ops [O1 2 (.mov (.const (.string ⟨#[]⟩)))] [2]) (.ret)) (.skip))) (.seq (.ops [O1 7 (.mov (.tmp 0)),O1 8 (.len true (.tmp 7)),O1 9 (.mkSlice 5 1 1 [(.int .u8 0)] (.tmp 8) (.tmp 8)),O1 3 (.mov (.tmp 9))] [0,3]) (.seq (.ops [O1 10 (.mov (.tmp 3)),O1 11 (.mov (.tmp 0)),O1 12 (.copy 1 (.tmp 10) (.tmp 11))] [3]) (.seq (.ops [O1 13 (.mov (.tmp 3)),O1 14 (.idxS 1 (.tmp 13) (.const (.int .i64 0))),O1 15 (.mov (.tmp 3)),O1 16 (.len false (.tmp 15)),O1 17 (.ustr 5 (.tmp 14) (.tmp 16)),O1 2 (.mov (.tmp 17))] [2]) (.ret))))),18,[(2,none)],true⟩
theorem ok85:FunOK Tryd.prog 85 c85:= .code ⟨Tryd.f85,_,c85.code,Tryd.func85,rfl,by kernel_rfl,rfl,by kernel_rfl,by kernel_rfl⟩
/- errors.New -/
def c86:AFun:=⟨.seq (.ops [O1 2 (.mov (.const .nilIface))] [0]) (.seq (.ops [O1 3 (.mov (.tmp 0)),O1 4 (.build [(.string ⟨#[]⟩)] [(0,1,(.tmp 3))]),O1 5 (.box 131 (.tmp 4)),O1 6 (.mkIf 129 (.tmp 5)),O1 2 (.mov (.tmp 6))] [2]) (.ret)),7,[(2,none)],true⟩
theorem ok86:FunOK Tryd.prog 86 c86:= .code ⟨Tryd.f86,_,c86.code,Tryd.func86,rfl,by kernel_rfl,rfl,by kernel_rfl,by kernel_rfl⟩
/- internal/strconv.log10Pow2 -/
def c87:AFun:=⟨.seq (.ops [O1 2 (.mov (.const (.int .i64 0)))] [0]) (.seq (.ops [O1 3 (.mov (.tmp 0)),O1 4 (.bin .mul (.tmp 3) (.const (.int .i64 78913))),O1 5 (.bin .shr (.tmp 4) (.const (.int .u64 18))),O1 2 (.mov (.tmp 5))] [2]) (.ret)),6,[(2,none)],true⟩
theorem ok87:FunOK Tryd.prog 87 c87:= .code ⟨Tryd.f87,_,c87.code,Tryd.func87,rfl,by kernel_rfl,rfl,by kernel_rfl,by kernel_rfl⟩
/- math/bits.Len64 -/
def c88:AFun:=⟨.seq (.ops [O1 2 (.mov (.const (.int .i64 0)))] [0,2]) (.seq (.seq (.ops [O1 3 (.mov (.tmp 0)),O1 4 (.bin .geq (.tmp 3) (.const (.int .u64 4294967296)))] [0,2,4]) (.cond (.tmp 4) (.seq (.ops [O1 5 (.mov (.tmp 0)),O1 6 (.bin .shr (.tmp 5) (.const (.int .u64 32))),O1 0 (.mov (.tmp 6))] [0]) (.ops [O1 2 (.mov (.const (.int .i64 32)))] [0,2])) (.skip))) (.seq (.seq (.ops [O1 7 (.mov (.tmp 0)),O1 8 (.bin .geq (.tmp 7) (.const (.int .u64 65536)))] [0,2,8]) (.cond (.tmp 8) (.seq (.ops [O1 9 (.mov (.tmp 0)),O1 10 (.bin .shr (.tmp 9) (.const (.int .u64 16))),O1 0 (.mov (.tmp 10))] [0,2]) (.ops [O1 11 (.mov (.tmp 2)),O1 12 (.bin .add (.tmp 11) (.const (.int .i64 16))),O1 2 (.mov (.tmp 12))] [0,2])) (.skip))) (.seq (.seq (.ops [O1 13 (.mov (.tmp 0)),O1 14 (.bin .geq (.tmp 13) (.const (.int .u64 256)))] [0,2,14]) (.cond (.tmp 14) (.seq (.ops [O1 15 (.mov (.tmp 0)),O1 16 (.bin .shr (.tmp 15) (.const (.int .u64 8))),O1 0 (.mov (.tmp 16))] [0,2]) (.ops [O1 17 (.mov (.tmp 2)),O1 18 (.bin .add (.tmp 17) (.const (.int .i64 8))),O1 2 (.mov (.tmp 18))] [0,2])) (.skip))) (.seq (.ops [O1 19 (.mov (.tmp 2)),O1 20 (.mov (.tmp 0)),O1 21 (.convI .u8 (.tmp 20)),O1 22 (.idxStr (.const (.string ⟨#[0,1,2,2,3,3,3,3,4,4,4,4,4,4,4,4,5,5,5,5,5,5,5,5,5,5,5,5,5,5,5,5,6,6,6,6,6,6,6,6,6,6,6,6,6,6,6,6,6,6,6,6,6,6,6,6,6,6,6,6,6,6,6,6,7,7,7,7,7,7,7,7,7,7,7,7,7,7,7,7,7,7,7,7,7,7,7,7,7,7,7,7,7,7,7,7,7,7,7,7,7,7,7,7,7,7,7,7,7,7,7,7,7,7,7,7,7,7,7,7,7,7,7,7,7,7,7,7,8,8,8,8,8,8,8,8,8,8,8,8,8,8,8,8,8,8,8,8,8,8,8,8,8,8,8,8,8,8,8,8,8,8,8,8,8,8,8,8,8,8,8,8,8,8,8,8,8,8,8,8,8,8,8,8,8,8,8,8,8,8,8,8,8,8,8,8,8,8,8,8,8,8,8,8,8,8,8,8,8,8,8,8,8,8,8,8,8,8,8,8,8,8,8,8,8,8,8,8,8,8,8,8,8,8,8,8,8,8,8,8,8,8,8,8,8,8,8,8,8,8,8,8,8,8,8,8]⟩)) (.tmp 21)),O1 23 (.convI .i64 (.tmp 22)),O1 24 (.bin .add (.tmp 19) (.tmp 23)),O1 2 (.mov (.tmp 24))] [2]) (.ret))))),25,[(2,none)],true⟩
theorem ok88:FunOK Tryd.prog 88 c88:= .code ⟨Tryd.f88,_,c88.code,Tryd.func88,rfl,by kernel_rfl,rfl,by kernel_rfl,by kernel_rfl⟩
/- internal/strconv.bool2[int] -/
def c89:AFun:=⟨.seq (.ops [O1 2 (.mov (.const (.int .i64 0)))] [0]) (.seq (.seq (.ops [O1 3 (.mov (.tmp 0))] [3]) (.cond (.tmp 3) (.seq (.ops [O1 2 (.mov (.const (.int .i64 1)))] [2]) (.ret)) (.skip))) (.seq (.ops [O1 2 (.mov (.const (.int .i64 0)))] [2]) (.ret))),4,[(2,none)],true⟩
theorem ok89:FunOK Tryd.prog 89 c89:= .code ⟨Tryd.f89,_,c89.code,Tryd.func89,rfl,by kernel_rfl,rfl,by kernel_rfl,by kernel_rfl⟩
/- internal/strconv.isPowerOfTwo -/
def c90:AFun:=⟨.seq (.ops [O1 2 (.mov (.const (.bool false)))] [0]) (.seq (.ops [O1 3 (.mov (.tmp 0)),O1 4 (.mov (.tmp 0)),O1 5 (.bin .sub (.tmp 4) (.const (.int .i64 1))),O1 6 (.bin .and (.tmp 3) (.tmp 5)),O1 7 (.bin .eql (.tmp 6) (.const (.int .i64 0))),O1 2 (.mov (.tmp 7))] [2]) (.ret)),8,[(2,none)],true⟩
theorem ok90:FunOK Tryd.prog 90 c90:= .code ⟨Tryd.f90,_,c90.code,Tryd.func90,rfl,by kernel_rfl,rfl,by kernel_rfl,by kernel_rfl⟩
/- math/bits.TrailingZeros -/
def c91:AFun:=⟨.seq (.ops [O1 2 (.mov (.const (.int .i64 0)))] [0]) (.seq (.cond (.const (.bool false)) (.seq (.ops [O1 3 (.mov (.tmp 0)),O1 4 (.convI .u32 (.tmp 3)),O1 5 (.callF 99 [.tmp 4]),O1 2 (.mov (.tmp 5))] [2]) (.ret)) (.skip)) (.seq (.ops [O1 6 (.mov (.tmp 0)),O1 7 (.callF 100 [.tmp 6]),O1 2 (.mov (.tmp 7))] [2]) (.ret))),8,[(2,none)],true⟩
theorem ok91:FunOK Tryd.prog 91 c91:= .code ⟨Tryd.f91,_,c91.code,Tryd.func91,rfl,by kernel_rfl,rfl,by kernel_rfl,by kernel_rfl⟩
/- unicode/utf8.decodeRuneInStringSlow -/
def c92:AFun:=⟨.seq (.ops [O1 2 (.mov (.const (.int .i32 0))),O1 3 (.mov (.const (.int .i64 0)))] [0]) (.seq (.ops [O1 13 (.mov (.tmp 0)),O1 14 (.len true (.tmp 13)),O1 4 (.mov (.tmp 14))] [0,4]) (.seq (.seq (.ops [O1 15 (.mov (.tmp 4)),O1 16 (.bin .lss (.tmp 15) (.const (.int .i64 1)))] [0,4,16]) (.cond (.tmp 16) (.seq (.ops [O1 2 (.mov (.const (.int .i32 65533))),O1 3 (.mov (.const (.int .i64 0)))] [2,3]) (.ret)) (.skip))) (.seq (.ops [O1 17 (.mov (.tmp 0)),O1 18 (.idxStr (.tmp 17) (.const (.int .i64 0))),O1 5 (.mov (.tmp 18))] [0,4,5]) (.seq (.ops [O1 19 (.mov (.tmp 5)),O1 20 (.idxA 256 1 (.global 4) (.tmp 19)),O1 21 (.load none (.tmp 20)),O1 6 (.mov (.tmp 21))] [0,4,5,6]) (.seq (.seq (.ops [O1 22 (.mov (.tmp 6)),O1 23 (.bin .geq (.tmp 22) (.const (.int .u8 240)))] [0,4,5,6,23]) (.cond (.tmp 23) (.seq (.ops [O1 24 (.mov (.tmp 6)),O1 25 (.convI .i32 (.tmp 24)),O1 26 (.bin .shl (.tmp 25) (.const (.int .u64 31))),O1 27 (.bin .shr (.tmp 26) (.const (.int .u64 31))),O1 7 (.mov (.tmp 27))] [0,7]) (.seq (.ops [O1 28 (.mov (.tmp 0)),O1 29 (.idxStr (.tmp 28) (.const (.int .i64 0))),O1 30 (.convI .i32 (.tmp 29)),O1 31 (.mov (.tmp 7)),O1 32 (.bin .andNot (.tmp 30) (.tmp 31)),O1 33 (.mov (.tmp 7)),O1 34 (.bin .and (.const (.int .i32 65533)) (.tmp 33)),O1 35 (.bin .or (.tmp 32) (.tmp 34)),O1 2 (.mov (.tmp 35)),O1 3 (.mov (.const (.int .i64 1)))] [2,3]) (.ret))) (.skip))) (.seq (.ops [O1 36 (.mov (.tmp 6)),O1 37 (.bin .and (.tmp 36) (.const (.int .u8 7))),O1 38 (.convI .i64 (.tmp 37)),O1 8 (.mov (.tmp 38))] [0,4,5,6,8]) (.seq (.ops [O1 39 (.mov (.tmp 6)),O1 40 (.bin .shr (.tmp 39) (.const (.int .u64 4))),O1 41 (.idxA 16 2 (.global 5) (.tmp 40)),O1 42 (.load (some 2) (.tmp 41)),O1 9 (.alloc 135 [(2,(.int .u8 0))]),⟨none,none,.store 2 (.tmp 9) (.tmp 42)⟩] [0,4,5,8,9]) (.seq (.seq (.ops [O1 43 (.mov (.tmp 4)),O1 44 (.mov (.tmp 8)),O1 45 (.bin .lss (.tmp 43) (.tmp 44))] [0,5,8,9,45]) (.cond (.tmp 45) (.seq (.ops [O1 2 (.mov (.const (.int .i32 65533))),O1 3 (.mov (.const (.int .i64 1)))] [2,3]) (.ret)) (.skip))) (.seq (.ops [O1 46 (.mov (.tmp 0)),O1 47 (.idxStr (.tmp 46) (.const (.int .i64 1))),O1 10 (.mov (.tmp 47))] [0,5,8,9,10]) (.seq (.seq (.ops [O1 48 (.mov (.tmp 10)),O1 49 (.fldA 0 (.tmp 9)),O1 50 (.load none (.tmp 49)),O1 51 (.bin .lss (.tmp 48) (.tmp 50)),O1 52 (.mov (.tmp 51)),⟨some 53,some (52,false),.fldA 1 (.tmp 9)⟩,⟨some 54,some (52,false),.load none (.tmp 53)⟩,⟨some 55,some (52,false),.mov (.tmp 10)⟩,⟨some 56,some (52,false),.bin .lss (.tmp 54) (.tmp 55)⟩,O1 57 (.pick (.tmp 52) (.const (.bool true)) (.tmp 56))] [0,5,8,10,57]) (.cond (.tmp 57) (.seq (.ops [O1 2 (.mov (.const (.int .i32 65533))),O1 3 (.mov (.const (.int .i64 1)))] [2,3]) (.ret)) (.skip))) (.seq (.seq (.ops [O1 58 (.mov (.tmp 8)),O1 59 (.bin .leq (.tmp 58) (.const (.int .i64 2)))] [0,5,8,10,59]) (.cond (.tmp 59) (.seq (.ops [O1 60 (.mov (.tmp 5)),O1 61 (.bin .and (.tmp 60) (.const (.int .u8 31))),O1 62 (.convI .i32 (.tmp 61)),O1 63 (.bin .shl (.tmp 62) (.const (.int .u64 6))),O1 64 (.mov (.tmp 10)),
  O1 65 (.bin .and (.tmp 64) (.const (.int .u8 63))),O1 66 (.convI .i32 (.tmp 65)),O1 67 (.bin .or (.tmp 63) (.tmp 66)),O1 2 (.mov (.tmp 67)),O1 3 (.mov (.const (.int .i64 2)))] [2,3]) (.ret)) (.skip))) (.seq (.ops [O1 68 (.mov (.tmp 0)),O1 69 (.idxStr (.tmp 68) (.const (.int .i64 2))),O1 11 (.mov (.tmp 69))] [0,5,8,10,11]) (.seq (.seq (.ops [O1 70 (.mov (.tmp 11)),O1 71 (.bin .lss (.tmp 70) (.const (.int .u8 128))),O1 72 (.mov (.tmp 71)),⟨some 73,some (72,false),.mov (.tmp 11)⟩,⟨some 74,some (72,false),.bin .lss (.const (.int .u8 191)) (.tmp 73)⟩,O1 75 (.pick (.tmp 72) (.const (.bool true)) (.tmp 74))] [0,5,8,10,11,75]) (.cond (.tmp 75) (.seq (.ops [O1 2 (.mov (.const (.int .i32 65533))),O1 3 (.mov (.const (.int .i64 1)))] [2,3]) (.ret)) (.skip))) (.seq (.seq (.ops [O1 76 (.mov (.tmp 8)),O1 77 (.bin .leq (.tmp 76) (.const (.int .i64 3)))] [0,5,10,11,77]) (.cond (.tmp 77) (.seq (.ops [O1 78 (.mov (.tmp 5)),O1 79 (.bin .and (.tmp 78) (.const (.int .u8 15))),O1 80 (.convI .i32 (.tmp 79)),O1 81 (.bin .shl (.tmp 80) (.const (.int .u64 12))),O1 82 (.mov (.tmp 10)),O1 83 (.bin .and (.tmp 82) (.const (.int .u8 63))),O1 84 (.convI .i32 (.tmp 83)),O1 85 (.bin .shl (.tmp 84) (.const (.int .u64 6))),O1 86 (.bin .or (.tmp 81) (.tmp 85)),O1 87 (.mov (.tmp 11)),O1 88 (.bin .and (.tmp 87) (.const (.int .u8 63))),O1 89 (.convI .i32 (.tmp 88)),O1 90 (.bin .or (.tmp 86) (.tmp 89)),O1 2 (.mov (.tmp 90)),O1 3 (.mov (.const (.int .i64 3)))] [2,3]) (.ret)) (.skip))) (.seq (.ops [O1 91 (.mov (.tmp 0)),O1 92 (.idxStr (.tmp 91) (.const (.int .i64 3))),O1 12 (.mov (.tmp 92))] [5,10,11,12]) (.seq (.seq (.ops [O1 93 (.mov (.tmp 12)),O1 94 (.bin .lss (.tmp 93) (.const (.int .u8 128))),O1 95 (.mov (.tmp 94)),⟨some 96,some (95,false),.mov (.tmp 12)⟩,⟨some 97,some (95,false),.bin .lss (.const (.int .u8 191)) (.tmp 96)⟩,O1 98 (.pick (.tmp 95) (.const (.bool true)) (.tmp 97))] [5,10,11,12,98]) (.cond (.tmp 98) (.seq (.ops [O1 2 (.mov (.const (.int .i32 65533))),O1 3 (.mov (.const (.int .i64 1)))] [2,3]) (.ret)) (.skip))) (.seq (.ops [O1 99 (.mov (.tmp 5)),O1 100 (.bin .and (.tmp 99) (.const (.int .u8 7))),O1 101 (.convI .i32 (.tmp 100)),O1 102 (.bin .shl (.tmp 101) (.const (.int .u64 18))),O1 103 (.mov (.tmp 10)),O1 104 (.bin .and (.tmp 103) (.const (.int .u8 63))),O1 105 (.convI .i32 (.tmp 104)),O1 106 (.bin .shl (.tmp 105) (.const (.int .u64 12))),O1 107 (.bin .or (.tmp 102) (.tmp 106)),O1 108 (.mov (.tmp 11)),O1 109 (.bin .and (.tmp 108) (.const (.int .u8 63))),O1 110 (.convI .i32 (.tmp 109)),O1 111 (.bin .shl (.tmp 110) (.const (.int .u64 6))),O1 112 (.bin .or (.tmp 107) (.tmp 111)),O1 113 (.mov (.tmp 12)),O1 114 (.bin .and (.tmp 113) (.const (.int .u8 63))),O1 115 (.convI .i32 (.tmp 114)),O1 116 (.bin .or (.tmp 112) (.tmp 115)),O1 2 (.mov (.tmp 116)),O1 3 (.mov (.const (.int .i64 4)))] [2,3]) (.ret)))))))))))))))))),117,[(2,none),(3,none)],true⟩
theorem ok92:FunOK Tryd.prog 92 c92:= .code ⟨Tryd.f92,_,c92.code,Tryd.func92,rfl,by kernel_rfl,rfl,by kernel_rfl,by kernel_rfl⟩
/- internal/stringslite.IndexByte -/
def c93:AFun:=⟨.seq (.ops [O1 4 (.mov (.const (.int .i64 0)))] [0,1]) (.seq (.ops [O1 5 (.mov (.tmp 0)),O1 6 (.mov (.tmp 1)),O1 7 (.callF 101 [(.tmp 5),(.tmp 6)]),O1 4 (.mov (.tmp 7))] [4]) (.ret)),8,[(4,none)],true⟩
theorem ok93:FunOK Tryd.prog 93 c93:= .code ⟨Tryd.f93,_,c93.code,Tryd.func93,rfl,by kernel_rfl,rfl,by kernel_rfl,by kernel_rfl⟩
/- internal/bytealg.Cutover -/
def c95:AFun:=⟨.seq (.ops [O1 2 (.mov (.const (.int .i64 0)))] [0]) (.seq (.ops [O1 3 (.mov (.tmp 0)),O1 4 (.bin .add (.tmp 3) (.const (.int .i64 16))),O1 5 (.bin .quo (.tmp 4) (.const (.int .i64 8))),O1 2 (.mov (.tmp 5))] [2]) (.ret)),6,[(2,none)],true⟩
theorem ok95:FunOK Tryd.prog 95 c95:= .code ⟨Tryd.f95,_,c95.code,Tryd.func95,rfl,by kernel_rfl,rfl,by kernel_rfl,by kernel_rfl⟩
/- internal/bytealg.IndexRabinKarp[string] -/
def c96l0:AC:= .seq (.seq (.ops [O1 41 (.mov (.tmp 10)),O1 42 (.mov (.tmp 0)),O1 43 (.len true (.tmp 42)),O1 44 (.bin .lss (.tmp 41) (.tmp 43))] [0,1,5,6,7,8,10,44]) (.cond (.tmp 44) (.skip) (.exit 2))) (.block 3 (.seq (.ops [O1 45 (.mov (.tmp 8)),O1 46 (.bin .mul (.tmp 45) (.const (.int .u32 16777619))),O1 8 (.mov (.tmp 46))] [0,1,5,6,7,8,10]) (.seq (.ops [O1 47 (.mov (.tmp 8)),O1 48 (.mov (.tmp 0)),O1 49 (.mov (.tmp 10)),O1 50 (.idxStr (.tmp 48) (.tmp 49)),O1 51 (.convI .u32 (.tmp 50)),O1 52 (.bin .add (.tmp 47) (.tmp 51)),O1 8 (.mov (.tmp 52))] [0,1,5,6,7,8,10]) (.seq (.ops [O1 53 (.mov (.tmp 8)),O1 54 (.mov (.tmp 6)),O1 55 (.mov (.tmp 0)),O1 56 (.mov (.tmp 10)),O1 57 (.mov (.tmp 7)),O1 58 (.bin .sub (.tmp 56) (.tmp 57)),O1 59 (.idxStr (.tmp 55) (.tmp 58)),O1 60 (.convI .u32 (.tmp 59)),O1 61 (.bin .mul (.tmp 54) (.tmp 60)),O1 62 (.bin .sub (.tmp 53) (.tmp 61)),O1 8 (.mov (.tmp 62))] [0,1,5,6,7,8,10]) (.seq (.ops [O1 63 (.mov (.tmp 10)),O1 64 (.bin .add (.tmp 63) (.const (.int .i64 1))),O1 10 (.mov (.tmp 64))] [0,1,5,6,7,8,10]) (.seq (.ops [O1 65 (.mov (.tmp 8)),O1 66 (.mov (.tmp 5)),O1 67 (.bin .eql (.tmp 65) (.tmp 66)),O1 68 (.mov (.tmp 67)),⟨some 69,some (68,true),.mov (.tmp 0)⟩,⟨some 70,some (68,true),.mov (.tmp 10)⟩,⟨some 71,some (68,true),.mov (.tmp 7)⟩,⟨some 72,some (68,true),.bin .sub (.tmp 70) (.tmp 71)⟩,⟨some 73,some (68,true),.mov (.tmp 10)⟩,⟨some 74,some (68,true),.slcS (.tmp 69) (some (.tmp 72)) (some (.tmp 73))⟩,⟨some 75,some (68,true),.mov (.tmp 1)⟩,⟨some 76,some (68,true),.bin .eql (.tmp 74) (.tmp 75)⟩,O1 77 (.pick (.tmp 68) (.tmp 76) (.const (.bool false)))] [0,1,5,6,7,8,10,77]) (.cond (.tmp 77) (.seq (.ops [O1 78 (.mov (.tmp 10)),O1 79 (.mov (.tmp 7)),O1 80 (.bin .sub (.tmp 78) (.tmp 79)),O1 4 (.mov (.tmp 80))] [4]) (.ret)) (.skip))))))))
def c96l1:AC:= .seq (.seq (.ops [O1 18 (.mov (.tmp 9)),O1 19 (.mov (.tmp 7)),O1 20 (.bin .lss (.tmp 18) (.tmp 19))] [0,1,5,6,7,8,9,20]) (.cond (.tmp 20) (.skip) (.exit 0))) (.seq (.block 1 (.ops [O1 23 (.mov (.tmp 8)),O1 24 (.bin .mul (.tmp 23) (.const (.int .u32 16777619))),O1 25 (.mov (.tmp 0)),O1 26 (.mov (.tmp 9)),O1 27 (.idxStr (.tmp 25) (.tmp 26)),O1 28 (.convI .u32 (.tmp 27)),O1 29 (.bin .add (.tmp 24) (.tmp 28)),O1 8 (.mov (.tmp 29))] [0,1,5,6,7,8,9])) (.ops [O1 21 (.mov (.tmp 9)),O1 22 (.bin .add (.tmp 21) (.const (.int .i64 1))),O1 9 (.mov (.tmp 22))] [0,1,5,6,7,8,9]))
def c96:AFun:=⟨.seq (.ops [O1 4 (.mov (.const (.int .i64 0)))] [0,1]) (.seq (.ops [O1 12 (.mov (.tmp 1)),O1 13 (.callF 102 [.tmp 12]),O1 11 (.mov (.tmp 13)),O1 14 (.ext (.tmp 11) 0),O1 15 (.ext (.tmp 11) 1),O1 5 (.mov (.tmp 14)),O1 6 (.mov (.tmp 15))] [0,1,5,6]) (.seq (.ops [O1 16 (.mov (.tmp 1)),O1 17 (.len true (.tmp 16)),O1 7 (.mov (.tmp 17))] [0,1,5,6,7]) (.seq (.ops [O1 8 (.mov (.const (.int .u32 0)))] [0,1,5,6,7,8]) (.seq (.seq (.ops [O1 9 (.mov (.const (.int .i64 0)))] [0,1,5,6,7,8,9]) (.block 0 (.loop [0,1,5,6,7,8,9] c96l1))) (.seq (.seq (.ops [O1 30 (.mov (.tmp 8)),O1 31 (.mov (.tmp 5)),O1 32 (.bin .eql (.tmp 30) (.tmp 31)),O1 33 (.mov (.tmp 32)),⟨some 34,some (33,true),.mov (.tmp 0)⟩,⟨some 35,some (33,true),.mov (.tmp 7)⟩,⟨some 36,some (33,true),.slcS (.tmp 34) none (some (.tmp 35))⟩,⟨some 37,some (33,true),.mov (.tmp 1)⟩,⟨some 38,some (33,true),.bin .eql (.tmp 36) (.tmp 37)⟩,O1 39 (.pick (.tmp 33) (.tmp 38) (.const (.bool false)))] [0,1,5,6,7,8,39]) (.cond (.tmp 39) (.seq (.ops [O1 4 (.mov (.const (.int .i64 0)))] [4]) (.ret)) (.skip))) (.seq (.seq (.ops [O1 40 (.mov (.tmp 7)),O1 10 (.mov (.tmp 40))] [0,1,5,6,7,8,10]) (.block 2 (.loop [0,1,5,6,7,8,10] c96l0))) (.seq (.ops [O1 4 (.mov (.const (.int .i64 (-1))))] [4]) (.ret)))))))),81,[(4,none)],true⟩
theorem ok96:FunOK Tryd.prog 96 c96:= .code ⟨Tryd.f96,_,c96.code,Tryd.func96,rfl,by kernel_rfl,rfl,by kernel_rfl,by kernel_rfl⟩
/- internal/strconv.lower -/
def c97:AFun:=⟨.seq (.ops [O1 2 (.mov (.const (.int .u8 0)))] [0]) (.seq (.ops [O1 3 (.mov (.tmp 0)),O1 4 (.bin .or (.tmp 3) (.const (.int .u8 32))),O1 2 (.mov (.tmp 4))] [2]) (.ret)),5,[(2,none)],true⟩
theorem ok97:FunOK Tryd.prog 97 c97:= .code ⟨Tryd.f97,_,c97.code,Tryd.func97,rfl,by kernel_rfl,rfl,by kernel_rfl,by kernel_rfl⟩
/- internal/strconv.underscoreOK -/
def c98l0:AC:= .seq (.seq (.ops [O1 51 (.mov (.tmp 4)),O1 52 (.mov (.tmp 0)),O1 53 (.len true (.tmp 52)),O1 54 (.bin .lss (.tmp 51) (.tmp 53))] [0,3,4,5,54]) (.cond (.tmp 54) (.skip) (.exit 0))) (.seq (.block 1 (.seq (.seq (.ops [O1 57 (.mov (.tmp 0)),O1 58 (.mov (.tmp 4)),O1 59 (.idxStr (.tmp 57) (.tmp 58)),O1 60 (.bin .leq (.const (.int .u8 48)) (.tmp 59)),O1 61 (.mov (.tmp 60)),⟨some 62,some (61,true),.mov (.tmp 0)⟩,⟨some 63,some (61,true),.mov (.tmp 4)⟩,⟨some 64,some (61,true),.idxStr (.tmp 62) (.tmp 63)⟩,⟨some 65,some (61,true),.bin .leq (.tmp 64) (.const (.int .u8 57))⟩,O1 66 (.pick (.tmp 61) (.tmp 65) (.const (.bool false))),O1 67 (.mov (.tmp 66)),⟨some 68,some (67,false),.mov (.tmp 5)⟩,⟨some 69,some (67,false),.mov (.tmp 68)⟩,⟨some 70,some (69,true),.mov (.tmp 0)⟩,⟨some 71,some (69,true),.mov (.tmp 4)⟩,⟨some 72,some (69,true),.idxStr (.tmp 70) (.tmp 71)⟩,⟨some 73,some (69,true),.callF 97 [.tmp 72]⟩,⟨some 74,some (69,true),.bin .leq (.const (.int .u8 97)) (.tmp 73)⟩,⟨some 75,some (67,false),.pick (.tmp 69) (.tmp 74) (.const (.bool false))⟩,⟨some 76,some (67,false),.mov (.tmp 75)⟩,⟨some 77,some (76,true),.mov (.tmp 0)⟩,⟨some 78,some (76,true),.mov (.tmp 4)⟩,⟨some 79,some (76,true),.idxStr (.tmp 77) (.tmp 78)⟩,⟨some 80,some (76,true),.callF 97 [.tmp 79]⟩,⟨some 81,some (76,true),.bin .leq (.tmp 80) (.const (.int .u8 102))⟩,⟨some 82,some (67,false),.pick (.tmp 76) (.tmp 81) (.const (.bool false))⟩,O1 83 (.pick (.tmp 67) (.const (.bool true)) (.tmp 82))] [0,3,4,5,83]) (.cond (.tmp 83) (.seq (.ops [O1 3 (.mov (.const (.int .i32 48)))] [0,3,4,5]) (.exit 1)) (.skip))) (.seq (.seq (.ops [O1 84 (.mov (.tmp 0)),O1 85 (.mov (.tmp 4)),O1 86 (.idxStr (.tmp 84) (.tmp 85)),O1 87 (.bin .eql (.tmp 86) (.const (.int .u8 95)))] [0,3,4,5,87]) (.cond (.tmp 87) (.seq (.seq (.ops [O1 88 (.mov (.tmp 3)),O1 89 (.bin .neq (.tmp 88) (.const (.int .i32 48)))] [0,4,5,89]) (.cond (.tmp 89) (.seq (.ops [O1 2 (.mov (.const (.bool false)))] [2]) (.ret)) (.skip))) (.seq (.ops [O1 3 (.mov (.const (.int .i32 95)))] [0,3,4,5]) (.exit 1))) (.skip))) (.seq (.seq (.ops [O1 90 (.mov (.tmp 3)),O1 91 (.bin .eql (.tmp 90) (.const (.int .i32 95)))] [0,4,5,91]) (.cond (.tmp 91) (.seq (.ops [O1 2 (.mov (.const (.bool false)))] [2]) (.ret)) (.skip))) (.ops [O1 3 (.mov (.const (.int .i32 33)))] [0,3,4,5]))))) (.ops [O1 55 (.mov (.tmp 4)),O1 56 (.bin .add (.tmp 55) (.const (.int .i64 1))),O1 4 (.mov (.tmp 56))] [0,3,4,5]))
def c98:AFun:=⟨.seq (.ops [O1 2 (.mov (.const (.bool false)))] [0]) (.seq (.ops [O1 3 (.mov (.const (.int .i32 94)))] [0,3]) (.seq (.ops [O1 4 (.mov (.const (.int .i64 0)))] [0,3,4]) (.seq (.seq (.ops [O1 6 (.mov (.tmp 0)),O1 7 (.len true (.tmp 6)),O1 8 (.bin .geq (.tmp 7) (.const (.int .i64 1))),O1 9 (.mov (.tmp 8)),⟨some 10,some (9,true),.mov (.tmp 0)⟩,⟨some 11,some (9,true),.idxStr (.tmp 10) (.const (.int .i64 0))⟩,⟨some 12,some (9,true),.bin .eql (.tmp 11) (.const (.int .u8 45))⟩,⟨some 13,some (9,true),.mov (.tmp 12)⟩,⟨some 14,some (13,false),.mov (.tmp 0)⟩,⟨some 15,some (13,false),.idxStr (.tmp 14) (.const (.int .i64 0))⟩,⟨some 16,some (13,false),.bin .eql (.tmp 15) (.const (.int .u8 43))⟩,⟨some 17,some (9,true),.pick (.tmp 13) (.const (.bool true)) (.tmp 16)⟩,O1 18 (.pick (.tmp 9) (.tmp 17) (.const (.bool false)))] [0,3,4,18]) (.cond (.tmp 18) (.ops [O1 19 (.mov (.tmp 0)),O1 20 (.slcS (.tmp 19) (some (.const (.int .i64 1))) none),O1 0 (.mov (.tmp 20))] [0,3,4]) (.skip))) (.seq (.ops [O1 5 (.mov (.const (.bool false)))] [0,3,4,5]) (.seq (.seq (.ops [O1 21 (.mov (.tmp 0)),O1 22 (.len true (.tmp 21)),O1 23 (.bin .geq (.tmp 22) (.const (.int .i64 2))),O1 24 (.mov (.tmp 23)),⟨some 25,some (24,true),.mov (.tmp 0)⟩,⟨some 26,some (24,true),.idxStr (.tmp 25) (.const (.int .i64 0))⟩,⟨some 27,some (24,true),.bin .eql (.tmp 26) (.const (.int .u8 48))⟩,O1 28 (.pick (.tmp 24) (.tmp 27) (.const (.bool false))),O1 29 (.mov (.tmp 28)),⟨some 30,some (29,true),.mov (.tmp 0)⟩,⟨some 31,some (29,true),.idxStr (.tmp 30) (.const (.int .i64 1))⟩,⟨some 32,some (29,true),.callF 97 [.tmp 31]⟩,⟨some 33,some (29,true),.bin .eql (.tmp 32) (.const (.int .u8 98))⟩,⟨some 34,some (29,true),.mov (.tmp 33)⟩,⟨some 35,some (34,false),.mov (.tmp 0)⟩,⟨some 36,some (34,false),.idxStr (.tmp 35) (.const (.int .i64 1))⟩,⟨some 37,some (34,false),.callF 97 [.tmp 36]⟩,⟨some 38,some (34,false),.bin .eql (.tmp 37) (.const (.int .u8 111))⟩,⟨some 39,some (29,true),.pick (.tmp 34) (.const (.bool true)) (.tmp 38)⟩,⟨some 40,some (29,true),.mov (.tmp 39)⟩,⟨some 41,some (40,false),.mov (.tmp 0)⟩,⟨some 42,some (40,false),.idxStr (.tmp 41) (.const (.int .i64 1))⟩,⟨some 43,some (40,false),.callF 97 [.tmp 42]⟩,⟨some 44,some (40,false),.bin .eql (.tmp 43) (.const (.int .u8 120))⟩,⟨some 45,some (29,true),.pick (.tmp 40) (.const (.bool true)) (.tmp 44)⟩,O1 46 (.pick (.tmp 29) (.tmp 45) (.const (.bool false)))] [0,3,4,5,46]) (.cond (.tmp 46) (.seq (.ops [O1 4 (.mov (.const (.int .i64 2)))] [0,4]) (.seq (.ops [O1 3 (.mov (.const (.int .i32 48)))] [0,3,4]) (.ops [O1 47 (.mov (.tmp 0)),O1 48 (.idxStr (.tmp 47) (.const (.int .i64 1))),O1 49 (.callF 97 [.tmp 48]),O1 50 (.bin .eql (.tmp 49) (.const (.int .u8 120))),O1 5 (.mov (.tmp 50))] [0,3,4,5]))) (.skip))) (.seq (.block 0 (.loop [0,3,4,5] c98l0)) (.seq (.ops [O1 92 (.mov (.tmp 3)),O1 93 (.bin .neq (.tmp 92) (.const (.int .i32 95))),O1 2 (.mov (.tmp 93))] [2]) (.ret)))))))),94,[(2,none)],true⟩
theorem ok98:FunOK Tryd.prog 98 c98:= .code ⟨Tryd.f98,_,c98.code,Tryd.func98,rfl,by kernel_rfl,rfl,by kernel_rfl,by kernel_rfl⟩
/- math/bits.TrailingZeros32 -/
def c99:AFun:=⟨.seq (.ops [O1 2 (.mov (.const (.int .i64 0)))] [0]) (.seq (.seq (.ops [O1 3 (.mov (.tmp 0)),O1 4 (.bin .eql (.tmp 3) (.const (.int .u32 0)))] [0,4]) (.cond (.tmp 4) (.seq (.ops [O1 2 (.mov (.const (.int .i64 32)))] [2]) (.ret)) (.skip))) (.seq (.ops [O1 5 (.mov (.tmp 0)),O1 6 (.mov (.tmp 0)),O1 7 (.un .neg (.tmp 6)),O1 8 (.bin .and (.tmp 5) (.tmp 7)),O1 9 (.bin .mul (.tmp 8) (.const (.int .u32 125613361))),O1 10 (.bin .shr (.tmp 9) (.const (.int .u64 27))),O1 11 (.idxA 32 1 (.global 6) (.tmp 10)),O1 12 (.load none (.tmp 11)),O1 13 (.convI .i64 (.tmp 12)),O1 2 (.mov (.tmp 13))] [2]) (.ret))),14,[(2,none)],true⟩
theorem ok99:FunOK Tryd.prog 99 c99:= .code ⟨Tryd.f99,_,c99.code,Tryd.func99,rfl,by kernel_rfl,rfl,by kernel_rfl,by kernel_rfl⟩
/- math/bits.TrailingZeros64 -/
def c100:AFun:=⟨.seq (.ops [O1 2 (.mov (.const (.int .i64 0)))] [0]) (.seq (.seq (.ops [O1 3 (.mov (.tmp 0)),O1 4 (.bin .eql (.tmp 3) (.const (.int .u64 0)))] [0,4]) (.cond (.tmp 4) (.seq (.ops [O1 2 (.mov (.const (.int .i64 64)))] [2]) (.ret)) (.skip))) (.seq (.ops [O1 5 (.mov (.tmp 0)),O1 6 (.mov (.tmp 0)),O1 7 (.un .neg (.tmp 6)),O1 8 (.bin .and (.tmp 5) (.tmp 7)),O1 9 (.bin .mul (.tmp 8) (.const (.int .u64 285870213051353865))),O1 10 (.bin .shr (.tmp 9) (.const (.int .u64 58))),O1 11 (.idxA 64 1 (.global 7) (.tmp 10)),O1 12 (.load none (.tmp 11)),O1 13 (.convI .i64 (.tmp 12)),O1 2 (.mov (.tmp 13))] [2]) (.ret))),14,[(2,none)],true⟩
theorem ok100:FunOK Tryd.prog 100 c100:= .code ⟨Tryd.f100,_,c100.code,Tryd.func100,rfl,by kernel_rfl,rfl,by kernel_rfl,by kernel_rfl⟩
/- internal/bytealg.hashStr[string] -/
def c102l0:AC:= .seq (.seq (.ops [O1 24 (.mov (.tmp 8)),O1 25 (.bin .gtr (.tmp 24) (.const (.int .i64 0)))] [4,6,7,8,25]) (.cond (.tmp 25) (.skip) (.exit 2))) (.seq (.block 3 (.seq (.seq (.ops [O1 28 (.mov (.tmp 8)),O1 29 (.bin .and (.tmp 28) (.const (.int .i64 1))),O1 30 (.bin .neq (.tmp 29) (.const (.int .i64 0)))] [4,6,7,8,30]) (.cond (.tmp 30) (.ops [O1 31 (.mov (.tmp 6)),O1 32 (.mov (.tmp 7)),O1 33 (.bin .mul (.tmp 31) (.tmp 32)),O1 6 (.mov (.tmp 33))] [4,6,7,8]) (.skip))) (.ops [O1 34 (.mov (.tmp 7)),O1 35 (.mov (.tmp 7)),O1 36 (.bin .mul (.tmp 34) (.tmp 35)),O1 7 (.mov (.tmp 36))] [4,6,7,8]))) (.ops [O1 26 (.mov (.tmp 8)),O1 27 (.bin .shr (.tmp 26) (.const (.int .u64 1))),O1 8 (.mov (.tmp 27))] [4,6,7,8]))
def c102l1:AC:= .seq (.seq (.ops [O1 9 (.mov (.tmp 5)),O1 10 (.mov (.tmp 0)),O1 11 (.len true (.tmp 10)),O1 12 (.bin .lss (.tmp 9) (.tmp 11))] [0,4,5,12]) (.cond (.tmp 12) (.skip) (.exit 0))) (.seq (.block 1 (.ops [O1 15 (.mov (.tmp 4)),O1 16 (.bin .mul (.tmp 15) (.const (.int .u32 16777619))),O1 17 (.mov (.tmp 0)),O1 18 (.mov (.tmp 5)),O1 19 (.idxStr (.tmp 17) (.tmp 18)),O1 20 (.convI .u32 (.tmp 19)),O1 21 (.bin .add (.tmp 16) (.tmp 20)),O1 4 (.mov (.tmp 21))] [0,4,5])) (.ops [O1 13 (.mov (.tmp 5)),O1 14 (.bin .add (.tmp 13) (.const (.int .i64 1))),O1 5 (.mov (.tmp 14))] [0,4,5]))
def c102:AFun:=⟨.seq (.ops [O1 2 (.mov (.const (.int .u32 0))),O1 3 (.mov (.const (.int .u32 0)))] [0]) (.seq (.ops [O1 4 (.mov (.const (.int .u32 0)))] [0,4]) (.seq (.seq (.ops [O1 5 (.mov (.const (.int .i64 0)))] [0,4,5]) (.block 0 (.loop [0,4,5] c102l1))) (.seq (.ops [O1 6 (.mov (.const (.int .u32 1))),O1 7 (.mov (.const (.int .u32 16777619)))] [0,4,6,7]) (.seq (.seq (.ops [O1 22 (.mov (.tmp 0)),O1 23 (.len true (.tmp 22)),O1 8 (.mov (.tmp 23))] [4,6,7,8]) (.block 2 (.loop [4,6,7,8] c102l0))) (.seq (.ops [O1 37 (.mov (.tmp 4)),O1 38 (.mov (.tmp 6)),O1 2 (.mov (.tmp 37)),O1 3 (.mov (.tmp 38))] [2,3]) (.ret)))))),39,[(2,none),(3,none)],true⟩
theorem ok102:FunOK Tryd.prog 102 c102:= .code ⟨Tryd.f102,_,c102.code,Tryd.func102,rfl,by kernel_rfl,rfl,by kernel_rfl,by kernel_rfl⟩
def fns:FuncId→Option AFun
 |5=>some c5
 |9=>some c9
 |10=>some c10
 |12=>some c12
 |14=>some c14
 |15=>some c15
 |17=>some c17
 |19=>some c19
 |21=>some c21
 |22=>some c22
 |23=>some c23
 |28=>some c28
 |29=>some c29
 |30=>some c30
 |31=>some c31
 |32=>some c32
 |33=>some c33
 |34=>some c34
 |36=>some c36
 |37=>some c37
 |38=>some c38
 |41=>some c41
 |45=>some c45
 |46=>some c46
 |47=>some c47
 |48=>some c48
 |49=>some c49
 |50=>some c50
 |51=>some c51
 |52=>some c52
 |53=>some c53
 |54=>some c54
 |55=>some c55
 |56=>some c56
 |57=>some c57
 |59=>some c59
 |60=>some c60
 |61=>some c61
 |62=>some c62
 |64=>some c64
 |65=>some c65
 |66=>some c66
 |67=>some c67
 |68=>some c68
 |69=>some c69
 |70=>some c70
 |71=>some c71
 |72=>some c72
 |73=>some c73
 |74=>some c74
 |76=>some c76
 |77=>some c77
 |78=>some c78
 |79=>some c79
 |80=>some c80
 |81=>some c81
 |83=>some c83
 |84=>some c84
 |85=>some c85
 |86=>some c86
 |87=>some c87
 |88=>some c88
 |89=>some c89
 |90=>some c90
 |91=>some c91
 |92=>some c92
 |93=>some c93
 |95=>some c95
 |96=>some c96
 |97=>some c97
 |98=>some c98
 |99=>some c99
 |100=>some c100
 |102=>some c102
 |_=>none
theorem fns_ok:FunsOK Tryd.prog fns:=by
 intro f af h
 unfold fns at h
 split at h
 ·cases h;exact ok5
 ·cases h;exact ok9
 ·cases h;exact ok10
 ·cases h;exact ok12
 ·cases h;exact ok14
 ·cases h;exact ok15
 ·cases h;exact ok17
 ·cases h;exact ok19
 ·cases h;exact ok21
 ·cases h;exact ok22
 ·cases h;exact ok23
 ·cases h;exact ok28
 ·cases h;exact ok29
 ·cases h;exact ok30
 ·cases h;exact ok31
 ·cases h;exact ok32
 ·cases h;exact ok33
 ·cases h;exact ok34
 ·cases h;exact ok36
 ·cases h;exact ok37
 ·cases h;exact ok38
 ·cases h;exact ok41
 ·cases h;exact ok45
 ·cases h;exact ok46
 ·cases h;exact ok47
 ·cases h;exact ok48
 ·cases h;exact ok49
 ·cases h;exact ok50
 ·cases h;exact ok51
 ·cases h;exact ok52
 ·cases h;exact ok53
 ·cases h;exact ok54
 ·cases h;exact ok55
 ·cases h;exact ok56
 ·cases h;exact ok57
 ·cases h;exact ok59
 ·cases h;exact ok60
 ·cases h;exact ok61
 ·cases h;exact ok62
 ·cases h;exact ok64
 ·cases h;exact ok65
 ·cases h;exact ok66
 ·cases h;exact ok67
 ·cases h;exact ok68
 ·cases h;exact ok69
 ·cases h;exact ok70
 ·cases h;exact ok71
 ·cases h;exact ok72
 ·cases h;exact ok73
 ·cases h;exact ok74
 ·cases h;exact ok76
 ·cases h;exact ok77
 ·cases h;exact ok78
 ·cases h;exact ok79
 ·cases h;exact ok80
 ·cases h;exact ok81
 ·cases h;exact ok83
 ·cases h;exact ok84
 ·cases h;exact ok85
 ·cases h;exact ok86
 ·cases h;exact ok87
 ·cases h;exact ok88
 ·cases h;exact ok89
 ·cases h;exact ok90
 ·cases h;exact ok91
 ·cases h;exact ok92
 ·cases h;exact ok93
 ·cases h;exact ok95
 ·cases h;exact ok96
 ·cases h;exact ok97
 ·cases h;exact ok98
 ·cases h;exact ok99
 ·cases h;exact ok100
 ·cases h;exact ok102
 ·cases h
end Go.Proofs.YteibgbbfcjgjiaaDoor
namespace Go.Proofs.YteibgbbfcjgjiaaDoor
open Go Go.Itp
set_option maxRecDepth 100000
def prims0:List (FuncId × Prim × TypeId):= [(63,.same,0),(101,.indexByte,0),(82,.count,0),(75,.makeNoZero,5)]
theorem prims_all:AllPrims Tryd.prog prims0:=
 ⟨⟨⟨Tryd.f63,Tryd.func63,by kernel_rfl,by kernel_rfl,by kernel_rfl,rfl⟩⟩,⟨⟨Tryd.f101,Tryd.func101,by kernel_rfl,by kernel_rfl,by kernel_rfl,rfl⟩⟩,⟨⟨Tryd.f82,Tryd.func82,by kernel_rfl,by kernel_rfl,by kernel_rfl,rfl⟩⟩,
  ⟨⟨Tryd.f75,Tryd.func75,by kernel_rfl,by kernel_rfl,#[3],59,by kernel_rfl,rfl,Tryd.underlying59⟩⟩,trivial⟩
def oldP:Nat→Nat→Option Value:=fun b o=>if Nat.beq b 3 then lget (dInts (Rows.laid_internal_strconv_uint64pow10 (H:=Unit))) o else none
theorem run_alive:runsTo true (body (callP oldP many fns (primsOf prims0) 40) c15 [] St.empty)=true:=by kernel_rfl
end Go.Proofs.YteibgbbfcjgjiaaDoor
namespace Go.Proofs
open Go.Shelf
def Tryd.lays156_ren:Go.Shelf.Ren:=⟨fun|156=>30|165=>52|166=>29|169=>34|240=>51|241=>64|276=>63|277=>75|n=>n,fun|31=>22|9=>9|3=>3|4=>4|0=>0|20=>20|72=>61|76=>64|70=>58|37=>59|75=>63|127=>86|164=>91|5=>5|80=>70|n=>n,fun|n=>n⟩
theorem Tryd.lays156:Go.Proofs.Lays.n156 Tryd.prog Tryd.lays156_ren:={
 mixed:=by kernel_rfl
 f156:=Tryd.func30.trans (congrArg some (by kernel_rfl))
 f165:=Tryd.func52.trans (congrArg some (by kernel_rfl))
 f166:=Tryd.func29.trans (congrArg some (by kernel_rfl))
 f169:=Tryd.func34.trans (congrArg some (by kernel_rfl))
 f240:=Tryd.func51.trans (congrArg some (by kernel_rfl))
 f241:=Tryd.func64.trans (congrArg some (by kernel_rfl))
 f276:=Tryd.func63.trans (congrArg some (by kernel_rfl))
 f277:=Tryd.func75.trans (congrArg some (by kernel_rfl))
 t0:=Tryd.underlying0
 a0:=Tryd.isAgg0
 z0:=Tryd.sizeOf0
 v0:=Tryd.zeroValue0
 t3:=Tryd.underlying3
 a3:=Tryd.isAgg3
 z3:=Tryd.sizeOf3
 v3:=Tryd.zeroValue3
 t4:=Tryd.underlying4
 a4:=Tryd.isAgg4
 z4:=Tryd.sizeOf4
 v4:=Tryd.zeroValue4
 t9:=Tryd.underlying9
 a9:=Tryd.isAgg9
 z9:=Tryd.sizeOf9
 v9:=Tryd.zeroValue9
 t20:=Tryd.underlying20
 a20:=Tryd.isAgg20
 z20:=Tryd.sizeOf20
 v20:=Tryd.zeroValue20
 t31:=Tryd.underlying22
 a31:=Tryd.isAgg22
 z31:=Tryd.sizeOf22
 v31:=Tryd.zeroValue22
 t37:=Tryd.underlying59
 a37:=Tryd.isAgg59
 z37:=Tryd.sizeOf59
 v37:=Tryd.zeroValue59
 t70:=Tryd.underlying58
 a70:=Tryd.isAgg58
 z70:=Tryd.sizeOf58
 v70:=Tryd.zeroValue58
 t72:=Tryd.underlying61
 a72:=Tryd.isAgg61
 z72:=Tryd.sizeOf61
 v72:=Tryd.zeroValue61
 t75:=Tryd.underlying63
 a75:=Tryd.isAgg63
 z75:=Tryd.sizeOf63
 v75:=Tryd.zeroValue63
 t76:=Tryd.underlying64
 a76:=Tryd.isAgg64
 z76:=Tryd.sizeOf64
 v76:=Tryd.zeroValue64
 t127:=Tryd.underlying86
 a127:=Tryd.isAgg86
 z127:=Tryd.sizeOf86
 v127:=Tryd.zeroValue86
 t164:=Tryd.underlying91
 a164:=Tryd.isAgg91
 z164:=Tryd.sizeOf91
 v164:=Tryd.zeroValue91}
theorem Tryd.Builder_Extra_156:Builder.Extra Tryd.prog Tryd.lays156_ren:={
 sizeBuilder:=by kernel_rfl
 liesBuilder:=by kernel_rfl
 t5:=Tryd.underlying5
 a5:=Tryd.isAgg5
 z5:=Tryd.sizeOf5
 v5:=Tryd.zeroValue5
 infoByte:=by kernel_rfl
 cellsByte:=by kernel_rfl
 sizeByte:=by kernel_rfl
 neB5:=by decide}
open Go.RowKit in
theorem Tryd.strings_Join_none (a:Option Addr) (c:Nat) (sep:ByteArray) (w:World):
  Calls Tryd.prog 30 #[.slice a 0 c,.string sep] w fun e w'=>e= .returned (.string ⟨#[]⟩)∧w'=w:=Any.strings_Join_none Tryd.lays156 Tryd.Builder_Extra_156 a c sep w
open Go.RowKit in
theorem Tryd.strings_Join (bk o c:Nat) (xs:List ByteArray) (sep:ByteArray) (w:World) (hcells:∀ (j:Nat) x,xs[j]? =some x→w.cell? ⟨bk,o+j,none⟩=some (.string x)) (hbk:bk<w.heap.size) (hN:xs.length≤140737488355328) (hcap:xs.length≤c) (hlen:(Lib.join (xs.map (·.data.toList)) sep.data.toList).length≤140737488355328):
  Calls Tryd.prog 30 #[.slice (some ⟨bk,o,none⟩) xs.length c,.string sep] w fun e w'=>e= .returned (.string ⟨(Lib.join (xs.map (·.data.toList)) sep.data.toList).toArray⟩)∧Below w.heap.size w w':=Any.strings_Join Tryd.lays156 Tryd.Builder_Extra_156 bk o c xs sep w hcells hbk hN hcap hlen
def Tryd.laysM171_ren:Go.Shelf.Ren:=⟨fun|171=>32|243=>53|246=>65|283=>76|284=>77|285=>78|286=>79|129=>88|317=>87|318=>89|319=>90|320=>91|337=>99|338=>100|n=>n,fun|3=>3|9=>9|2=>2|4=>4|171=>104|0=>0|53=>105|37=>59|5=>5|173=>108|212=>123|51=>124|20=>20|213=>125|46=>116|232=>139|233=>140|n=>n,fun|17=>3|18=>6|19=>7|n=>n⟩
theorem Tryd.laysM171:Go.Proofs.LaysM.n171 Tryd.prog Tryd.laysM171_ren:={
 mixed:=by kernel_rfl
 f129:=Tryd.func88.trans (congrArg some (by kernel_rfl))
 f171:=Tryd.func32.trans (congrArg some (by kernel_rfl))
 f243:=Tryd.func53.trans (congrArg some (by kernel_rfl))
 f246:=Tryd.func65.trans (congrArg some (by kernel_rfl))
 f283:=Tryd.func76.trans (congrArg some (by kernel_rfl))
 f284:=Tryd.func77.trans (congrArg some (by kernel_rfl))
 f285:=Tryd.func78.trans (congrArg some (by kernel_rfl))
 f286:=Tryd.func79.trans (congrArg some (by kernel_rfl))
 f317:=Tryd.func87.trans (congrArg some (by kernel_rfl))
 f318:=Tryd.func89.trans (congrArg some (by kernel_rfl))
 f319:=Tryd.func90.trans (congrArg some (by kernel_rfl))
 f320:=Tryd.func91.trans (congrArg some (by kernel_rfl))
 f337:=Tryd.func99.trans (congrArg some (by kernel_rfl))
 f338:=Tryd.func100.trans (congrArg some (by kernel_rfl))
 t0:=Tryd.underlying0
 a0:=Tryd.isAgg0
 z0:=Tryd.sizeOf0
 v0:=Tryd.zeroValue0
 t2:=Tryd.underlying2
 a2:=Tryd.isAgg2
 z2:=Tryd.sizeOf2
 v2:=Tryd.zeroValue2
 t3:=Tryd.underlying3
 a3:=Tryd.isAgg3
 z3:=Tryd.sizeOf3
 v3:=Tryd.zeroValue3
 t4:=Tryd.underlying4
 a4:=Tryd.isAgg4
 z4:=Tryd.sizeOf4
 v4:=Tryd.zeroValue4
 t5:=Tryd.underlying5
 a5:=Tryd.isAgg5
 z5:=Tryd.sizeOf5
 v5:=Tryd.zeroValue5
 t9:=Tryd.underlying9
 a9:=Tryd.isAgg9
 z9:=Tryd.sizeOf9
 v9:=Tryd.zeroValue9
 t20:=Tryd.underlying20
 a20:=Tryd.isAgg20
 z20:=Tryd.sizeOf20
 v20:=Tryd.zeroValue20
 t37:=Tryd.underlying59
 a37:=Tryd.isAgg59
 z37:=Tryd.sizeOf59
 v37:=Tryd.zeroValue59
 t46:=Tryd.underlying116
 a46:=Tryd.isAgg116
 z46:=Tryd.sizeOf116
 v46:=Tryd.zeroValue116
 t51:=Tryd.underlying124
 a51:=Tryd.isAgg124
 z51:=Tryd.sizeOf124
 v51:=Tryd.zeroValue124
 t53:=Tryd.underlying105
 a53:=Tryd.isAgg105
 z53:=Tryd.sizeOf105
 v53:=Tryd.zeroValue105
 t171:=Tryd.underlying104
 a171:=Tryd.isAgg104
 z171:=Tryd.sizeOf104
 v171:=Tryd.zeroValue104
 t173:=Tryd.underlying108
 a173:=Tryd.isAgg108
 z173:=Tryd.sizeOf108
 v173:=Tryd.zeroValue108
 t212:=Tryd.underlying123
 a212:=Tryd.isAgg123
 z212:=Tryd.sizeOf123
 v212:=Tryd.zeroValue123
 t213:=Tryd.underlying125
 a213:=Tryd.isAgg125
 z213:=Tryd.sizeOf125
 t232:=Tryd.underlying139
 a232:=Tryd.isAgg139
 z232:=Tryd.sizeOf139
 v232:=Tryd.zeroValue139
 t233:=Tryd.underlying140
 a233:=Tryd.isAgg140
 z233:=Tryd.sizeOf140
 v233:=Tryd.zeroValue140
 g17:=by kernel_rfl
 g18:=by kernel_rfl
 g19:=by kernel_rfl
 i0:=by kernel_rfl
 i2:=by kernel_rfl
 i3:=by kernel_rfl
 i4:=by kernel_rfl
 i5:=by kernel_rfl
 i9:=by kernel_rfl
 i20:=by kernel_rfl
 i37:=by kernel_rfl
 i46:=by kernel_rfl
 i51:=by kernel_rfl
 i53:=by kernel_rfl
 i171:=by kernel_rfl
 i173:=by kernel_rfl
 i212:=by kernel_rfl
 i232:=by kernel_rfl
 i233:=by kernel_rfl
 m17:=by kernel_rfl
 m18:=by kernel_rfl
 m19:=by kernel_rfl}
open Go.RowKit Go.Sort Go.Lib in
theorem Tryd.strconv_Itoa (n:Int) (h0: -9223372036854775808≤n) (h1:n≤9223372036854775807) (w:World) (htab:Lib.TabIs Tryd.prog w "internal/strconv.uint64pow10" .u64 Lib.pow10Tab):
  Calls Tryd.prog 32 #[.int .i64 n] w fun e w'=>e= .returned (.string ⟨(Lib.itoa n).toArray⟩)∧∃ k os,w'=grow (w.drewN k) os:=Any.strconv_Itoa Tryd.laysM171 n h0 h1 w htab
def Tryd.laysC172_ren:Go.Shelf.Ren:=⟨fun|172=>38|244=>56|245=>57|247=>70|279=>71|280=>72|281=>73|282=>74|287=>84|316=>85|171=>32|205=>86|321=>97|322=>98|243=>53|246=>65|283=>76|284=>77|285=>78|286=>79|129=>88|317=>87|318=>89|319=>90|320=>91|337=>99|338=>100|n=>n,fun|9=>9|3=>3|75=>63|76=>64|4=>4|5=>5|167=>97|37=>59|0=>0|85=>98|2=>2|168=>100|53=>105|175=>114|46=>116|210=>119|127=>86|145=>131|143=>129|21=>21|171=>104|173=>108|212=>123|51=>124|20=>20|213=>125|232=>139|233=>140|80=>70|n=>n,fun|15=>0|16=>1|17=>3|18=>6|19=>7|n=>n⟩
theorem Tryd.laysC172:Go.Proofs.LaysC.n172 Tryd.prog Tryd.laysC172_ren:={
 mixed:=by kernel_rfl
 f129:=Tryd.func88.trans (congrArg some (by kernel_rfl))
 f171:=Tryd.func32.trans (congrArg some (by kernel_rfl))
 f172:=Tryd.func38.trans (congrArg some (by kernel_rfl))
 f205:=Tryd.func86.trans (congrArg some (by kernel_rfl))
 f243:=Tryd.func53.trans (congrArg some (by kernel_rfl))
 f244:=Tryd.func56.trans (congrArg some (by kernel_rfl))
 f245:=Tryd.func57.trans (congrArg some (by kernel_rfl))
 f246:=Tryd.func65.trans (congrArg some (by kernel_rfl))
 f247:=Tryd.func70.trans (congrArg some (by kernel_rfl))
 f279:=Tryd.func71.trans (congrArg some (by kernel_rfl))
 f280:=Tryd.func72.trans (congrArg some (by kernel_rfl))
 f281:=Tryd.func73.trans (congrArg some (by kernel_rfl))
 f282:=Tryd.func74.trans (congrArg some (by kernel_rfl))
 f283:=Tryd.func76.trans (congrArg some (by kernel_rfl))
 f284:=Tryd.func77.trans (congrArg some (by kernel_rfl))
 f285:=Tryd.func78.trans (congrArg some (by kernel_rfl))
 f286:=Tryd.func79.trans (congrArg some (by kernel_rfl))
 f287:=Tryd.func84.trans (congrArg some (by kernel_rfl))
 f316:=Tryd.func85.trans (congrArg some (by kernel_rfl))
 f317:=Tryd.func87.trans (congrArg some (by kernel_rfl))
 f318:=Tryd.func89.trans (congrArg some (by kernel_rfl))
 f319:=Tryd.func90.trans (congrArg some (by kernel_rfl))
 f320:=Tryd.func91.trans (congrArg some (by kernel_rfl))
 f321:=Tryd.func97.trans (congrArg some (by kernel_rfl))
 f322:=Tryd.func98.trans (congrArg some (by kernel_rfl))
 f337:=Tryd.func99.trans (congrArg some (by kernel_rfl))
 f338:=Tryd.func100.trans (congrArg some (by kernel_rfl))
 t0:=Tryd.underlying0
 a0:=Tryd.isAgg0
 z0:=Tryd.sizeOf0
 v0:=Tryd.zeroValue0
 t2:=Tryd.underlying2
 a2:=Tryd.isAgg2
 z2:=Tryd.sizeOf2
 v2:=Tryd.zeroValue2
 t3:=Tryd.underlying3
 a3:=Tryd.isAgg3
 z3:=Tryd.sizeOf3
 v3:=Tryd.zeroValue3
 t4:=Tryd.underlying4
 a4:=Tryd.isAgg4
 z4:=Tryd.sizeOf4
 v4:=Tryd.zeroValue4
 t5:=Tryd.underlying5
 a5:=Tryd.isAgg5
 z5:=Tryd.sizeOf5
 v5:=Tryd.zeroValue5
 t9:=Tryd.underlying9
 a9:=Tryd.isAgg9
 z9:=Tryd.sizeOf9
 v9:=Tryd.zeroValue9
 t20:=Tryd.underlying20
 a20:=Tryd.isAgg20
 z20:=Tryd.sizeOf20
 v20:=Tryd.zeroValue20
 t21:=Tryd.underlying21
 a21:=Tryd.isAgg21
 z21:=Tryd.sizeOf21
 v21:=Tryd.zeroValue21
 t37:=Tryd.underlying59
 a37:=Tryd.isAgg59
 z37:=Tryd.sizeOf59
 v37:=Tryd.zeroValue59
 t46:=Tryd.underlying116
 a46:=Tryd.isAgg116
 z46:=Tryd.sizeOf116
 v46:=Tryd.zeroValue116
 t51:=Tryd.underlying124
 a51:=Tryd.isAgg124
 z51:=Tryd.sizeOf124
 v51:=Tryd.zeroValue124
 t53:=Tryd.underlying105
 a53:=Tryd.isAgg105
 z53:=Tryd.sizeOf105
 v53:=Tryd.zeroValue105
 t75:=Tryd.underlying63
 a75:=Tryd.isAgg63
 z75:=Tryd.sizeOf63
 v75:=Tryd.zeroValue63
 t76:=Tryd.underlying64
 a76:=Tryd.isAgg64
 z76:=Tryd.sizeOf64
 v76:=Tryd.zeroValue64
 t85:=Tryd.underlying98
 a85:=Tryd.isAgg98
 z85:=Tryd.sizeOf98
 v85:=Tryd.zeroValue98
 t127:=Tryd.underlying86
 a127:=Tryd.isAgg86
 z127:=Tryd.sizeOf86
 v127:=Tryd.zeroValue86
 t143:=Tryd.underlying129
 a143:=Tryd.isAgg129
 z143:=Tryd.sizeOf129
 v143:=Tryd.zeroValue129
 t145:=Tryd.underlying131
 a145:=Tryd.isAgg131
 z145:=Tryd.sizeOf131
 v145:=Tryd.zeroValue131
 t167:=Tryd.underlying97
 a167:=Tryd.isAgg97
 z167:=Tryd.sizeOf97
 v167:=Tryd.zeroValue97
 t168:=Tryd.underlying100
 a168:=Tryd.isAgg100
 z168:=Tryd.sizeOf100
 v168:=Tryd.zeroValue100
 t171:=Tryd.underlying104
 a171:=Tryd.isAgg104
 z171:=Tryd.sizeOf104
 v171:=Tryd.zeroValue104
 t173:=Tryd.underlying108
 a173:=Tryd.isAgg108
 z173:=Tryd.sizeOf108
 v173:=Tryd.zeroValue108
 t175:=Tryd.underlying114
 a175:=Tryd.isAgg114
 z175:=Tryd.sizeOf114
 v175:=Tryd.zeroValue114
 t210:=Tryd.underlying119
 a210:=Tryd.isAgg119
 z210:=Tryd.sizeOf119
 v210:=Tryd.zeroValue119
 t212:=Tryd.underlying123
 a212:=Tryd.isAgg123
 z212:=Tryd.sizeOf123
 v212:=Tryd.zeroValue123
 t213:=Tryd.underlying125
 a213:=Tryd.isAgg125
 z213:=Tryd.sizeOf125
 t232:=Tryd.underlying139
 a232:=Tryd.isAgg139
 z232:=Tryd.sizeOf139
 v232:=Tryd.zeroValue139
 t233:=Tryd.underlying140
 a233:=Tryd.isAgg140
 z233:=Tryd.sizeOf140
 v233:=Tryd.zeroValue140
 g15:=by kernel_rfl
 g16:=by kernel_rfl
 g17:=by kernel_rfl
 g18:=by kernel_rfl
 g19:=by kernel_rfl
 t80:=Tryd.underlying70
 a80:=Tryd.isAgg70
 z80:=Tryd.sizeOf70
 v80:=Tryd.zeroValue70
 i0:=by kernel_rfl
 i2:=by kernel_rfl
 i3:=by kernel_rfl
 i4:=by kernel_rfl
 i5:=by kernel_rfl
 i9:=by kernel_rfl
 i20:=by kernel_rfl
 i21:=by kernel_rfl
 i37:=by kernel_rfl
 i46:=by kernel_rfl
 i51:=by kernel_rfl
 i53:=by kernel_rfl
 i75:=by kernel_rfl
 i76:=by kernel_rfl
 i80:=by kernel_rfl
 i85:=by kernel_rfl
 i127:=by kernel_rfl
 i143:=by kernel_rfl
 i145:=by kernel_rfl
 i167:=by kernel_rfl
 i168:=by kernel_rfl
 i171:=by kernel_rfl
 i173:=by kernel_rfl
 i175:=by kernel_rfl
 i210:=by kernel_rfl
 i212:=by kernel_rfl
 i232:=by kernel_rfl
 i233:=by kernel_rfl
 m15:=by kernel_rfl
 m16:=by kernel_rfl
 m17:=by kernel_rfl
 m18:=by kernel_rfl
 m19:=by kernel_rfl
 c0:=by kernel_rfl
 c2:=by kernel_rfl
 c3:=by kernel_rfl
 c4:=by kernel_rfl
 c5:=by kernel_rfl
 c9:=by kernel_rfl
 c20:=by kernel_rfl
 c21:=by kernel_rfl
 c37:=by kernel_rfl
 c46:=by kernel_rfl
 c51:=by kernel_rfl
 c53:=by kernel_rfl
 c75:=by kernel_rfl
 c76:=by kernel_rfl
 c80:=by kernel_rfl
 c85:=by kernel_rfl
 c127:=by kernel_rfl
 c143:=by kernel_rfl
 c145:=by kernel_rfl
 c167:=by kernel_rfl
 c168:=by kernel_rfl
 c171:=by kernel_rfl
 c173:=by kernel_rfl
 c175:=by kernel_rfl
 c210:=by kernel_rfl
 c212:=by kernel_rfl
 c213:=by kernel_rfl
 c232:=by kernel_rfl
 c233:=by kernel_rfl}
open Go.RowKit in
theorem Tryd.strconv_Atoi_ok (s:ByteArray) (hmax:s.size≤9223372036854775806) (v:Int) (h:Lib.atoiAll s.data.toList= .ok v) (w:World):
  Calls Tryd.prog 38 #[.string s] w fun e w'=>e= .returned (.tuple #[.int .i64 v,.nilIface])∧(w'=w∨∃ t,w'=Lib.bytesWorld w 5 t):=Any.strconv_Atoi_ok Tryd.laysC172 s hmax v h w
open Go.RowKit in
theorem Tryd.strconv_Atoi_syntax_var (s:ByteArray) (hlim:s.size≤281474976710656) (h:Lib.atoiAll s.data.toList=Lib.atoiAll []) (tp:TypeId) (p:Value) (w:World) (hvar:w.var? Tryd.prog "strconv.ErrSyntax"=some #[.iface tp p]):
  Calls Tryd.prog 38 #[.string s] w fun e w'=>∃ N,e= .returned (.tuple #[.int .i64 0,.iface 100 (.pointer (some ⟨N,0,none⟩))])∧w.heap.size≤N∧w'.heap[N]? =some (.cells #[.string ⟨#[65,116,111,105]⟩,.string s,.iface tp p] 119 (0,0))∧Below w.heap.size w w':=Any.strconv_Atoi_syntax_var Tryd.laysC172 s hlim h tp p w hvar
open Go.RowKit in
theorem Tryd.strconv_Atoi_range_var (s:ByteArray) (hlim:s.size≤281474976710656) (h:Lib.atoiAll s.data.toList= .range) (tp:TypeId) (p:Value) (w:World) (hvar:w.var? Tryd.prog "strconv.ErrRange"=some #[.iface tp p]):
  Calls Tryd.prog 38 #[.string s] w fun e w'=>∃ N,e= .returned (.tuple #[.int .i64 (Lib.atoiSat s.data.toList),.iface 100 (.pointer (some ⟨N,0,none⟩))])∧w.heap.size≤N∧w'.heap[N]? =some (.cells #[.string ⟨#[65,116,111,105]⟩,.string s,.iface tp p] 119 (0,0))∧Below w.heap.size w w':=Any.strconv_Atoi_range_var Tryd.laysC172 s hlim h tp p w hvar
end Go.Proofs
namespace Go.Proofs.YteibgbbfcjgjiaaDoor
open Go Go.Itp
open Go.RowKit (Below)
set_option linter.unusedVariables false
set_option maxRecDepth 100000
theorem own:ownKnob Tryd.prog.godebug=none:=by kernel_rfl
theorem mixed:Tryd.prog.follows .mixedOrders=true:=by kernel_rfl
def known:List (FuncId × List Value × Bool):= [(15,[],true)]
theorem has_alive:∃ fn c,Tryd.prog.funcs[(15:Nat)]? =some fn∧fn.body=some c∧(fn.name== "runtime.NumGoroutine")=false:=⟨Tryd.f15,_,Tryd.func15,rfl,by kernel_rfl⟩
theorem known_ok:Answers Tryd.prog oldP known:=
 ⟨answer_of mixed fns_ok (fun w _=>primsOf_ok prims0 prims_all w) (f:=15) (af:=c15) rfl rfl run_alive,has_alive,trivial⟩
noncomputable abbrev PR (w:World):FuncId→List Value→St→Option (Value × List Blk):=
 orElseP (primT known) (orElseP (primsOf prims0) (orElseP (itoaP 32) (orElseP (joinP (oldOf w) 30)
  (atoiP 38 100 119 (errO Tryd.prog w "strconv.ErrSyntax") (errO Tryd.prog w "strconv.ErrRange")))))
noncomputable abbrev EN (w:World) (n:Nat):Env:=callP (oldOf w) many fns (PR w) n
abbrev Tab (w:World):Prop:=Lib.TabIs Tryd.prog w "internal/strconv.uint64pow10" .u64 Lib.pow10Tab∧OldIs oldP w
theorem prims_ok (W:World) (ht:Tab W):PrimsOK Tryd.prog (PR W) W:=
 orElse_ok (primT_ok ht.2 known known_ok) (orElse_ok (primsOf_ok prims0 prims_all W) (orElse_ok
  (itoaP_ok ⟨Tryd.f32,_,Tryd.func32,rfl,by kernel_rfl⟩ ht.1 Tryd.strconv_Itoa) (orElse_ok
  (joinP_ok ⟨Tryd.f30,_,Tryd.func30,rfl,by kernel_rfl⟩ (oldOf_ok W) Tryd.strings_Join_none Tryd.strings_Join)
  (atoiP_ok (u8:=5) ⟨Tryd.f38,_,Tryd.func38,rfl,by kernel_rfl⟩ Tryd.strconv_Atoi_ok Tryd.strconv_Atoi_syntax_var Tryd.strconv_Atoi_range_var))))
theorem law_of {W:World} (ht:Tab W) {f:FuncId} {af:AFun} (hf:fns f=some af) {xs:List Value} (hxs:idsL 0 xs= []) (n:Nat) {v:Value} {s':St} (hb:body (EN W n) af xs St.empty=some (v,s')) (hv:ids 0 v= []):
  Calls Tryd.prog f xs.toArray W fun e w'=>e= .returned v∧Below W.heap.size W w':=
 law_at mixed fns_ok (oldOf_ok W) (prims_ok W ht) hf hxs n hb hv
theorem itoa_s (w:World) (n:Nat) (st:VSt) (k:Int) (h0: -9223372036854775808≤k) (h1:k≤9223372036854775807):VSpecO (EN w (n+1)) 32 st [.sc (.int .i64 k)] (.sc (.string ⟨(Lib.itoa k).toArray⟩)):=
 itoa_o h0 h1 fun xs s r h=>orElse_right rfl (orElse_right rfl (orElse_left h))
theorem join_s (w:World) (n:Nat) (st:VSt) (s:Nat) (hs:s ≠ 1) (ls:List (List UInt8)) (sep:List UInt8) (hl:ls.length≤1099511627776) (hlen:(Lib.join ls sep).length≤140737488355328):
  VSpecO (EN w (n+1)) 30 st [.sl s ls.length (ls.map sD),.sc (.string ⟨sep.toArray⟩)] (.sc (.string ⟨(Lib.join ls sep).toArray⟩)):=
 join_o s hs ls sep hl hlen fun xs s r h=>orElse_right rfl (orElse_right rfl (orElse_right rfl (orElse_left h)))
theorem atoi_s (w:World) (n:Nat) (st:VSt) (b:ByteArray) (v:Int) (hb:b.size≤281474976710656) (h:Lib.atoiAll b.data.toList= .ok v):VSpecO (EN w (n+1)) 38 st [.sc (.string b)] (.tup [.sc (.int .i64 v),.sc .nilIface]):=
 atoi_o hb h fun xs s r h=>orElse_right rfl (orElse_right rfl (orElse_right rfl (orElse_right rfl h)))
theorem atoi_f (w:World) (n:Nat) (b:ByteArray) (hb:b.size≤281474976710656) (hes:(errO Tryd.prog w "strconv.ErrSyntax").isSome=true) (her:(errO Tryd.prog w "strconv.ErrRange").isSome=true) (h:∀ v,Lib.atoiAll b.data.toList ≠ .ok v):
  ∃ (k:Int) (cs:List Value),VSpec (EN w (n+1)) 38 [.sc (.string b)] (.tup [.sc (.int .i64 k),.ifc 100 (.ptr 0 0)]) ⟨[(0,.box 119 1 (cs.map V.sc))],1,0⟩:=
 atoi_e hb (errO_ok hes) (errO_ok her) h fun xs s r h=>orElse_right rfl (orElse_right rfl (orElse_right rfl (orElse_right rfl h)))
theorem alive_o (w:World) (n:Nat) (st:VSt):VSpecO (EN w (n+1)) 15 st [] (.sc (.bool true)):=by
 intro s μ F xsI w0 hsr hx
 have:xsI= []:=by simpa [VRepL] using hx
 subst this
 exact ⟨.bool true,rfl,fun w=> .mksc rfl⟩
end Go.Proofs.YteibgbbfcjgjiaaDoor
namespace Go.Proofs.YteibgbbfcjgjiaaDoor
open Go Go.Itp
set_option maxRecDepth 100000
set_option maxHeartbeats 1000000
set_option linter.unusedSimpArgs false
set_option linter.unusedVariables false
abbrev strV (l:List UInt8):V:= .sc (.string ⟨l.toArray⟩)
abbrev strs (s:Nat) (l:List (List UInt8)):V:= .sl s l.length (l.map sD)
theorem lt_succ_cases {P:Nat→Prop} {k:Nat} (h:∀ j,j<k→P j) (hk:P k):∀ j,j<k+1→P j:=fun j hj=>by
 rcases Nat.lt_or_eq_of_le (Nat.le_of_lt_succ hj) with h1|h1
 ·exact h j h1
 ·subst h1;exact hk
def wch (b:UInt8):Bool:=decide (¬ (((b.toNat:Nat):Int) ≠ 45∧(((b.toNat:Nat):Int)<97∨122<((b.toNat:Nat):Int))∧(((b.toNat:Nat):Int)<48∨57<((b.toNat:Nat):Int))))
def wordS (s:List UInt8):Bool:=decide (1≤s.length∧s.length≤40∧∀ j,j<s.length→wch s[j]! =true)
theorem wch_def (b:UInt8):wch b=true↔¬ (((b.toNat:Nat):Int) ≠ 45∧(((b.toNat:Nat):Int)<97∨122<((b.toNat:Nat):Int))∧(((b.toNat:Nat):Int)<48∨57<((b.toNat:Nat):Int))):=decide_eq_true_iff
def s2bV (nx:Nat) (t:TypeId):V→VO
 | .sc (.string b)=>if Nat.ble b.size room then some (.ref nx 0 b.size (big+b.size),some (.row t 1 true false (b.data.toList.map fun b=> .sc (.int .u8 b.toNat))),[]) else none
 |_=>none
theorem pv_s2b {old:Nat→Nat→Option Value} {fr:VFr} {H:VHp} {nx:Nat} (t:TypeId) (x:Operand):vpstep old fr H nx (.s2b t x)=op1 (s2bV nx t) (vev fr x):=by
 simp only[vpstep,op1]
 cases vev fr x with
 |none=>rfl
 |some v=>cases v<;>first|rfl|(rename_i c;cases c<;>rfl)
theorem s2bV_str (nx t:Nat) (l:List UInt8) (h:l.length≤1000000000):s2bV nx t (strV l)=some (.ref nx 0 l.length (big+l.length),some (.row t 1 true false (l.map Itp.bD)),[]):=by
 have h1:=mk_size l
 show (if Nat.ble (ByteArray.mk l.toArray).size room then _ else _)=_
 rw[if_pos (by rw[Nat.ble_eq,h1];unfold room;omega),h1]
 rfl
theorem bD8_dv (b:UInt8):dv (Itp.bD b)= .sc (.int .u8 b.toNat):=(rfl)
def placeG (l:List (List UInt8)) (x:List UInt8):Nat→Int
 |0=> -1
 |k+1=>if 0≤placeG l x k then placeG l x k else if l[k]! =x then k else -1
theorem placeG_range (l:List (List UInt8)) (x:List UInt8):∀ k,-1≤placeG l x k∧placeG l x k<k
 |0=>by simp[placeG]
 |k+1=>by
  have:=placeG_range l x k
  rw[placeG]
  split
  ·omega
  ·split<;>omega
theorem placeG_none {l:List (List UInt8)} {x:List UInt8}:∀ k,(∀ j,j<k→¬ l[j]! =x)→placeG l x k= -1
 |0,_=>rfl
 |k+1,h=>by rw[placeG,placeG_none k (fun j hj=>h j (by omega)),if_neg (by omega),if_neg (h k (by omega))]
theorem placeG_some {l:List (List UInt8)} {x:List UInt8} {i:Nat} (hi:l[i]! =x) (h:∀ j,j<i→¬ l[j]! =x):∀ k,i<k→placeG l x k=i
 |0,h=>by omega
 |k+1,hk=>by
  rw[placeG]
  by_cases e:i=k
  ·subst e;rw[placeG_none i h,if_neg (by omega),if_pos hi]
  ·rw[placeG_some hi h k (by omega),if_pos (by omega)]
section
variable (w:World) (n:Nat)
theorem word_p (s:List UInt8) (hs:s.length≤100000000):VSpec (EN w (n+1)) 59 [strV s] (.sc (.bool (wordS s))) ⟨[],0,0⟩:=by
 refine vspec_flat rfl rfl (fun _ _=>rfl) (Nat.le_of_ble_eq_true rfl) (oldVals w) rfl fun C hC h0=>?_
 have hsz:=mk_size s
 by_cases hl0:s.length=0
 ·have e:wordS s=false:=decide_eq_false (by omega)
  rw[e]
  repeat' (first|(simp (disch:=first|omega|assumption|exact bd (by with_unfolding_all rfl)|exact Or.inl rfl|exact Or.inl trivial|exact okL_map _ (fun _=>rfl) _|(simp only[VVlen]<;>omega)|fail) only[O1,VV0,VV1,VV2,VV3,VV4,VV5,VV6,VV7,VV8,VV9,mkFnV,vargs,slotsL,opdsA,Nat.reduceEqDiff,Nat.reduceLT,Nat.reduceAdd,Nat.reduceBEq,Int.reduceAdd,Int.reduceSub,Int.reduceLT,Int.reduceLE,Int.reduceEq,Int.reduceNeg,↓reduceIte,reduceCtorEq,scL,scD,expand,List.replicate,c59])|apply gC_drawW|((first|apply gI_dec|apply gG_dec|apply gPG_dec|apply gI_var|apply gG_var|apply gPG_var)<;>intro _))
  all_goals try (exfalso;omega)
  exact weak_flat rfl h0 rfl
 by_cases hl4:40<s.length
 ·have e:wordS s=false:=decide_eq_false (by omega)
  rw[e]
  repeat' (first|(simp (disch:=first|omega|assumption|exact bd (by with_unfolding_all rfl)|exact Or.inl rfl|exact Or.inl trivial|exact okL_map _ (fun _=>rfl) _|(simp only[VVlen]<;>omega)|fail) only[O1,VV0,VV1,VV2,VV3,VV4,VV5,VV6,VV7,VV8,VV9,mkFnV,vargs,slotsL,opdsA,Nat.reduceEqDiff,Nat.reduceLT,Nat.reduceAdd,Nat.reduceBEq,Int.reduceAdd,Int.reduceSub,Int.reduceLT,Int.reduceLE,Int.reduceEq,Int.reduceNeg,↓reduceIte,reduceCtorEq,scL,scD,expand,List.replicate,c59])|apply gC_drawW|((first|apply gI_dec|apply gG_dec|apply gPG_dec|apply gI_var|apply gG_var|apply gPG_var)<;>intro _))
  all_goals try (exfalso;omega)
  exact weak_flat rfl h0 rfl
 have hsb:=fun nx t=>s2bV_str nx t s (by omega)
 have hsm:(s.map Itp.bD).length=s.length:=by rw[List.length_map]
 repeat' (first|(simp (disch:=first|omega|assumption|exact bd (by with_unfolding_all rfl)|exact Or.inl rfl|exact Or.inl trivial|exact okL_map _ (fun _=>rfl) _|(simp only[VVlen]<;>omega)|fail) only[O1,VV0,VV1,VV2,VV3,VV4,VV5,VV6,VV7,VV8,VV9,mkFnV,vargs,slotsL,opdsA,Nat.reduceEqDiff,Nat.reduceLT,Nat.reduceAdd,Nat.reduceBEq,Int.reduceAdd,Int.reduceSub,Int.reduceLT,Int.reduceLE,Int.reduceEq,Int.reduceNeg,↓reduceIte,reduceCtorEq,scL,scD,expand,List.replicate,c59,pv_s2b,hsb])|apply gC_drawW|((first|apply gI_dec|apply gG_dec|apply gPG_dec|apply gI_var|apply gG_var|apply gPG_var)<;>intro _))
 all_goals try (exfalso;omega)
 refine g_while (fun m fr st=>∃ k:Nat,m=s.length - k∧k≤s.length∧fr= [(14,.ref 0 0 s.length (big+s.length)),(15,.sc (.int .i64 s.length)),(16,.sc (.int .i64 k))]∧st=⟨[(0,.row 5 1 true false (s.map Itp.bD))],1,0⟩∧∀ j,j<k→wch s[j]! =true) s.length ?_ ⟨_,_,.refl _ _,0,by omega,Nat.zero_le _,rfl,rfl,by omega⟩ ?_
 ·rw[hC,callP_rounds];unfold many;omega
 rintro m fr st ⟨k,rfl,hk,rfl,rfl,hj⟩
 by_cases hlt:k<s.length
 ·have hd:=wch_def s[k]!
  by_cases hw:wch s[k]! =true
  ·have hj2:=lt_succ_cases hj hw
   have hd:=hd.1 hw
   generalize hB:s[k]! =B at*
   repeat' (first|(simp (disch:=first|omega|assumption|exact bd (by with_unfolding_all rfl)|exact Or.inl rfl|exact Or.inl trivial|exact okL_map _ (fun _=>rfl) _|(simp only[VVlen]<;>omega)|fail) only[O1,VV0,VV1,VV2,VV3,VV4,VV5,VV6,VV7,VV8,VV9,mkFnV,vargs,slotsL,opdsA,Nat.reduceEqDiff,Nat.reduceLT,Nat.reduceAdd,Nat.reduceBEq,Int.reduceAdd,Int.reduceSub,Int.reduceLT,Int.reduceLE,Int.reduceEq,Int.reduceNeg,↓reduceIte,reduceCtorEq,scL,scD,expand,List.replicate,c59l0,bD8_dv,hB])|apply gC_drawW|((first|apply gI_dec|apply gG_dec|apply gPG_dec|apply gI_var|apply gG_var|apply gPG_var)<;>intro _))
   all_goals try (exfalso;omega)
   all_goals exact ⟨_,_,_,by omega,.refl _ _,k+1,rfl,hlt,rfl,rfl,hj2⟩
  ·have e:wordS s=false:=decide_eq_false fun h=>hw (h.2.2 k hlt)
   have hd:=mt hd.2 hw
   rw[e]
   generalize hB:s[k]! =B at*
   repeat' (first|(simp (disch:=first|omega|assumption|exact bd (by with_unfolding_all rfl)|exact Or.inl rfl|exact Or.inl trivial|exact okL_map _ (fun _=>rfl) _|(simp only[VVlen]<;>omega)|fail) only[O1,VV0,VV1,VV2,VV3,VV4,VV5,VV6,VV7,VV8,VV9,mkFnV,vargs,slotsL,opdsA,Nat.reduceEqDiff,Nat.reduceLT,Nat.reduceAdd,Nat.reduceBEq,Int.reduceAdd,Int.reduceSub,Int.reduceLT,Int.reduceLE,Int.reduceEq,Int.reduceNeg,↓reduceIte,reduceCtorEq,scL,scD,expand,List.replicate,c59l0,bD8_dv,hB])|apply gC_drawW|((first|apply gI_dec|apply gG_dec|apply gPG_dec|apply gI_var|apply gG_var|apply gPG_var)<;>intro _))
   all_goals try (exfalso;omega)
   all_goals exact weak_flat rfl h0 rfl
 ·have:k=s.length:=by omega
  subst this
  have e:wordS s=true:=decide_eq_true ⟨by omega,by omega,hj⟩
  rw[e]
  repeat' (first|(simp (disch:=first|omega|assumption|exact bd (by with_unfolding_all rfl)|exact Or.inl rfl|exact Or.inl trivial|exact okL_map _ (fun _=>rfl) _|(simp only[VVlen]<;>omega)|fail) only[O1,VV0,VV1,VV2,VV3,VV4,VV5,VV6,VV7,VV8,VV9,mkFnV,vargs,slotsL,opdsA,Nat.reduceEqDiff,Nat.reduceLT,Nat.reduceAdd,Nat.reduceBEq,Int.reduceAdd,Int.reduceSub,Int.reduceLT,Int.reduceLE,Int.reduceEq,Int.reduceNeg,↓reduceIte,reduceCtorEq,scL,scD,expand,List.replicate,c59l0])|apply gC_drawW|((first|apply gI_dec|apply gG_dec|apply gPG_dec|apply gI_var|apply gG_var|apply gPG_var)<;>intro _))
  exact weak_flat rfl h0 rfl
theorem gix_p (s:Nat) (l:List (List UInt8)) (x:List UInt8) (hl:l.length≤100000000):VSpec (EN w (n+1)) 48 [strs s l,strV x] (.sc (.int .i64 (placeG l x l.length))) ⟨[],0,0⟩:=by
 refine vspec_flat rfl rfl (fun _ _=>rfl) (Nat.le_of_ble_eq_true rfl) (oldVals w) rfl fun C hC h0=>?_
 repeat' (first|(simp (disch:=first|omega|assumption|exact bd (by with_unfolding_all rfl)|exact Or.inl rfl|exact Or.inl trivial|exact okL_map _ (fun _=>rfl) _|(simp only[VVlen]<;>omega)|fail) only[O1,VV0,VV1,VV2,VV3,VV4,VV5,VV6,VV7,VV8,VV9,mkFnV,vargs,slotsL,opdsA,Nat.reduceEqDiff,Nat.reduceLT,Nat.reduceAdd,Nat.reduceBEq,Int.reduceAdd,Int.reduceSub,Int.reduceLT,Int.reduceLE,Int.reduceEq,Int.reduceNeg,↓reduceIte,reduceCtorEq,scL,scD,expand,List.replicate,c48])|apply gC_drawW|((first|apply gI_dec|apply gG_dec|apply gPG_dec|apply gI_var|apply gG_var|apply gPG_var)<;>intro _))
 refine g_while (fun m fr st=>∃ k:Nat,m=l.length - k∧k≤l.length∧fr= [(1,strV x),(7,strs s l),(8,.sc (.int .i64 l.length)),(9,.sc (.int .i64 k))]∧st=⟨[],0,0⟩∧∀ j,j<k→¬ l[j]! =x) l.length ?_ ⟨_,_,.refl _ _,0,by omega,Nat.zero_le _,rfl,rfl,by omega⟩ ?_
 ·rw[hC,callP_rounds];unfold many;omega
 rintro m fr st ⟨k,rfl,hk,rfl,rfl,hj⟩
 by_cases hlt:k<l.length
 ·by_cases hx:l[k]! =x
  ·rw[placeG_some hx hj l.length hlt]
   have hx2:x=l[k]! :=hx.symm
   repeat' (first|(simp (disch:=first|omega|assumption|exact bd (by with_unfolding_all rfl)|exact Or.inl rfl|exact Or.inl trivial|exact okL_map _ (fun _=>rfl) _|(simp only[VVlen]<;>omega)|fail) only[O1,VV0,VV1,VV2,VV3,VV4,VV5,VV6,VV7,VV8,VV9,mkFnV,vargs,slotsL,opdsA,Nat.reduceEqDiff,Nat.reduceLT,Nat.reduceAdd,Nat.reduceBEq,Int.reduceAdd,Int.reduceSub,Int.reduceLT,Int.reduceLE,Int.reduceEq,Int.reduceNeg,↓reduceIte,reduceCtorEq,scL,scD,expand,List.replicate,c48l0,sD_dv,mk_inj,hx])|apply gC_drawW|((first|apply gI_dec|apply gG_dec|apply gPG_dec|apply gI_var|apply gG_var|apply gPG_var)<;>intro _))
   all_goals try (exfalso;omega)
   all_goals exact weak_flat rfl h0 rfl
  ·have hx2:¬ x=l[k]! :=fun h=>hx h.symm
   repeat' (first|(simp (disch:=first|omega|assumption|exact bd (by with_unfolding_all rfl)|exact Or.inl rfl|exact Or.inl trivial|exact okL_map _ (fun _=>rfl) _|(simp only[VVlen]<;>omega)|fail) only[O1,VV0,VV1,VV2,VV3,VV4,VV5,VV6,VV7,VV8,VV9,mkFnV,vargs,slotsL,opdsA,Nat.reduceEqDiff,Nat.reduceLT,Nat.reduceAdd,Nat.reduceBEq,Int.reduceAdd,Int.reduceSub,Int.reduceLT,Int.reduceLE,Int.reduceEq,Int.reduceNeg,↓reduceIte,reduceCtorEq,scL,scD,expand,List.replicate,c48l0,sD_dv,mk_inj,hx,hx2])|apply gC_drawW|((first|apply gI_dec|apply gG_dec|apply gPG_dec|apply gI_var|apply gG_var|apply gPG_var)<;>intro _))
   all_goals try (exfalso;omega)
   all_goals exact ⟨_,_,_,by omega,.refl _ _,k+1,rfl,hlt,rfl,rfl,lt_succ_cases hj hx⟩
 ·have:k=l.length:=by omega
  subst this
  rw[placeG_none l.length hj]
  repeat' (first|(simp (disch:=first|omega|assumption|exact bd (by with_unfolding_all rfl)|exact Or.inl rfl|exact Or.inl trivial|exact okL_map _ (fun _=>rfl) _|(simp only[VVlen]<;>omega)|fail) only[O1,VV0,VV1,VV2,VV3,VV4,VV5,VV6,VV7,VV8,VV9,mkFnV,vargs,slotsL,opdsA,Nat.reduceEqDiff,Nat.reduceLT,Nat.reduceAdd,Nat.reduceBEq,Int.reduceAdd,Int.reduceSub,Int.reduceLT,Int.reduceLE,Int.reduceEq,Int.reduceNeg,↓reduceIte,reduceCtorEq,scL,scD,expand,List.replicate,c48l0])|apply gC_drawW|((first|apply gI_dec|apply gG_dec|apply gPG_dec|apply gI_var|apply gG_var|apply gPG_var)<;>intro _))
  exact weak_flat rfl h0 rfl
end
end Go.Proofs.YteibgbbfcjgjiaaDoor
namespace Go.Proofs.YteibgbbfcjgjiaaDoor
open Go Go.Itp
set_option maxRecDepth 100000
set_option maxHeartbeats 1000000
set_option linter.unusedSimpArgs false
set_option linter.unusedVariables false
def wF (l:List (List UInt8)):Nat→Bool
 |0=>decide (0<l.length)
 |k+1=>wF l k && wordS l[k]!
def tF (l:List (List UInt8)):Nat→Bool
 |0=>false
 |k+1=>tF l k||decide (placeG l l[k]! l.length<k)
def wordsS (l:List (List UInt8)):Bool:=wF l l.length
def twiceS (l:List (List UInt8)):Bool:=tF l l.length
theorem wF_iff (l:List (List UInt8)):∀ k,wF l k=true↔0<l.length∧∀ j,j<k→wordS l[j]! =true
 |0=>by simp[wF]
 |k+1=>by
  rw[wF,Bool.and_eq_true,wF_iff l k]
  constructor
  ·rintro ⟨⟨h1,h2⟩,h3⟩;exact ⟨h1,lt_succ_cases h2 h3⟩
  ·rintro ⟨h1,h2⟩;exact ⟨⟨h1,fun j hj=>h2 j (by omega)⟩,h2 k (by omega)⟩
def rowTo (l:List Int) (k:Nat):Prop:=∀ j,j<k→0≤l[j]! ∧l[j]! ≤1000000∧(0<j→l[j - 1]! ≤l[j]!)
def rowS (l:List Int) (n:Nat):Bool:=decide (l.length=n∧∀ j,j<l.length→0≤l[j]! ∧l[j]! ≤1000000∧(0<j→l[j - 1]! ≤l[j]!))
abbrev intsV (s:Nat) (l:List Int):V:= .sl s l.length (l.map iD)
section
variable (w:World) (n:Nat)
theorem words_p (s:Nat) (l:List (List UInt8)) (hl:l.length≤100000000) (hs:∀ j,j<l.length→l[j]!.length≤100000000):VSpec (EN w (n+2)) 47 [strs s l] (.tup [.sc (.bool (wordsS l)),.sc (.bool (twiceS l))]) ⟨[],0,0⟩:=by
 refine vspec_flat rfl rfl (fun _ _=>rfl) (Nat.le_of_ble_eq_true rfl) (oldVals w) rfl fun C hC h0=>?_
 have h00:decide ((0:Int)<l.length)=wF l 0:=by rw[wF];congr 1;apply propext;omega
 repeat' (first|(simp (disch:=first|omega|assumption|exact bd (by with_unfolding_all rfl)|exact Or.inl rfl|exact Or.inl trivial|exact okL_map _ (fun _=>rfl) _|(simp only[VVlen]<;>omega)|fail) only[O1,VV0,VV1,VV2,VV3,VV4,VV5,VV6,VV7,VV8,VV9,mkFnV,vargs,slotsL,opdsA,Nat.reduceEqDiff,Nat.reduceLT,Nat.reduceAdd,Nat.reduceBEq,Int.reduceAdd,Int.reduceSub,Int.reduceLT,Int.reduceLE,Int.reduceEq,Int.reduceNeg,↓reduceIte,reduceCtorEq,scL,scD,expand,List.replicate,c47])|apply gC_drawW|((first|apply gI_dec|apply gG_dec|apply gPG_dec|apply gI_var|apply gG_var|apply gPG_var)<;>intro _))
 all_goals try rw[h00]
 refine g_while (fun m fr st=>∃ k:Nat,m=l.length - k∧k≤l.length∧fr= [(0,strs s l),(2,.sc (.bool (wF l k))),(3,.sc (.bool (tF l k))),(9,strs s l),(10,.sc (.int .i64 l.length)),(11,.sc (.int .i64 k))]∧st=⟨[],0,0⟩) l.length ?_ ⟨_,_,.refl _ _,0,by omega,Nat.zero_le _,rfl,rfl⟩ ?_
 ·rw[hC,callP_rounds];unfold many;omega
 rintro m fr st ⟨k,rfl,hk,rfl,rfl⟩
 by_cases hlt:k<l.length
 ·have e1:wF l (k+1)=(wF l k && wordS l[k]!):=rfl
  have e2:tF l (k+1)=(tF l k||decide (placeG l l[k]! l.length<k)):=rfl
  have hw:=fun st=>(word_p w n l[k]! (hs k hlt)).of hC rfl st rfl
  have hi:=fun st=>(gix_p w n s l l[k]! hl).of hC rfl st rfl
  generalize hX:l[k]! =X at*
  generalize wordS X=b at*
  have hp:decide (placeG l X l.length<(k:Int))=decide (placeG l X l.length<k):=rfl
  generalize placeG l X l.length=p at*
  generalize wF l k=f at*
  generalize tF l k=g at*
  cases f<;>cases g
  ·repeat' (first|(simp (disch:=first|omega|assumption|exact bd (by with_unfolding_all rfl)|exact Or.inl rfl|exact Or.inl trivial|exact okL_map _ (fun _=>rfl) _|(simp only[VVlen]<;>omega)|fail) only[O1,VV0,VV1,VV2,VV3,VV4,VV5,VV6,VV7,VV8,VV9,mkFnV,vargs,slotsL,opdsA,Nat.reduceEqDiff,Nat.reduceLT,Nat.reduceAdd,Nat.reduceBEq,Int.reduceAdd,Int.reduceSub,Int.reduceLT,Int.reduceLE,Int.reduceEq,Int.reduceNeg,↓reduceIte,reduceCtorEq,scL,scD,expand,List.replicate,c47l0,sD_dv,hX])|apply gC_drawW|((first|apply gI_dec|apply gG_dec|apply gPG_dec|apply gI_var|apply gG_var|apply gPG_var)<;>intro _))
   refine callV_flat (hi _) ?_
   repeat' (first|(simp (disch:=first|omega|assumption|exact bd (by with_unfolding_all rfl)|exact Or.inl rfl|exact Or.inl trivial|exact okL_map _ (fun _=>rfl) _|(simp only[VVlen]<;>omega)|fail) only[O1,VV0,VV1,VV2,VV3,VV4,VV5,VV6,VV7,VV8,VV9,mkFnV,vargs,slotsL,opdsA,Nat.reduceEqDiff,Nat.reduceLT,Nat.reduceAdd,Nat.reduceBEq,Int.reduceAdd,Int.reduceSub,Int.reduceLT,Int.reduceLE,Int.reduceEq,Int.reduceNeg,↓reduceIte,reduceCtorEq,scL,scD,expand,List.replicate])|apply gC_drawW|((first|apply gI_dec|apply gG_dec|apply gPG_dec|apply gI_var|apply gG_var|apply gPG_var)<;>intro _))
   exact ⟨_,_,_,by omega,.refl _ _,k+1,rfl,hlt,by rw[e1,e2];rfl,rfl⟩
  ·repeat' (first|(simp (disch:=first|omega|assumption|exact bd (by with_unfolding_all rfl)|exact Or.inl rfl|exact Or.inl trivial|exact okL_map _ (fun _=>rfl) _|(simp only[VVlen]<;>omega)|fail) only[O1,VV0,VV1,VV2,VV3,VV4,VV5,VV6,VV7,VV8,VV9,mkFnV,vargs,slotsL,opdsA,Nat.reduceEqDiff,Nat.reduceLT,Nat.reduceAdd,Nat.reduceBEq,Int.reduceAdd,Int.reduceSub,Int.reduceLT,Int.reduceLE,Int.reduceEq,Int.reduceNeg,↓reduceIte,reduceCtorEq,scL,scD,expand,List.replicate,c47l0,sD_dv,hX])|apply gC_drawW|((first|apply gI_dec|apply gG_dec|apply gPG_dec|apply gI_var|apply gG_var|apply gPG_var)<;>intro _))
   exact ⟨_,_,_,by omega,.refl _ _,k+1,rfl,hlt,by rw[e1,e2];rfl,rfl⟩
  ·repeat' (first|(simp (disch:=first|omega|assumption|exact bd (by with_unfolding_all rfl)|exact Or.inl rfl|exact Or.inl trivial|exact okL_map _ (fun _=>rfl) _|(simp only[VVlen]<;>omega)|fail) only[O1,VV0,VV1,VV2,VV3,VV4,VV5,VV6,VV7,VV8,VV9,mkFnV,vargs,slotsL,opdsA,Nat.reduceEqDiff,Nat.reduceLT,Nat.reduceAdd,Nat.reduceBEq,Int.reduceAdd,Int.reduceSub,Int.reduceLT,Int.reduceLE,Int.reduceEq,Int.reduceNeg,↓reduceIte,reduceCtorEq,scL,scD,expand,List.replicate,c47l0,sD_dv,hX])|apply gC_drawW|((first|apply gI_dec|apply gG_dec|apply gPG_dec|apply gI_var|apply gG_var|apply gPG_var)<;>intro _))
   refine callV_flat (hw _) ?_
   repeat' (first|(simp (disch:=first|omega|assumption|exact bd (by with_unfolding_all rfl)|exact Or.inl rfl|exact Or.inl trivial|exact okL_map _ (fun _=>rfl) _|(simp only[VVlen]<;>omega)|fail) only[O1,VV0,VV1,VV2,VV3,VV4,VV5,VV6,VV7,VV8,VV9,mkFnV,vargs,slotsL,opdsA,Nat.reduceEqDiff,Nat.reduceLT,Nat.reduceAdd,Nat.reduceBEq,Int.reduceAdd,Int.reduceSub,Int.reduceLT,Int.reduceLE,Int.reduceEq,Int.reduceNeg,↓reduceIte,reduceCtorEq,scL,scD,expand,List.replicate])|apply gC_drawW|((first|apply gI_dec|apply gG_dec|apply gPG_dec|apply gI_var|apply gG_var|apply gPG_var)<;>intro _))
   refine callV_flat (hi _) ?_
   repeat' (first|(simp (disch:=first|omega|assumption|exact bd (by with_unfolding_all rfl)|exact Or.inl rfl|exact Or.inl trivial|exact okL_map _ (fun _=>rfl) _|(simp only[VVlen]<;>omega)|fail) only[O1,VV0,VV1,VV2,VV3,VV4,VV5,VV6,VV7,VV8,VV9,mkFnV,vargs,slotsL,opdsA,Nat.reduceEqDiff,Nat.reduceLT,Nat.reduceAdd,Nat.reduceBEq,Int.reduceAdd,Int.reduceSub,Int.reduceLT,Int.reduceLE,Int.reduceEq,Int.reduceNeg,↓reduceIte,reduceCtorEq,scL,scD,expand,List.replicate])|apply gC_drawW|((first|apply gI_dec|apply gG_dec|apply gPG_dec|apply gI_var|apply gG_var|apply gPG_var)<;>intro _))
   exact ⟨_,_,_,by omega,.refl _ _,k+1,rfl,hlt,by rw[e1,e2];rfl,rfl⟩
  ·repeat' (first|(simp (disch:=first|omega|assumption|exact bd (by with_unfolding_all rfl)|exact Or.inl rfl|exact Or.inl trivial|exact okL_map _ (fun _=>rfl) _|(simp only[VVlen]<;>omega)|fail) only[O1,VV0,VV1,VV2,VV3,VV4,VV5,VV6,VV7,VV8,VV9,mkFnV,vargs,slotsL,opdsA,Nat.reduceEqDiff,Nat.reduceLT,Nat.reduceAdd,Nat.reduceBEq,Int.reduceAdd,Int.reduceSub,Int.reduceLT,Int.reduceLE,Int.reduceEq,Int.reduceNeg,↓reduceIte,reduceCtorEq,scL,scD,expand,List.replicate,c47l0,sD_dv,hX])|apply gC_drawW|((first|apply gI_dec|apply gG_dec|apply gPG_dec|apply gI_var|apply gG_var|apply gPG_var)<;>intro _))
   refine callV_flat (hw _) ?_
   repeat' (first|(simp (disch:=first|omega|assumption|exact bd (by with_unfolding_all rfl)|exact Or.inl rfl|exact Or.inl trivial|exact okL_map _ (fun _=>rfl) _|(simp only[VVlen]<;>omega)|fail) only[O1,VV0,VV1,VV2,VV3,VV4,VV5,VV6,VV7,VV8,VV9,mkFnV,vargs,slotsL,opdsA,Nat.reduceEqDiff,Nat.reduceLT,Nat.reduceAdd,Nat.reduceBEq,Int.reduceAdd,Int.reduceSub,Int.reduceLT,Int.reduceLE,Int.reduceEq,Int.reduceNeg,↓reduceIte,reduceCtorEq,scL,scD,expand,List.replicate])|apply gC_drawW|((first|apply gI_dec|apply gG_dec|apply gPG_dec|apply gI_var|apply gG_var|apply gPG_var)<;>intro _))
   exact ⟨_,_,_,by omega,.refl _ _,k+1,rfl,hlt,by rw[e1,e2];rfl,rfl⟩
 ·have:k=l.length:=by omega
  subst this
  repeat' (first|(simp (disch:=first|omega|assumption|exact bd (by with_unfolding_all rfl)|exact Or.inl rfl|exact Or.inl trivial|exact okL_map _ (fun _=>rfl) _|(simp only[VVlen]<;>omega)|fail) only[O1,VV0,VV1,VV2,VV3,VV4,VV5,VV6,VV7,VV8,VV9,mkFnV,vargs,slotsL,opdsA,Nat.reduceEqDiff,Nat.reduceLT,Nat.reduceAdd,Nat.reduceBEq,Int.reduceAdd,Int.reduceSub,Int.reduceLT,Int.reduceLE,Int.reduceEq,Int.reduceNeg,↓reduceIte,reduceCtorEq,scL,scD,expand,List.replicate,c47l0])|apply gC_drawW|((first|apply gI_dec|apply gG_dec|apply gPG_dec|apply gI_var|apply gG_var|apply gPG_var)<;>intro _))
  exact weak_flat rfl h0 rfl
end
end Go.Proofs.YteibgbbfcjgjiaaDoor
namespace Go.Proofs.YteibgbbfcjgjiaaDoor
open Go Go.Itp
set_option maxRecDepth 100000
set_option maxHeartbeats 2000000
set_option linter.unusedSimpArgs false
set_option linter.unusedVariables false
abbrev rowsV (u r:Nat) (M:List (List Int)):V:= .sl u M.length (M.map (rowI r))
abbrev tableV (s t u r:Nat) (S N:List (List UInt8)) (M:List (List Int)):V:= .agg [strs s S,strs t N,rowsV u r M]
abbrev tabO (s t u r:Nat) (S N:List (List UInt8)) (M:List (List Int)):Itp.Obj:= .box 25 1 [strs s S,strs t N,rowsV u r M]
def sizeL:List UInt8:= [115,105,122,101]
def checkS (S N:List (List UInt8)) (M:List (List Int)):Int:=
 if 20<S.length∨30<N.length then 4
 else if ¬ wordsS S=true∨¬ wordsS N=true∨0≤placeG N sizeL N.length∨¬ M.length=N.length then 8
 else if ∀ k,k<M.length→rowS M[k]! S.length=true then (if twiceS S=true∨twiceS N=true then 14 else 0)
 else 8
structure Mod (S N:List (List UInt8)) (M:List (List Int)):Prop where
 s:S.length≤100000000
 n:N.length≤100000000
 m:M.length≤100000000
 zs:∀ j,j<S.length→S[j]!.length≤100000000
 zn:∀ j,j<N.length→N[j]!.length≤100000000
 zm:∀ j,j<M.length→M[j]!.length≤100000000
section
variable (w:World) (n:Nat)
theorem check_p (s t u r:Nat) (S N:List (List UInt8)) (M:List (List Int)) (hm:Mod S N M):VSpec (EN w (n+3)) 19 [tableV s t u r S N M] (.sc (.int .i64 (checkS S N M))) ⟨[],0,0⟩:=by
 refine vspec_flat rfl rfl (fun _ _=>rfl) (Nat.le_of_ble_eq_true rfl) (oldVals w) rfl fun C hC h0=>?_
 obtain ⟨m1,m2,m3,m4,m5,m6⟩:=hm
 by_cases h1:20<S.length∨30<N.length
 ·have e:checkS S N M=4:=if_pos h1
  rw[e]
  repeat' (first|(simp (disch:=first|omega|assumption|exact bd (by with_unfolding_all rfl)|exact Or.inl rfl|exact Or.inl trivial|exact okL_map _ (fun _=>rfl) _|(simp only[VVlen]<;>omega)|fail) only[O1,VV0,VV1,VV2,VV3,VV4,VV5,VV6,VV7,VV8,VV9,mkFnV,vargs,slotsL,opdsA,Nat.reduceEqDiff,Nat.reduceLT,Nat.reduceAdd,Nat.reduceBEq,Int.reduceAdd,Int.reduceSub,Int.reduceLT,Int.reduceLE,Int.reduceEq,Int.reduceNeg,↓reduceIte,reduceCtorEq,scL,scD,expand,List.replicate,c19])|apply gC_drawW|((first|apply gI_dec|apply gG_dec|apply gPG_dec|apply gI_var|apply gG_var|apply gPG_var)<;>intro _))
  all_goals try (exfalso;omega)
  all_goals exact weak_flat rfl h0 rfl
 have w1:=words_p w n s S m1 m4
 have w2:=words_p w n t N m2 m5
 have ix:=gix_p w (n+1) t N sizeL m2
 by_cases hbad:(¬ wordsS S=true∨¬ wordsS N=true∨0≤placeG N sizeL N.length∨¬ M.length=N.length)
 ·have e:checkS S N M=8:=by unfold checkS;rw[if_neg h1,if_pos hbad]
  rw[e]
  generalize wordsS S=a at*
  generalize wordsS N=b at*
  generalize placeG N sizeL N.length=p at*
  generalize twiceS S=c at*
  generalize twiceS N=d at*
  cases a
  ·repeat' (first|(simp (disch:=first|omega|assumption|exact bd (by with_unfolding_all rfl)|exact Or.inl rfl|exact Or.inl trivial|exact okL_map _ (fun _=>rfl) _|(simp only[VVlen]<;>omega)|fail) only[O1,VV0,VV1,VV2,VV3,VV4,VV5,VV6,VV7,VV8,VV9,mkFnV,vargs,slotsL,opdsA,Nat.reduceEqDiff,Nat.reduceLT,Nat.reduceAdd,Nat.reduceBEq,Int.reduceAdd,Int.reduceSub,Int.reduceLT,Int.reduceLE,Int.reduceEq,Int.reduceNeg,↓reduceIte,reduceCtorEq,scL,scD,expand,List.replicate,c19])|apply gC_drawW|((first|apply gI_dec|apply gG_dec|apply gPG_dec|apply gI_var|apply gG_var|apply gPG_var)<;>intro _))
   all_goals try (exfalso;omega)
   refine callV_flat (by rw[hC];exact w1.flat rfl rfl) ?_
   repeat' (first|(simp (disch:=first|omega|assumption|exact bd (by with_unfolding_all rfl)|exact Or.inl rfl|exact Or.inl trivial|exact okL_map _ (fun _=>rfl) _|(simp only[VVlen]<;>omega)|fail) only[O1,VV0,VV1,VV2,VV3,VV4,VV5,VV6,VV7,VV8,VV9,mkFnV,vargs,slotsL,opdsA,Nat.reduceEqDiff,Nat.reduceLT,Nat.reduceAdd,Nat.reduceBEq,Int.reduceAdd,Int.reduceSub,Int.reduceLT,Int.reduceLE,Int.reduceEq,Int.reduceNeg,↓reduceIte,reduceCtorEq,scL,scD,expand,List.replicate])|apply gC_drawW|((first|apply gI_dec|apply gG_dec|apply gPG_dec|apply gI_var|apply gG_var|apply gPG_var)<;>intro _))
   refine callV_flat (by rw[hC];exact w2.flat rfl rfl) ?_
   repeat' (first|(simp (disch:=first|omega|assumption|exact bd (by with_unfolding_all rfl)|exact Or.inl rfl|exact Or.inl trivial|exact okL_map _ (fun _=>rfl) _|(simp only[VVlen]<;>omega)|fail) only[O1,VV0,VV1,VV2,VV3,VV4,VV5,VV6,VV7,VV8,VV9,mkFnV,vargs,slotsL,opdsA,Nat.reduceEqDiff,Nat.reduceLT,Nat.reduceAdd,Nat.reduceBEq,Int.reduceAdd,Int.reduceSub,Int.reduceLT,Int.reduceLE,Int.reduceEq,Int.reduceNeg,↓reduceIte,reduceCtorEq,scL,scD,expand,List.replicate])|apply gC_drawW|((first|apply gI_dec|apply gG_dec|apply gPG_dec|apply gI_var|apply gG_var|apply gPG_var)<;>intro _))
   exact weak_flat rfl h0 rfl
  cases b
  ·repeat' (first|(simp (disch:=first|omega|assumption|exact bd (by with_unfolding_all rfl)|exact Or.inl rfl|exact Or.inl trivial|exact okL_map _ (fun _=>rfl) _|(simp only[VVlen]<;>omega)|fail) only[O1,VV0,VV1,VV2,VV3,VV4,VV5,VV6,VV7,VV8,VV9,mkFnV,vargs,slotsL,opdsA,Nat.reduceEqDiff,Nat.reduceLT,Nat.reduceAdd,Nat.reduceBEq,Int.reduceAdd,Int.reduceSub,Int.reduceLT,Int.reduceLE,Int.reduceEq,Int.reduceNeg,↓reduceIte,reduceCtorEq,scL,scD,expand,List.replicate,c19])|apply gC_drawW|((first|apply gI_dec|apply gG_dec|apply gPG_dec|apply gI_var|apply gG_var|apply gPG_var)<;>intro _))
   all_goals try (exfalso;omega)
   refine callV_flat (by rw[hC];exact w1.flat rfl rfl) ?_
   repeat' (first|(simp (disch:=first|omega|assumption|exact bd (by with_unfolding_all rfl)|exact Or.inl rfl|exact Or.inl trivial|exact okL_map _ (fun _=>rfl) _|(simp only[VVlen]<;>omega)|fail) only[O1,VV0,VV1,VV2,VV3,VV4,VV5,VV6,VV7,VV8,VV9,mkFnV,vargs,slotsL,opdsA,Nat.reduceEqDiff,Nat.reduceLT,Nat.reduceAdd,Nat.reduceBEq,Int.reduceAdd,Int.reduceSub,Int.reduceLT,Int.reduceLE,Int.reduceEq,Int.reduceNeg,↓reduceIte,reduceCtorEq,scL,scD,expand,List.replicate])|apply gC_drawW|((first|apply gI_dec|apply gG_dec|apply gPG_dec|apply gI_var|apply gG_var|apply gPG_var)<;>intro _))
   refine callV_flat (by rw[hC];exact w2.flat rfl rfl) ?_
   repeat' (first|(simp (disch:=first|omega|assumption|exact bd (by with_unfolding_all rfl)|exact Or.inl rfl|exact Or.inl trivial|exact okL_map _ (fun _=>rfl) _|(simp only[VVlen]<;>omega)|fail) only[O1,VV0,VV1,VV2,VV3,VV4,VV5,VV6,VV7,VV8,VV9,mkFnV,vargs,slotsL,opdsA,Nat.reduceEqDiff,Nat.reduceLT,Nat.reduceAdd,Nat.reduceBEq,Int.reduceAdd,Int.reduceSub,Int.reduceLT,Int.reduceLE,Int.reduceEq,Int.reduceNeg,↓reduceIte,reduceCtorEq,scL,scD,expand,List.replicate])|apply gC_drawW|((first|apply gI_dec|apply gG_dec|apply gPG_dec|apply gI_var|apply gG_var|apply gPG_var)<;>intro _))
   exact weak_flat rfl h0 rfl
  have hb2:0≤p∨¬ M.length=N.length:=by simpa using hbad
  repeat' (first|(simp (disch:=first|omega|assumption|exact bd (by with_unfolding_all rfl)|exact Or.inl rfl|exact Or.inl trivial|exact okL_map _ (fun _=>rfl) _|(simp only[VVlen]<;>omega)|fail) only[O1,VV0,VV1,VV2,VV3,VV4,VV5,VV6,VV7,VV8,VV9,mkFnV,vargs,slotsL,opdsA,Nat.reduceEqDiff,Nat.reduceLT,Nat.reduceAdd,Nat.reduceBEq,Int.reduceAdd,Int.reduceSub,Int.reduceLT,Int.reduceLE,Int.reduceEq,Int.reduceNeg,↓reduceIte,reduceCtorEq,scL,scD,expand,List.replicate,c19])|apply gC_drawW|((first|apply gI_dec|apply gG_dec|apply gPG_dec|apply gI_var|apply gG_var|apply gPG_var)<;>intro _))
  all_goals try (exfalso;omega)
  refine callV_flat (by rw[hC];exact w1.flat rfl rfl) ?_
  repeat' (first|(simp (disch:=first|omega|assumption|exact bd (by with_unfolding_all rfl)|exact Or.inl rfl|exact Or.inl trivial|exact okL_map _ (fun _=>rfl) _|(simp only[VVlen]<;>omega)|fail) only[O1,VV0,VV1,VV2,VV3,VV4,VV5,VV6,VV7,VV8,VV9,mkFnV,vargs,slotsL,opdsA,Nat.reduceEqDiff,Nat.reduceLT,Nat.reduceAdd,Nat.reduceBEq,Int.reduceAdd,Int.reduceSub,Int.reduceLT,Int.reduceLE,Int.reduceEq,Int.reduceNeg,↓reduceIte,reduceCtorEq,scL,scD,expand,List.replicate])|apply gC_drawW|((first|apply gI_dec|apply gG_dec|apply gPG_dec|apply gI_var|apply gG_var|apply gPG_var)<;>intro _))
  refine callV_flat (by rw[hC];exact w2.flat rfl rfl) ?_
  repeat' (first|(simp (disch:=first|omega|assumption|exact bd (by with_unfolding_all rfl)|exact Or.inl rfl|exact Or.inl trivial|exact okL_map _ (fun _=>rfl) _|(simp only[VVlen]<;>omega)|fail) only[O1,VV0,VV1,VV2,VV3,VV4,VV5,VV6,VV7,VV8,VV9,mkFnV,vargs,slotsL,opdsA,Nat.reduceEqDiff,Nat.reduceLT,Nat.reduceAdd,Nat.reduceBEq,Int.reduceAdd,Int.reduceSub,Int.reduceLT,Int.reduceLE,Int.reduceEq,Int.reduceNeg,↓reduceIte,reduceCtorEq,scL,scD,expand,List.replicate])|apply gC_drawW|((first|apply gI_dec|apply gG_dec|apply gPG_dec|apply gI_var|apply gG_var|apply gPG_var)<;>intro _))
  refine callV_flat (by rw[hC];exact ix.flat rfl rfl) ?_
  repeat' (first|(simp (disch:=first|omega|assumption|exact bd (by with_unfolding_all rfl)|exact Or.inl rfl|exact Or.inl trivial|exact okL_map _ (fun _=>rfl) _|(simp only[VVlen]<;>omega)|fail) only[O1,VV0,VV1,VV2,VV3,VV4,VV5,VV6,VV7,VV8,VV9,mkFnV,vargs,slotsL,opdsA,Nat.reduceEqDiff,Nat.reduceLT,Nat.reduceAdd,Nat.reduceBEq,Int.reduceAdd,Int.reduceSub,Int.reduceLT,Int.reduceLE,Int.reduceEq,Int.reduceNeg,↓reduceIte,reduceCtorEq,scL,scD,expand,List.replicate])|apply gC_drawW|((first|apply gI_dec|apply gG_dec|apply gPG_dec|apply gI_var|apply gG_var|apply gPG_var)<;>intro _))
  all_goals try (exfalso;omega)
  all_goals exact weak_flat rfl h0 rfl
 have g3:wordsS S=true:=Decidable.byContradiction fun h=>hbad (.inl h)
 have g4:wordsS N=true:=Decidable.byContradiction fun h=>hbad (.inr (.inl h))
 have g5:¬ 0≤placeG N sizeL N.length:=fun h=>hbad (.inr (.inr (.inl h)))
 have g6:M.length=N.length:=Decidable.byContradiction fun h=>hbad (.inr (.inr (.inr h)))
 have echk:checkS S N M=if ∀ k,k<M.length→rowS M[k]! S.length=true then (if twiceS S=true∨twiceS N=true then 14 else 0) else 8:=by unfold checkS;rw[if_neg h1,if_neg hbad]
 rw[echk]
 rw[g3] at w1
 rw[g4] at w2
 clear hbad echk g3 g4
 generalize placeG N sizeL N.length=p at*
 generalize twiceS S=c at*
 generalize twiceS N=d at*
 repeat' (first|(simp (disch:=first|omega|assumption|exact bd (by with_unfolding_all rfl)|exact Or.inl rfl|exact Or.inl trivial|exact okL_map _ (fun _=>rfl) _|(simp only[VVlen]<;>omega)|fail) only[O1,VV0,VV1,VV2,VV3,VV4,VV5,VV6,VV7,VV8,VV9,mkFnV,vargs,slotsL,opdsA,Nat.reduceEqDiff,Nat.reduceLT,Nat.reduceAdd,Nat.reduceBEq,Int.reduceAdd,Int.reduceSub,Int.reduceLT,Int.reduceLE,Int.reduceEq,Int.reduceNeg,↓reduceIte,reduceCtorEq,scL,scD,expand,List.replicate,c19])|apply gC_drawW|((first|apply gI_dec|apply gG_dec|apply gPG_dec|apply gI_var|apply gG_var|apply gPG_var)<;>intro _))
 all_goals try (exfalso;omega)
 refine callV_flat (by rw[hC];exact w1.flat rfl rfl) ?_
 repeat' (first|(simp (disch:=first|omega|assumption|exact bd (by with_unfolding_all rfl)|exact Or.inl rfl|exact Or.inl trivial|exact okL_map _ (fun _=>rfl) _|(simp only[VVlen]<;>omega)|fail) only[O1,VV0,VV1,VV2,VV3,VV4,VV5,VV6,VV7,VV8,VV9,mkFnV,vargs,slotsL,opdsA,Nat.reduceEqDiff,Nat.reduceLT,Nat.reduceAdd,Nat.reduceBEq,Int.reduceAdd,Int.reduceSub,Int.reduceLT,Int.reduceLE,Int.reduceEq,Int.reduceNeg,↓reduceIte,reduceCtorEq,scL,scD,expand,List.replicate])|apply gC_drawW|((first|apply gI_dec|apply gG_dec|apply gPG_dec|apply gI_var|apply gG_var|apply gPG_var)<;>intro _))
 refine callV_flat (by rw[hC];exact w2.flat rfl rfl) ?_
 repeat' (first|(simp (disch:=first|omega|assumption|exact bd (by with_unfolding_all rfl)|exact Or.inl rfl|exact Or.inl trivial|exact okL_map _ (fun _=>rfl) _|(simp only[VVlen]<;>omega)|fail) only[O1,VV0,VV1,VV2,VV3,VV4,VV5,VV6,VV7,VV8,VV9,mkFnV,vargs,slotsL,opdsA,Nat.reduceEqDiff,Nat.reduceLT,Nat.reduceAdd,Nat.reduceBEq,Int.reduceAdd,Int.reduceSub,Int.reduceLT,Int.reduceLE,Int.reduceEq,Int.reduceNeg,↓reduceIte,reduceCtorEq,scL,scD,expand,List.replicate])|apply gC_drawW|((first|apply gI_dec|apply gG_dec|apply gPG_dec|apply gI_var|apply gG_var|apply gPG_var)<;>intro _))
 refine callV_flat (by rw[hC];exact ix.flat rfl rfl) ?_
 repeat' (first|(simp (disch:=first|omega|assumption|exact bd (by with_unfolding_all rfl)|exact Or.inl rfl|exact Or.inl trivial|exact okL_map _ (fun _=>rfl) _|(simp only[VVlen]<;>omega)|fail) only[O1,VV0,VV1,VV2,VV3,VV4,VV5,VV6,VV7,VV8,VV9,mkFnV,vargs,slotsL,opdsA,Nat.reduceEqDiff,Nat.reduceLT,Nat.reduceAdd,Nat.reduceBEq,Int.reduceAdd,Int.reduceSub,Int.reduceLT,Int.reduceLE,Int.reduceEq,Int.reduceNeg,↓reduceIte,reduceCtorEq,scL,scD,expand,List.replicate])|apply gC_drawW|((first|apply gI_dec|apply gG_dec|apply gPG_dec|apply gI_var|apply gG_var|apply gPG_var)<;>intro _))
 all_goals try (exfalso;omega)
 refine g_while (fun m fr st=>∃ k:Nat,m=M.length - k∧k≤M.length∧fr= [(1,.ptr 0 0),(4,.sc (.bool c)),(6,.sc (.bool d)),(56,rowsV u r M),(57,.sc (.int .i64 M.length)),(58,.sc (.int .i64 k))]∧st=⟨[(0,tabO s t u r S N M)],1,0⟩∧∀ j,j<k→rowS M[j]! S.length=true) M.length ?_ ⟨_,_,.refl _ _,0,by omega,Nat.zero_le _,rfl,rfl,by omega⟩ ?_
 ·rw[hC,callP_rounds];unfold many;omega
 rintro m fr st ⟨k,rfl,hk,rfl,rfl,hj⟩
 by_cases hlt:k<M.length
 case neg=>
  have:k=M.length:=by omega
  subst this
  rw[if_pos hj]
  cases c<;>cases d
  all_goals
   repeat' (first|(simp (disch:=first|omega|assumption|exact bd (by with_unfolding_all rfl)|exact Or.inl rfl|exact Or.inl trivial|exact okL_map _ (fun _=>rfl) _|(simp only[VVlen]<;>omega)|fail) only[O1,VV0,VV1,VV2,VV3,VV4,VV5,VV6,VV7,VV8,VV9,mkFnV,vargs,slotsL,opdsA,Nat.reduceEqDiff,Nat.reduceLT,Nat.reduceAdd,Nat.reduceBEq,Int.reduceAdd,Int.reduceSub,Int.reduceLT,Int.reduceLE,Int.reduceEq,Int.reduceNeg,↓reduceIte,reduceCtorEq,scL,scD,expand,List.replicate,c19l1])|apply gC_drawW|((first|apply gI_dec|apply gG_dec|apply gPG_dec|apply gI_var|apply gG_var|apply gPG_var)<;>intro _))
   exact weak_flat rfl h0 rfl
 have hgo:=fun h=>lt_succ_cases hj (k:=k) h
 have hrow:rowS M[k]! S.length=true↔M[k]!.length=S.length∧rowTo M[k]! M[k]!.length:=by simp[rowS,rowTo]
 have fail:¬ rowS M[k]! S.length=true→(if ∀ k,k<M.length→rowS M[k]! S.length=true then (if c=true∨d=true then (14:Int) else 0) else 8)=8:=fun hw=>if_neg fun hh=>hw (hh k hlt)
 have hzl:=m6 k hlt
 by_cases hn:M[k]!.length=S.length
 case neg=>
  rw[fail (fun h=>hn (hrow.1 h).1)]
  generalize hX:M[k]! =X at*
  repeat' (first|(simp (disch:=first|omega|assumption|exact bd (by with_unfolding_all rfl)|exact Or.inl rfl|exact Or.inl trivial|exact okL_map _ (fun _=>rfl) _|(simp only[VVlen]<;>omega)|fail) only[O1,VV0,VV1,VV2,VV3,VV4,VV5,VV6,VV7,VV8,VV9,mkFnV,vargs,slotsL,opdsA,Nat.reduceEqDiff,Nat.reduceLT,Nat.reduceAdd,Nat.reduceBEq,Int.reduceAdd,Int.reduceSub,Int.reduceLT,Int.reduceLE,Int.reduceEq,Int.reduceNeg,↓reduceIte,reduceCtorEq,scL,scD,expand,List.replicate,c19l1,rowI_dv,hX])|apply gC_drawW|((first|apply gI_dec|apply gG_dec|apply gPG_dec|apply gI_var|apply gG_var|apply gPG_var)<;>intro _))
  all_goals try (exfalso;omega)
  exact weak_flat rfl h0 rfl
 generalize hX:M[k]! =X at*
 repeat' (first|(simp (disch:=first|omega|assumption|exact bd (by with_unfolding_all rfl)|exact Or.inl rfl|exact Or.inl trivial|exact okL_map _ (fun _=>rfl) _|(simp only[VVlen]<;>omega)|fail) only[O1,VV0,VV1,VV2,VV3,VV4,VV5,VV6,VV7,VV8,VV9,mkFnV,vargs,slotsL,opdsA,Nat.reduceEqDiff,Nat.reduceLT,Nat.reduceAdd,Nat.reduceBEq,Int.reduceAdd,Int.reduceSub,Int.reduceLT,Int.reduceLE,Int.reduceEq,Int.reduceNeg,↓reduceIte,reduceCtorEq,scL,scD,expand,List.replicate,c19l1,rowI_dv,hX])|apply gC_drawW|((first|apply gI_dec|apply gG_dec|apply gPG_dec|apply gI_var|apply gG_var|apply gPG_var)<;>intro _))
 all_goals try (exfalso;omega)
 refine g_while (fun m fr st=>∃ (i:Nat) (last:Int),m=X.length - i∧i≤X.length∧fr= [(1,.ptr 0 0),(4,.sc (.bool c)),(6,.sc (.bool d)),(9,.sc (.int .i64 last)),(56,rowsV u r M),(57,.sc (.int .i64 M.length)),(58,.sc (.int .i64 k)),(68,intsV r X),(69,.sc (.int .i64 X.length)),(70,.sc (.int .i64 i))]∧st=⟨[(0,tabO s t u r S N M)],1,0⟩∧rowTo X i∧last=if i=0 then 0 else X[i - 1]!) X.length ?_ ⟨_,_,.refl _ _,0,0,by omega,Nat.zero_le _,rfl,rfl,fun j hj=>absurd hj (Nat.not_lt_zero _),rfl⟩ ?_
 ·rw[hC,callP_rounds];unfold many;omega
 rintro m fr st ⟨i,last,rfl,hi,rfl,rfl,hrt,hla⟩
 by_cases hil:i<X.length
 ·have hlast:last=if i=0 then 0 else X[i - 1]! :=hla
  have hnx:X[i]! =if i+1=0 then 0 else X[i+1 - 1]! :=by rw[if_neg (by omega)];rfl
  by_cases hok:last≤X[i]! ∧X[i]! ≤1000000
  ·obtain ⟨ha,hb⟩:=hok
   have hrt2:rowTo X (i+1):=lt_succ_cases hrt ⟨by
    by_cases h0:i=0
    ·rw[if_pos h0] at hlast;omega
    ·rw[if_neg h0] at hlast
     have:=(hrt (i - 1) (by omega)).1
     omega,hb,fun h0=>by rw[if_neg (by omega)] at hlast;omega⟩
   clear hla
   generalize hY:X[i]! =Y at*
   repeat' (first|(simp (disch:=first|omega|assumption|exact bd (by with_unfolding_all rfl)|exact Or.inl rfl|exact Or.inl trivial|exact okL_map _ (fun _=>rfl) _|(simp only[VVlen]<;>omega)|fail) only[O1,VV0,VV1,VV2,VV3,VV4,VV5,VV6,VV7,VV8,VV9,mkFnV,vargs,slotsL,opdsA,Nat.reduceEqDiff,Nat.reduceLT,Nat.reduceAdd,Nat.reduceBEq,Int.reduceAdd,Int.reduceSub,Int.reduceLT,Int.reduceLE,Int.reduceEq,Int.reduceNeg,↓reduceIte,reduceCtorEq,scL,scD,expand,List.replicate,c19l0,iD_dv,hY])|apply gC_drawW|((first|apply gI_dec|apply gG_dec|apply gPG_dec|apply gI_var|apply gG_var|apply gPG_var)<;>intro _))
   all_goals try (exfalso;omega)
   exact ⟨_,_,_,by omega,.refl _ _,i+1,Y,rfl,hil,rfl,rfl,hrt2,hnx⟩
  ·have hbad8:¬ rowS X S.length=true:=fun hh=>by
    have:=(hrow.1 hh).2 i hil
    apply hok
    by_cases h0:i=0
    ·rw[if_pos h0] at hlast;omega
    ·rw[if_neg h0] at hlast;have:=this.2.2 (by omega);omega
   rw[fail hbad8]
   generalize hY:X[i]! =Y at*
   by_cases ha:Y<last
   ·repeat' (first|(simp (disch:=first|omega|assumption|exact bd (by with_unfolding_all rfl)|exact Or.inl rfl|exact Or.inl trivial|exact okL_map _ (fun _=>rfl) _|(simp only[VVlen]<;>omega)|fail) only[O1,VV0,VV1,VV2,VV3,VV4,VV5,VV6,VV7,VV8,VV9,mkFnV,vargs,slotsL,opdsA,Nat.reduceEqDiff,Nat.reduceLT,Nat.reduceAdd,Nat.reduceBEq,Int.reduceAdd,Int.reduceSub,Int.reduceLT,Int.reduceLE,Int.reduceEq,Int.reduceNeg,↓reduceIte,reduceCtorEq,scL,scD,expand,List.replicate,c19l0,iD_dv,hY])|apply gC_drawW|((first|apply gI_dec|apply gG_dec|apply gPG_dec|apply gI_var|apply gG_var|apply gPG_var)<;>intro _))
    all_goals try (exfalso;omega)
    all_goals exact weak_flat rfl h0 rfl
   ·have hb:1000000<Y:=by omega
    repeat' (first|(simp (disch:=first|omega|assumption|exact bd (by with_unfolding_all rfl)|exact Or.inl rfl|exact Or.inl trivial|exact okL_map _ (fun _=>rfl) _|(simp only[VVlen]<;>omega)|fail) only[O1,VV0,VV1,VV2,VV3,VV4,VV5,VV6,VV7,VV8,VV9,mkFnV,vargs,slotsL,opdsA,Nat.reduceEqDiff,Nat.reduceLT,Nat.reduceAdd,Nat.reduceBEq,Int.reduceAdd,Int.reduceSub,Int.reduceLT,Int.reduceLE,Int.reduceEq,Int.reduceNeg,↓reduceIte,reduceCtorEq,scL,scD,expand,List.replicate,c19l0,iD_dv,hY])|apply gC_drawW|((first|apply gI_dec|apply gG_dec|apply gPG_dec|apply gI_var|apply gG_var|apply gPG_var)<;>intro _))
    all_goals try (exfalso;omega)
    all_goals exact weak_flat rfl h0 rfl
 ·have:i=X.length:=by omega
  subst this
  repeat' (first|(simp (disch:=first|omega|assumption|exact bd (by with_unfolding_all rfl)|exact Or.inl rfl|exact Or.inl trivial|exact okL_map _ (fun _=>rfl) _|(simp only[VVlen]<;>omega)|fail) only[O1,VV0,VV1,VV2,VV3,VV4,VV5,VV6,VV7,VV8,VV9,mkFnV,vargs,slotsL,opdsA,Nat.reduceEqDiff,Nat.reduceLT,Nat.reduceAdd,Nat.reduceBEq,Int.reduceAdd,Int.reduceSub,Int.reduceLT,Int.reduceLE,Int.reduceEq,Int.reduceNeg,↓reduceIte,reduceCtorEq,scL,scD,expand,List.replicate,c19l0,iD_dv])|apply gC_drawW|((first|apply gI_dec|apply gG_dec|apply gPG_dec|apply gI_var|apply gG_var|apply gPG_var)<;>intro _))
  exact ⟨_,_,_,by omega,.refl _ _,k+1,rfl,hlt,rfl,rfl,hgo (hrow.2 ⟨hn,hrt⟩)⟩
end
end Go.Proofs.YteibgbbfcjgjiaaDoor
namespace Go.Proofs.YteibgbbfcjgjiaaDoor
open Go Go.Itp
set_option maxRecDepth 100000
set_option maxHeartbeats 2000000
set_option linter.unusedSimpArgs false
set_option linter.unusedVariables false
def greatS (S N:List (List UInt8)) (M:List (List Int)):Bool:=
 decide (30<S.length∨40<N.length∨40<M.length∨(∃ j,j<S.length∧60<S[j]!.length)∨(∃ j,j<N.length∧60<N[j]!.length)∨∃ j,j<M.length∧40<M[j]!.length)
section
variable (w:World) (n:Nat)
theorem great_p (s t u r:Nat) (S N:List (List UInt8)) (M:List (List Int)) (hm:S.length≤140737488351232∧N.length≤140737488351232∧M.length≤140737488351232) (zs:∀ j,j<S.length→S[j]!.length≤140737488351232) (zn:∀ j,j<N.length→N[j]!.length≤140737488351232) (zm:∀ j,j<M.length→M[j]!.length≤140737488351232):VSpec (EN w (n+1)) 9 [tableV s t u r S N M] (.sc (.bool (greatS S N M))) ⟨[],0,0⟩:=by
 refine vspec_flat rfl rfl (fun _ _=>rfl) (Nat.le_of_ble_eq_true rfl) (oldVals w) rfl fun C hC h0=>?_
 have yes:(30<S.length∨40<N.length∨40<M.length∨(∃ j,j<S.length∧60<S[j]!.length)∨(∃ j,j<N.length∧60<N[j]!.length)∨∃ j,j<M.length∧40<M[j]!.length)→greatS S N M=true:=fun h=>decide_eq_true h
 by_cases h1:30<S.length∨40<N.length∨40<M.length
 ·rw[yes (by omega)]
  repeat' (first|(simp (disch:=first|omega|assumption|exact bd (by with_unfolding_all rfl)|exact Or.inl rfl|exact Or.inl trivial|exact okL_map _ (fun _=>rfl) _|(simp only[VVlen]<;>omega)|fail) only[O1,VV0,VV1,VV2,VV3,VV4,VV5,VV6,VV7,VV8,VV9,mkFnV,vargs,slotsL,opdsA,Nat.reduceEqDiff,Nat.reduceLT,Nat.reduceAdd,Nat.reduceBEq,Int.reduceAdd,Int.reduceSub,Int.reduceLT,Int.reduceLE,Int.reduceEq,Int.reduceNeg,↓reduceIte,reduceCtorEq,scL,scD,expand,List.replicate,c9])|apply gC_drawW|((first|apply gI_dec|apply gG_dec|apply gPG_dec|apply gI_var|apply gG_var|apply gPG_var)<;>intro _))
  all_goals try (exfalso;omega)
  all_goals exact weak_flat rfl h0 rfl
 repeat' (first|(simp (disch:=first|omega|assumption|exact bd (by with_unfolding_all rfl)|exact Or.inl rfl|exact Or.inl trivial|exact okL_map _ (fun _=>rfl) _|(simp only[VVlen]<;>omega)|fail) only[O1,VV0,VV1,VV2,VV3,VV4,VV5,VV6,VV7,VV8,VV9,mkFnV,vargs,slotsL,opdsA,Nat.reduceEqDiff,Nat.reduceLT,Nat.reduceAdd,Nat.reduceBEq,Int.reduceAdd,Int.reduceSub,Int.reduceLT,Int.reduceLE,Int.reduceEq,Int.reduceNeg,↓reduceIte,reduceCtorEq,scL,scD,expand,List.replicate,c9])|apply gC_drawW|((first|apply gI_dec|apply gG_dec|apply gPG_dec|apply gI_var|apply gG_var|apply gPG_var)<;>intro _))
 all_goals try (exfalso;omega)
 refine g_while (fun m fr st=>∃ k:Nat,m=S.length - k∧k≤S.length∧fr= [(1,.ptr 0 0),(3,.sc (.int .i64 k))]∧st=⟨[(0,tabO s t u r S N M)],1,0⟩∧∀ j,j<k→¬ 60<S[j]!.length) S.length ?_ ⟨_,_,.refl _ _,0,by omega,Nat.zero_le _,rfl,rfl,by omega⟩ ?_
 ·rw[hC,callP_rounds];unfold many;omega
 rintro m fr st ⟨k,rfl,hk,rfl,rfl,hj⟩
 by_cases hlt:k<S.length
 ·have hz:=zs k hlt
  have hsz:=mk_size S[k]!
  by_cases hb:60<S[k]!.length
  ·rw[yes (.inr (.inr (.inr (.inl ⟨k,hlt,hb⟩))))]
   generalize hX:S[k]! =X at*
   repeat' (first|(simp (disch:=first|omega|assumption|exact bd (by with_unfolding_all rfl)|exact Or.inl rfl|exact Or.inl trivial|exact okL_map _ (fun _=>rfl) _|(simp only[VVlen]<;>omega)|fail) only[O1,VV0,VV1,VV2,VV3,VV4,VV5,VV6,VV7,VV8,VV9,mkFnV,vargs,slotsL,opdsA,Nat.reduceEqDiff,Nat.reduceLT,Nat.reduceAdd,Nat.reduceBEq,Int.reduceAdd,Int.reduceSub,Int.reduceLT,Int.reduceLE,Int.reduceEq,Int.reduceNeg,↓reduceIte,reduceCtorEq,scL,scD,expand,List.replicate,c9l2,sD_dv,hX])|apply gC_drawW|((first|apply gI_dec|apply gG_dec|apply gPG_dec|apply gI_var|apply gG_var|apply gPG_var)<;>intro _))
   all_goals try (exfalso;omega)
   exact weak_flat rfl h0 rfl
  ·have hj:=lt_succ_cases hj hb
   generalize hX:S[k]! =X at*
   repeat' (first|(simp (disch:=first|omega|assumption|exact bd (by with_unfolding_all rfl)|exact Or.inl rfl|exact Or.inl trivial|exact okL_map _ (fun _=>rfl) _|(simp only[VVlen]<;>omega)|fail) only[O1,VV0,VV1,VV2,VV3,VV4,VV5,VV6,VV7,VV8,VV9,mkFnV,vargs,slotsL,opdsA,Nat.reduceEqDiff,Nat.reduceLT,Nat.reduceAdd,Nat.reduceBEq,Int.reduceAdd,Int.reduceSub,Int.reduceLT,Int.reduceLE,Int.reduceEq,Int.reduceNeg,↓reduceIte,reduceCtorEq,scL,scD,expand,List.replicate,c9l2,sD_dv,hX])|apply gC_drawW|((first|apply gI_dec|apply gG_dec|apply gPG_dec|apply gI_var|apply gG_var|apply gPG_var)<;>intro _))
   all_goals try (exfalso;omega)
   exact ⟨_,_,_,by omega,.refl _ _,k+1,rfl,hlt,rfl,rfl,hj⟩
 have:k=S.length:=by omega
 subst this
 repeat' (first|(simp (disch:=first|omega|assumption|exact bd (by with_unfolding_all rfl)|exact Or.inl rfl|exact Or.inl trivial|exact okL_map _ (fun _=>rfl) _|(simp only[VVlen]<;>omega)|fail) only[O1,VV0,VV1,VV2,VV3,VV4,VV5,VV6,VV7,VV8,VV9,mkFnV,vargs,slotsL,opdsA,Nat.reduceEqDiff,Nat.reduceLT,Nat.reduceAdd,Nat.reduceBEq,Int.reduceAdd,Int.reduceSub,Int.reduceLT,Int.reduceLE,Int.reduceEq,Int.reduceNeg,↓reduceIte,reduceCtorEq,scL,scD,expand,List.replicate,c9l2])|apply gC_drawW|((first|apply gI_dec|apply gG_dec|apply gPG_dec|apply gI_var|apply gG_var|apply gPG_var)<;>intro _))
 all_goals try (exfalso;omega)
 refine g_while (fun m fr st=>∃ k:Nat,m=N.length - k∧k≤N.length∧fr= [(1,.ptr 0 0),(4,.sc (.int .i64 k))]∧st=⟨[(0,tabO s t u r S N M)],1,0⟩∧∀ j,j<k→¬ 60<N[j]!.length) N.length ?_ ⟨_,_,.refl _ _,0,by omega,Nat.zero_le _,rfl,rfl,by omega⟩ ?_
 ·rw[hC,callP_rounds];unfold many;omega
 rintro m fr st ⟨k,rfl,hk,rfl,rfl,hj2⟩
 by_cases hlt:k<N.length
 ·have hz:=zn k hlt
  have hsz:=mk_size N[k]!
  by_cases hb:60<N[k]!.length
  ·rw[yes (.inr (.inr (.inr (.inr (.inl ⟨k,hlt,hb⟩)))))]
   generalize hX:N[k]! =X at*
   repeat' (first|(simp (disch:=first|omega|assumption|exact bd (by with_unfolding_all rfl)|exact Or.inl rfl|exact Or.inl trivial|exact okL_map _ (fun _=>rfl) _|(simp only[VVlen]<;>omega)|fail) only[O1,VV0,VV1,VV2,VV3,VV4,VV5,VV6,VV7,VV8,VV9,mkFnV,vargs,slotsL,opdsA,Nat.reduceEqDiff,Nat.reduceLT,Nat.reduceAdd,Nat.reduceBEq,Int.reduceAdd,Int.reduceSub,Int.reduceLT,Int.reduceLE,Int.reduceEq,Int.reduceNeg,↓reduceIte,reduceCtorEq,scL,scD,expand,List.replicate,c9l1,sD_dv,hX])|apply gC_drawW|((first|apply gI_dec|apply gG_dec|apply gPG_dec|apply gI_var|apply gG_var|apply gPG_var)<;>intro _))
   all_goals try (exfalso;omega)
   exact weak_flat rfl h0 rfl
  ·have hj:=lt_succ_cases hj2 hb
   generalize hX:N[k]! =X at*
   repeat' (first|(simp (disch:=first|omega|assumption|exact bd (by with_unfolding_all rfl)|exact Or.inl rfl|exact Or.inl trivial|exact okL_map _ (fun _=>rfl) _|(simp only[VVlen]<;>omega)|fail) only[O1,VV0,VV1,VV2,VV3,VV4,VV5,VV6,VV7,VV8,VV9,mkFnV,vargs,slotsL,opdsA,Nat.reduceEqDiff,Nat.reduceLT,Nat.reduceAdd,Nat.reduceBEq,Int.reduceAdd,Int.reduceSub,Int.reduceLT,Int.reduceLE,Int.reduceEq,Int.reduceNeg,↓reduceIte,reduceCtorEq,scL,scD,expand,List.replicate,c9l1,sD_dv,hX])|apply gC_drawW|((first|apply gI_dec|apply gG_dec|apply gPG_dec|apply gI_var|apply gG_var|apply gPG_var)<;>intro _))
   all_goals try (exfalso;omega)
   exact ⟨_,_,_,by omega,.refl _ _,k+1,rfl,hlt,rfl,rfl,hj⟩
 have:k=N.length:=by omega
 subst this
 repeat' (first|(simp (disch:=first|omega|assumption|exact bd (by with_unfolding_all rfl)|exact Or.inl rfl|exact Or.inl trivial|exact okL_map _ (fun _=>rfl) _|(simp only[VVlen]<;>omega)|fail) only[O1,VV0,VV1,VV2,VV3,VV4,VV5,VV6,VV7,VV8,VV9,mkFnV,vargs,slotsL,opdsA,Nat.reduceEqDiff,Nat.reduceLT,Nat.reduceAdd,Nat.reduceBEq,Int.reduceAdd,Int.reduceSub,Int.reduceLT,Int.reduceLE,Int.reduceEq,Int.reduceNeg,↓reduceIte,reduceCtorEq,scL,scD,expand,List.replicate,c9l1])|apply gC_drawW|((first|apply gI_dec|apply gG_dec|apply gPG_dec|apply gI_var|apply gG_var|apply gPG_var)<;>intro _))
 all_goals try (exfalso;omega)
 refine g_while (fun m fr st=>∃ k:Nat,m=M.length - k∧k≤M.length∧fr= [(1,.ptr 0 0),(5,.sc (.int .i64 k))]∧st=⟨[(0,tabO s t u r S N M)],1,0⟩∧∀ j,j<k→¬ 40<M[j]!.length) M.length ?_ ⟨_,_,.refl _ _,0,by omega,Nat.zero_le _,rfl,rfl,by omega⟩ ?_
 ·rw[hC,callP_rounds];unfold many;omega
 rintro m fr st ⟨k,rfl,hk,rfl,rfl,hj3⟩
 by_cases hlt:k<M.length
 ·have hz:=zm k hlt
  by_cases hb:40<M[k]!.length
  ·rw[yes (.inr (.inr (.inr (.inr (.inr ⟨k,hlt,hb⟩)))))]
   generalize hX:M[k]! =X at*
   repeat' (first|(simp (disch:=first|omega|assumption|exact bd (by with_unfolding_all rfl)|exact Or.inl rfl|exact Or.inl trivial|exact okL_map _ (fun _=>rfl) _|(simp only[VVlen]<;>omega)|fail) only[O1,VV0,VV1,VV2,VV3,VV4,VV5,VV6,VV7,VV8,VV9,mkFnV,vargs,slotsL,opdsA,Nat.reduceEqDiff,Nat.reduceLT,Nat.reduceAdd,Nat.reduceBEq,Int.reduceAdd,Int.reduceSub,Int.reduceLT,Int.reduceLE,Int.reduceEq,Int.reduceNeg,↓reduceIte,reduceCtorEq,scL,scD,expand,List.replicate,c9l0,rowI_dv,hX])|apply gC_drawW|((first|apply gI_dec|apply gG_dec|apply gPG_dec|apply gI_var|apply gG_var|apply gPG_var)<;>intro _))
   all_goals try (exfalso;omega)
   exact weak_flat rfl h0 rfl
  ·have hj:=lt_succ_cases hj3 hb
   generalize hX:M[k]! =X at*
   repeat' (first|(simp (disch:=first|omega|assumption|exact bd (by with_unfolding_all rfl)|exact Or.inl rfl|exact Or.inl trivial|exact okL_map _ (fun _=>rfl) _|(simp only[VVlen]<;>omega)|fail) only[O1,VV0,VV1,VV2,VV3,VV4,VV5,VV6,VV7,VV8,VV9,mkFnV,vargs,slotsL,opdsA,Nat.reduceEqDiff,Nat.reduceLT,Nat.reduceAdd,Nat.reduceBEq,Int.reduceAdd,Int.reduceSub,Int.reduceLT,Int.reduceLE,Int.reduceEq,Int.reduceNeg,↓reduceIte,reduceCtorEq,scL,scD,expand,List.replicate,c9l0,rowI_dv,hX])|apply gC_drawW|((first|apply gI_dec|apply gG_dec|apply gPG_dec|apply gI_var|apply gG_var|apply gPG_var)<;>intro _))
   all_goals try (exfalso;omega)
   exact ⟨_,_,_,by omega,.refl _ _,k+1,rfl,hlt,rfl,rfl,hj⟩
 have:k=M.length:=by omega
 subst this
 have e:greatS S N M=false:=decide_eq_false (by
  rintro (h|h|h|⟨j,h,h'⟩|⟨j,h,h'⟩|⟨j,h,h'⟩)
  ·omega
  ·omega
  ·omega
  ·exact hj j h h'
  ·exact hj2 j h h'
  ·exact hj3 j h h')
 rw[e]
 repeat' (first|(simp (disch:=first|omega|assumption|exact bd (by with_unfolding_all rfl)|exact Or.inl rfl|exact Or.inl trivial|exact okL_map _ (fun _=>rfl) _|(simp only[VVlen]<;>omega)|fail) only[O1,VV0,VV1,VV2,VV3,VV4,VV5,VV6,VV7,VV8,VV9,mkFnV,vargs,slotsL,opdsA,Nat.reduceEqDiff,Nat.reduceLT,Nat.reduceAdd,Nat.reduceBEq,Int.reduceAdd,Int.reduceSub,Int.reduceLT,Int.reduceLE,Int.reduceEq,Int.reduceNeg,↓reduceIte,reduceCtorEq,scL,scD,expand,List.replicate,c9l0])|apply gC_drawW|((first|apply gI_dec|apply gG_dec|apply gPG_dec|apply gI_var|apply gG_var|apply gPG_var)<;>intro _))
 all_goals try (exfalso;omega)
 exact weak_flat rfl h0 rfl
end
end Go.Proofs.YteibgbbfcjgjiaaDoor
namespace Go.Proofs.YteibgbbfcjgjiaaDoor
open Go Go.Itp
set_option maxRecDepth 100000
set_option linter.unusedSimpArgs false
set_option linter.unusedVariables false
abbrev Tb:=List (List UInt8) × List (List UInt8) × List (List Int)
def spT (l:List (List UInt8)):List UInt8:=(l.map (32::·)).flatten
def fed (ls:List (List UInt8)):List UInt8:=(ls.map (· ++ [10])).flatten
def headT (S:List (List UInt8)):List UInt8:=sizeL++spT S
def rowT (name:List UInt8) (l:List Int):List UInt8:=name++spT (l.map Lib.itoa)
def rowsT:List (List UInt8)→List (List Int)→List (List UInt8)
 |x::N,l::M=>rowT x l::rowsT N M
 |_,_=> []
def textT (t:Tb):List UInt8:=fed (headT t.1::rowsT t.2.1 t.2.2)
def textF (t:Tb):List UInt8 × Int:=if checkS t.1 t.2.1 t.2.2 ≠ 0 then ([],checkS t.1 t.2.1 t.2.2) else if 8000<(textT t).length then ([],4) else (textT t,0)
def numA (l:List UInt8):Option Int:=match Lib.atoiAll l with
 | .ok v=>some v
 |_=>none
theorem numA_ok {l:List UInt8} {v:Int} (h:numA l=some v):Lib.atoiAll l= .ok v:=by
 unfold numA at h
 split at h
 ·rename_i u hu;cases h;exact hu
 ·cases h
theorem numA_none {l:List UInt8} (h:numA l=none) (v:Int):Lib.atoiAll l ≠ .ok v:=by
 intro e
 unfold numA at h
 rw[e] at h
 cases h
def numR (l:List UInt8):Option Int:=if l ≠ []∧l.length≤7∧(1<l.length→l[0]! ≠ 48)∧l.all isDig=true then some (((Lib.decFrom 0 l).getD 0:Nat):Int) else none
def allN (f:List UInt8→Option Int):List (List UInt8)→Option (List Int)
 | []=>some []
 |x::r=>(f x).bind fun v=>(allN f r).map (v::·)
def rowL (f:List UInt8→Option Int):List (List UInt8)→Option (List (List UInt8) × List (List Int))
 | []=>some ([],[])
 |x::r=>(allN f (words 32 x).tail).bind fun l=>(rowL f r).map fun p=>((words 32 x)[0]! ::p.1,l::p.2)
def trimS (s:List UInt8):List UInt8:=if s.getLast? =some 10 then s.dropLast else s
def rawP (s:List UInt8):Option Tb:=(rowL numA (words 10 (trimS s)).tail).map fun p=>((words 32 (words 10 (trimS s))[0]!).tail,p.1,p.2)
def rawR (s:List UInt8):Option Tb:=if s.getLast? =some 10∧(words 32 (words 10 s.dropLast)[0]!)[0]! =sizeL then (rowL numR (words 10 s.dropLast).tail).map fun p=>((words 32 (words 10 s.dropLast)[0]!).tail,p.1,p.2) else none
def accF (raw:Option Tb) (s:List UInt8):Option Tb:=raw.bind fun t=>if s.length≤8000∧textF t=(s,0) then some t else none
theorem sp_join:∀ (x:List UInt8) (l:List (List UInt8)),x++spT l=join 32 (x::l)
 |x,[]=>by simp[spT,join]
 |x,y::l=>by
  rw[join,← sp_join y l]
  simp[spT]
theorem words_sp {x:List UInt8} {l:List (List UInt8)} (hx:(32:UInt8) ∉ x) (hl:∀ y ∈ l,(32:UInt8) ∉ y):words 32 (x++spT l)=x::l:=by
 rw[sp_join]
 exact words_join (by simp) fun y hy=>by
  rcases List.mem_cons.1 hy with rfl|hy
  ·exact hx
  ·exact hl y hy
theorem fed_join:∀ (ls:List (List UInt8)),ls ≠ []→fed ls=join 10 ls++ [10]
 | [],h=>absurd rfl h
 | [x],_=>by simp[fed,join]
 |x::y::ls,_=>by
  have:=fed_join (y::ls) (by simp)
  rw[join]
  simp only[fed,List.map_cons,List.flatten_cons,List.append_assoc,List.cons_append,List.nil_append] at this ⊢
  rw[this]
theorem words_fed {ls:List (List UInt8)} (hne:ls ≠ []) (hl:∀ x ∈ ls,(10:UInt8) ∉ x):words 10 (fed ls).dropLast=ls∧(fed ls).getLast? =some 10:=by
 rw[fed_join ls hne]
 exact ⟨by rw[List.dropLast_concat];exact words_join hne hl,by simp⟩
theorem wch_no {b:UInt8} (h:wch b=true):b ≠ 10∧b ≠ 32:=by
 constructor
 ·rintro rfl;revert h;decide
 ·rintro rfl;revert h;decide
theorem word_no {s:List UInt8} (h:wordS s=true):(10:UInt8) ∉ s∧(32:UInt8) ∉ s:=by
 have h2:=(of_decide_eq_true h).2.2
 have:∀ b ∈ s,wch b=true:=fun b hb=>by
  obtain ⟨i,hi,rfl⟩:=List.getElem_of_mem hb
  have:=h2 i hi
  rw[getElem!_pos s i hi] at this
  exact this
 exact ⟨fun hm=>(wch_no (this _ hm)).1 rfl,fun hm=>(wch_no (this _ hm)).2 rfl⟩
theorem itoa_no {v:Int} (h:0≤v):(10:UInt8) ∉ Lib.itoa v∧(32:UInt8) ∉ Lib.itoa v:=by
 constructor
 ·intro hm;have:=itoa_dig h _ hm;revert this;decide
 ·intro hm;have:=itoa_dig h _ hm;revert this;decide
theorem words_mem_of {l:List (List UInt8)} (h:wordsS l=true):∀ x ∈ l,wordS x=true:=fun x hx=>by
 obtain ⟨i,hi,rfl⟩:=List.getElem_of_mem hx
 have:=((wF_iff l l.length).1 h).2 i hi
 rw[getElem!_pos l i hi] at this
 exact this
theorem row_mem {l:List Int} {n:Nat} (h:rowS l n=true):∀ v ∈ l,0≤v∧v≤1000000:=fun v hv=>by
 obtain ⟨i,hi,rfl⟩:=List.getElem_of_mem hv
 have:=(of_decide_eq_true h).2 i hi
 rw[getElem!_pos l i hi] at this
 exact ⟨this.1,this.2.1⟩
structure Good (S N:List (List UInt8)) (M:List (List Int)):Prop where
 s:S.length≤20
 n:N.length≤30
 m:M.length=N.length
 ws:∀ x ∈ S,wordS x=true
 wn:∀ x ∈ N,wordS x=true
 r:∀ l ∈ M,∀ v ∈ l,0≤v∧v≤1000000
 rl:∀ l ∈ M,l.length=S.length
 s1:0<S.length
theorem check_good {S N:List (List UInt8)} {M:List (List Int)} (h:checkS S N M=0):Good S N M:=by
 unfold checkS at h
 split at h
 ·omega
 ·rename_i h1
  split at h
  ·omega
  ·rename_i h2
   split at h
   ·rename_i h3
    have g1:wordsS S=true:=Decidable.byContradiction fun hh=>h2 (.inl hh)
    have g2:wordsS N=true:=Decidable.byContradiction fun hh=>h2 (.inr (.inl hh))
    have hr:∀ l ∈ M,rowS l S.length=true:=fun l hl=>by
     obtain ⟨i,hi,rfl⟩:=List.getElem_of_mem hl
     have:=h3 i hi
     rw[getElem!_pos M i hi] at this
     exact this
    exact ⟨by omega,by omega,Decidable.byContradiction fun hh=>h2 (.inr (.inr (.inr hh))),words_mem_of g1,words_mem_of g2,fun l hl=>row_mem (hr l hl),fun l hl=>(of_decide_eq_true (hr l hl)).1,((wF_iff S S.length).1 g1).1⟩
   ·omega
theorem numA_itoa {v:Int} (h:0≤v∧v≤1000000):numA (Lib.itoa v)=some v:=by
 unfold numA
 rw[atoi_itoa h.1 (by omega)]
theorem allN_itoa {f:List UInt8→Option Int} (hf:∀ v:Int,0≤v∧v≤1000000→f (Lib.itoa v)=some v):∀ l:List Int,(∀ v ∈ l,0≤v∧v≤1000000)→allN f (l.map Lib.itoa)=some l
 | [],_=>rfl
 |v::l,h=>by rw[List.map_cons,allN,hf v (h v (by simp)),Option.bind_some,allN_itoa hf l fun u hu=>h u (List.mem_cons_of_mem _ hu)];rfl
theorem words_row {x:List UInt8} {l:List Int} (hx:wordS x=true) (hl:∀ v ∈ l,0≤v∧v≤1000000):words 32 (rowT x l)=x::l.map Lib.itoa:=
 words_sp (word_no hx).2 fun y hy=>by
  obtain ⟨v,hv,rfl⟩:=List.mem_map.1 hy
  exact (itoa_no (hl v hv).1).2
theorem rowL_rows {f:List UInt8→Option Int} (hf:∀ v:Int,0≤v∧v≤1000000→f (Lib.itoa v)=some v):∀ (N:List (List UInt8)) (M:List (List Int)),M.length=N.length→(∀ x ∈ N,wordS x=true)→(∀ l ∈ M,∀ v ∈ l,0≤v∧v≤1000000)→rowL f (rowsT N M)=some (N,M)
 | [],[],_,_,_=>rfl
 | [],_::_,h,_,_=>by simp at h
 |_::_,[],h,_,_=>by simp at h
 |x::N,l::M,h,h1,h2=>by
  rw[rowsT,rowL,words_row (h1 x (by simp)) (h2 l (by simp)),List.tail_cons,allN_itoa hf l (h2 l (by simp)),Option.bind_some,rowL_rows hf N M (by simpa using h) (fun y hy=>h1 y (List.mem_cons_of_mem _ hy)) fun y hy=>h2 y (List.mem_cons_of_mem _ hy)]
  rfl
theorem sp_no {c:UInt8} (hc:c ≠ 32) {l:List (List UInt8)} (h:∀ x ∈ l,c ∉ x):c ∉ spT l:=by
 intro hm
 unfold spT at hm
 obtain ⟨y,hy,hm⟩:=List.mem_flatten.1 hm
 obtain ⟨x,hx,rfl⟩:=List.mem_map.1 hy
 rcases List.mem_cons.1 hm with e|hm
 ·exact hc e
 ·exact h x hx hm
theorem rows_no {N:List (List UInt8)} {M:List (List Int)} (h1:∀ x ∈ N,wordS x=true) (h2:∀ l ∈ M,∀ v ∈ l,0≤v∧v≤1000000):∀ x ∈ rowsT N M,(10:UInt8) ∉ x:=by
 induction N generalizing M with
 |nil=>intro x hx;cases M<;>cases hx
 |cons a N ih=>
  cases M with
  |nil=>intro x hx;cases hx
  |cons l M=>
   intro x hx
   rw[rowsT] at hx
   rcases List.mem_cons.1 hx with rfl|hx
   ·unfold rowT
    rw[List.mem_append]
    rintro (h|h)
    ·exact (word_no (h1 a (by simp))).1 h
    ·exact sp_no (by decide) (fun y hy=>by
      obtain ⟨v,hv,rfl⟩:=List.mem_map.1 hy
      exact (itoa_no (h2 l (by simp) v hv).1).1) h
   ·exact ih (fun y hy=>h1 y (List.mem_cons_of_mem _ hy)) (fun y hy=>h2 y (List.mem_cons_of_mem _ hy)) x hx
theorem raw_lines {t:Tb} (g:Good t.1 t.2.1 t.2.2):words 10 (textT t).dropLast=headT t.1::rowsT t.2.1 t.2.2∧(textT t).getLast? =some 10∧words 32 (headT t.1)=sizeL::t.1:=by
 have h1:∀ x ∈ headT t.1::rowsT t.2.1 t.2.2,(10:UInt8) ∉ x:=fun x hx=>by
  rcases List.mem_cons.1 hx with rfl|hx
  ·unfold headT
   rw[List.mem_append]
   rintro (h|h)
   ·revert h;decide
   ·exact sp_no (by decide) (fun y hy=>(word_no (g.ws y hy)).1) h
  ·exact rows_no g.wn g.r x hx
 obtain ⟨h2,h3⟩:=words_fed (by simp) h1
 exact ⟨h2,h3,words_sp (by decide) fun y hy=>(word_no (g.ws y hy)).2⟩
theorem textF_good {t:Tb} {s:List UInt8} (h:textF t=(s,0)):Good t.1 t.2.1 t.2.2∧textT t=s∧s.length≤8000:=by
 unfold textF at h
 split at h
 ·rename_i h1
  simp only[Prod.mk.injEq] at h
  exact absurd h.2 h1
 ·rename_i h1
  split at h
  ·simp at h
  ·rename_i h2
   simp only[Prod.mk.injEq,and_true] at h
   refine ⟨check_good (Decidable.byContradiction h1),h,?_⟩
   rw[← h];omega
theorem raw_back {t:Tb} {s:List UInt8} (hR:∀ v:Int,0≤v∧v≤1000000→numR (Lib.itoa v)=some v) (h:textF t=(s,0)):rawP s=some t∧rawR s=some t:=by
 obtain ⟨g,rfl,_⟩:=textF_good h
 obtain ⟨h1,h2,h3⟩:=raw_lines g
 have e:∀ (x:List UInt8) (l:List (List UInt8)),(x::l)[0]! =x:=fun x l=>rfl
 constructor
 ·unfold rawP trimS
  rw[if_pos h2,h1,List.tail_cons,rowL_rows (fun v hv=>numA_itoa hv) _ _ g.m g.wn g.r,Option.map_some,e,h3,List.tail_cons]
 ·unfold rawR
  rw[h1,e,h3,e,if_pos ⟨h2,rfl⟩]
  simp only[List.tail_cons]
  rw[rowL_rows hR _ _ g.m g.wn g.r]
  rfl
theorem dd_head:∀ (n u:Nat),u≤n→0<u→(Lib.decDigits u)[0]! ≠ 48
 |0,u,h,h2=>by omega
 |n+1,u,h,h2=>by
  rw[Lib.decDigits]
  split
  ·rename_i h3
   show UInt8.ofNat (48+u) ≠ 48
   intro e
   have:=congrArg UInt8.toNat e
   rw[UInt8.toNat_ofNat'] at this
   have e2:(48:UInt8).toNat=48:=rfl
   rw[e2] at this
   omega
  ·rename_i h3
   have ih:=dd_head n (u / 10) (by omega) (by omega)
   have hne:=decDigits_ne (u / 10)
   obtain ⟨a,r,hr⟩:∃ a r,Lib.decDigits (u / 10)=a::r:=by
    cases h4:Lib.decDigits (u / 10) with
    |nil=>exact absurd h4 hne
    |cons a r=>exact ⟨a,r,rfl⟩
   rw[hr] at ih ⊢
   exact ih
theorem numR_itoa (v:Int) (h:0≤v∧v≤1000000):numR (Lib.itoa v)=some v:=by
 obtain ⟨u,rfl⟩:=Int.eq_ofNat_of_zero_le h.1
 have hd:=itoa_dig h.1
 rw[Lib.itoa_nonneg] at hd ⊢
 have h1:=decDigits_len 6 u (by omega)
 have h2:=decDigits_ne u
 have h3:=decFrom_digits u u (Nat.le_refl _)
 have h4:1<(Lib.decDigits u).length→(Lib.decDigits u)[0]! ≠ 48:=fun hl=>by
  refine dd_head u u (Nat.le_refl _) (Nat.pos_of_ne_zero fun h0=>?_)
  subst h0
  rw[Lib.decDigits,dif_pos (by omega)] at hl
  simp at hl
 unfold numR
 rw[if_pos ⟨h2,h1,h4,List.all_eq_true.2 hd⟩,h3]
 rfl
end Go.Proofs.YteibgbbfcjgjiaaDoor
namespace Go.Proofs.YteibgbbfcjgjiaaDoor
open Go Go.Itp
set_option maxRecDepth 100000
set_option maxHeartbeats 1000000
set_option linter.unusedSimpArgs false
section
variable (w:World) (n:Nat)
def selfP (b:Nat) (p:V):Prop:=p= .sc (.pointer none)∨p= .ptr b 0
theorem copyCheck_w {C:Ctx} {st:VSt} {Q:V→VSt→Prop} (hC:C.E=EN w (n+2)) (b e:Nat) (p g:V) (hb:aget st.own b=some (.box 61 e [p,g])) (hp:selfP b p) (hro:st.ro≤b)
  (hq:Q (.tup []) ⟨aset st.own b (.box 61 e [.ptr b 0,g]),st.next,st.ro⟩):CallV C 51 [.ptr b 0] st Q:=by
 refine callV_w hC rfl rfl (fun _ _=>rfl) (Nat.le_of_ble_eq_true rfl) hq fun C' hC' hn=>?_
 obtain ⟨H,nx,ro⟩:=st
 have h2:(2:Nat)≤ [p,g].length:=Nat.le_refl _
 rcases hp with rfl|rfl
 ·repeat' (first|(simp (disch:=first|omega|assumption|exact bd (by with_unfolding_all rfl)|exact Or.inl rfl|exact Or.inl trivial|exact okL_map _ (fun _=>rfl) _|(simp only[VVlen]<;>omega)|fail) only[O1,VV0,VV1,VV2,VV3,VV4,VV5,VV6,VV7,VV8,VV9,mkFnV,vargs,slotsL,opdsA,Nat.reduceEqDiff,Nat.reduceLT,Nat.reduceAdd,Nat.reduceBEq,Int.reduceAdd,Int.reduceSub,Int.reduceLT,Int.reduceLE,Int.reduceEq,Int.reduceNeg,↓reduceIte,reduceCtorEq,scL,scD,expand,List.replicate,c51,hb,eqNilP_ptr,eqNilP_nil])|apply gC_drawW|((first|apply gI_dec|apply gG_dec|apply gPG_dec|apply gI_var|apply gG_var|apply gPG_var)<;>intro _))
  refine callV_same hC' (fun x s=>?_) ?_
  ·show PR w _ [x] s=some (x,[])
   rfl
  repeat' (first|(simp (disch:=first|omega|assumption|exact bd (by with_unfolding_all rfl)|exact Or.inl rfl|exact Or.inl trivial|exact okL_map _ (fun _=>rfl) _|(simp only[VVlen]<;>omega)|fail) only[O1,VV0,VV1,VV2,VV3,VV4,VV5,VV6,VV7,VV8,VV9,mkFnV,vargs,slotsL,opdsA,Nat.reduceEqDiff,Nat.reduceLT,Nat.reduceAdd,Nat.reduceBEq,Int.reduceAdd,Int.reduceSub,Int.reduceLT,Int.reduceLE,Int.reduceEq,Int.reduceNeg,↓reduceIte,reduceCtorEq,scL,scD,expand,List.replicate,hb,eqNilP_ptr])|apply gC_drawW|((first|apply gI_dec|apply gG_dec|apply gPG_dec|apply gI_var|apply gG_var|apply gPG_var)<;>intro _))
  exact .refl _ _
 ·have hs:aset H b (.box 61 e [.ptr b 0,g])=H:=aset_self _ _ _ hb
  repeat' (first|(simp (disch:=first|omega|assumption|exact bd (by with_unfolding_all rfl)|exact Or.inl rfl|exact Or.inl trivial|exact okL_map _ (fun _=>rfl) _|(simp only[VVlen]<;>omega)|fail) only[O1,VV0,VV1,VV2,VV3,VV4,VV5,VV6,VV7,VV8,VV9,mkFnV,vargs,slotsL,opdsA,Nat.reduceEqDiff,Nat.reduceLT,Nat.reduceAdd,Nat.reduceBEq,Int.reduceAdd,Int.reduceSub,Int.reduceLT,Int.reduceLE,Int.reduceEq,Int.reduceNeg,↓reduceIte,reduceCtorEq,scL,scD,expand,List.replicate,c51,hb,eqPtrV_same,eqNilP_ptr,eqNilP_nil])|apply gC_drawW|((first|apply gI_dec|apply gG_dec|apply gPG_dec|apply gI_var|apply gG_var|apply gPG_var)<;>intro _))
  rw[hs]
  exact .refl _ _
theorem writeString_w {C:Ctx} {st:VSt} {Q:V→VSt→Prop} (hC:C.E=EN w (n+3)) (b r:Nat) (p:V) (acc s:ByteArray) (hb:aget st.own b=some (.box 61 1 [p,.gr 2 r acc.size])) (hr:aget st.own r=some (.gro 5 1 false (strD acc))) (hp:selfP b p) (hro:st.ro≤b) (hro2:st.ro≤r) (hrb:r ≠ b) (hlt:b ≠ st.next)
  (hsz:acc.size+s.size≤1099511627776) (hq:Q (.tup [.sc (.int .i64 s.size),.sc .nilIface]) ⟨(st.next,.gro 5 1 false (strD (acc++s)))::aset (adel r st.own) b (.box 61 1 [.ptr b 0,.gr 2 st.next (acc.size+s.size)]),st.next+1,st.ro⟩):
  CallV C 29 [.ptr b 0,.sc (.string s)] st Q:=by
 refine callV_w hC rfl rfl (fun _ _=>rfl) (Nat.le_of_ble_eq_true rfl) hq fun C' hC' hn=>?_
 obtain ⟨H,nx,ro⟩:=st
 have h1:=strD_len acc
 have h2:=strD_ok s
 have a1:aget (aset H b (.box 61 1 [.ptr b 0,.gr 2 r acc.size])) b=some (.box 61 1 [.ptr b 0,.gr 2 r acc.size]):=aget_aset_eq hb
 have a2:aget (aset H b (.box 61 1 [.ptr b 0,.gr 2 r acc.size])) r=some (.gro 5 1 false (strD acc)):=by rw[aget_aset _ _ _ _ _ hb,if_neg hrb];exact hr
 have hbr:¬ b=r:=fun e=>hrb e.symm
 have a3:aget (adel r (aset H b (.box 61 1 [.ptr b 0,.gr 2 r acc.size]))) b=some (.box 61 1 [.ptr b 0,.gr 2 r acc.size]):=by rw[aget_adel,if_neg hbr];exact a1
 repeat' (first|(simp (disch:=first|omega|assumption|exact bd (by with_unfolding_all rfl)|exact Or.inl rfl|exact Or.inl trivial|exact okL_map _ (fun _=>rfl) _|(simp only[VVlen]<;>omega)|fail) only[O1,VV0,VV1,VV2,VV3,VV4,VV5,VV6,VV7,VV8,VV9,mkFnV,vargs,slotsL,opdsA,Nat.reduceEqDiff,Nat.reduceLT,Nat.reduceAdd,Nat.reduceBEq,Int.reduceAdd,Int.reduceSub,Int.reduceLT,Int.reduceLE,Int.reduceEq,Int.reduceNeg,↓reduceIte,reduceCtorEq,scL,scD,expand,List.replicate,c29])|apply gC_drawW|((first|apply gI_dec|apply gG_dec|apply gPG_dec|apply gI_var|apply gG_var|apply gPG_var)<;>intro _))
 refine copyCheck_w w n hC' b 1 p _ hb hp hro ?_
 repeat' (first|(simp (disch:=first|omega|assumption|exact bd (by with_unfolding_all rfl)|exact Or.inl rfl|exact Or.inl trivial|exact okL_map _ (fun _=>rfl) _|(simp only[VVlen]<;>omega)|fail) only[O1,VV0,VV1,VV2,VV3,VV4,VV5,VV6,VV7,VV8,VV9,mkFnV,vargs,slotsL,opdsA,Nat.reduceEqDiff,Nat.reduceLT,Nat.reduceAdd,Nat.reduceBEq,Int.reduceAdd,Int.reduceSub,Int.reduceLT,Int.reduceLE,Int.reduceEq,Int.reduceNeg,↓reduceIte,reduceCtorEq,scL,scD,expand,List.replicate,a1,a2,a3,srcOf_str,strD_eq,hbr,hlt,strD_append,frozA_none])|apply gC_drawW|((first|apply gI_dec|apply gG_dec|apply gPG_dec|apply gI_var|apply gG_var|apply gPG_var)<;>intro _))
 rw[adel_aset _ _ _ _ hrb,aset_aset]
 exact .refl _ _
theorem string_w {C:Ctx} {st:VSt} {Q:V→VSt→Prop} (hC:C.E=EN w (n+1)) (b r:Nat) (p:V) (acc:ByteArray) (hb:aget st.own b=some (.box 61 1 [p,.gr 2 r acc.size])) (hr:aget st.own r=some (.gro 5 1 false (strD acc))) (hro:st.ro≤b) (hro2:st.ro≤r)
  (hsz:acc.size≤1099511627776) (hq:∀ st',st'.ro=st.ro→Q (.sc (.string acc)) st'):CallV C 34 [.ptr b 0] st Q:=by
 obtain ⟨H,nx,ro⟩:=st
 by_cases h0:acc.size=0
 ·rw[h0] at hb
  have hs:acc=ByteArray.empty:=by
   apply ByteArray.ext;apply Array.ext'
   rw[List.eq_nil_of_length_eq_zero (show acc.data.toList.length=0 by simpa using h0)]
   rfl
  refine callV_wW (st':=⟨aset H b (.box 61 1 [p,.sc (.slice none 0 0)]),nx,ro⟩) hC rfl rfl (fun _ _=>rfl) (Nat.le_of_ble_eq_true rfl) (hq ⟨aset H b (.box 61 1 [p,.sc (.slice none 0 0)]),nx,ro⟩ rfl) (fun C' hn=>?_) fun C' hC' hn=>?_
  ·exact weak_cell (C:=C') (st:=⟨H,nx,ro⟩) (k:=1) hb rfl same_gr0
  have a1:aget (aset H b (.box 61 1 [p,.sc (.slice none 0 0)])) b=some (.box 61 1 [p,.sc (.slice none 0 0)]):=aget_aset_eq hb
  rw[hs]
  repeat' (first|(simp (disch:=first|omega|assumption|exact bd (by with_unfolding_all rfl)|exact Or.inl rfl|exact Or.inl trivial|exact okL_map _ (fun _=>rfl) _|(simp only[VVlen]<;>omega)|fail) only[O1,VV0,VV1,VV2,VV3,VV4,VV5,VV6,VV7,VV8,VV9,mkFnV,vargs,slotsL,opdsA,Nat.reduceEqDiff,Nat.reduceLT,Nat.reduceAdd,Nat.reduceBEq,Int.reduceAdd,Int.reduceSub,Int.reduceLT,Int.reduceLE,Int.reduceEq,Int.reduceNeg,↓reduceIte,reduceCtorEq,scL,scD,expand,List.replicate,c34,a1,vustr_nil])|apply gC_drawW|((first|apply gI_dec|apply gG_dec|apply gPG_dec|apply gI_var|apply gG_var|apply gPG_var)<;>intro _))
  exact .refl _ _
 ·refine callV_w hC rfl rfl (fun _ _=>rfl) (Nat.le_of_ble_eq_true rfl) (hq ⟨adel r H,nx,ro⟩ rfl) fun C' hC' hn=>?_
  have hv:=vustr_gro ⟨H,nx,ro⟩ 5 1 r acc hr hro2 (by omega) hsz
  repeat' (first|(simp (disch:=first|omega|assumption|exact bd (by with_unfolding_all rfl)|exact Or.inl rfl|exact Or.inl trivial|exact okL_map _ (fun _=>rfl) _|(simp only[VVlen]<;>omega)|fail) only[O1,VV0,VV1,VV2,VV3,VV4,VV5,VV6,VV7,VV8,VV9,mkFnV,vargs,slotsL,opdsA,Nat.reduceEqDiff,Nat.reduceLT,Nat.reduceAdd,Nat.reduceBEq,Int.reduceAdd,Int.reduceSub,Int.reduceLT,Int.reduceLE,Int.reduceEq,Int.reduceNeg,↓reduceIte,reduceCtorEq,scL,scD,expand,List.replicate,c34,hb,h0,hv])|apply gC_drawW|((first|apply gI_dec|apply gG_dec|apply gPG_dec|apply gI_var|apply gG_var|apply gPG_var)<;>intro _))
  exact .refl _ _
end
end Go.Proofs.YteibgbbfcjgjiaaDoor
namespace Go.Proofs.YteibgbbfcjgjiaaDoor
open Go Go.Itp
set_option maxRecDepth 100000
set_option maxHeartbeats 1000000
set_option linter.unusedSimpArgs false
section
variable (w:World) (n:Nat)
theorem indexByteString_o (st:VSt) (l:List UInt8) (c:UInt8):VSpecO (EN w (n+1)) 101 st [strV l,.sc (.int .u8 c.toNat)] (.sc (.int .i64 (idxB c l))):=by
 refine prim_o (ys:= [.string ⟨l.toArray⟩,.int .u8 c.toNat]) (fun s=>?_) rfl
 refine orElse_right rfl (orElse_left ?_)
 show primA .indexByte 0 [.string ⟨l.toArray⟩,.int .u8 c.toNat] s=_
 unfold primA
 simp only[Int.toNat_natCast]
 rw[show c.toNat.toUInt8=c by simp,firstIdxA_l]
theorem indexByte_p (l:List UInt8) (c:UInt8):VSpec (EN w (n+2)) 93 [strV l,.sc (.int .u8 c.toNat)] (.sc (.int .i64 (idxB c l))) ⟨[],0,0⟩:=by
 refine vspec_flat rfl rfl (fun _ _=>rfl) (Nat.le_of_ble_eq_true rfl) (oldVals w) rfl fun C hC h0=>?_
 repeat' (first|(simp (disch:=first|omega|assumption|exact bd (by with_unfolding_all rfl)|exact Or.inl rfl|exact Or.inl trivial|exact okL_map _ (fun _=>rfl) _|(simp only[VVlen]<;>omega)|fail) only[O1,VV0,VV1,VV2,VV3,VV4,VV5,VV6,VV7,VV8,VV9,mkFnV,vargs,slotsL,opdsA,Nat.reduceEqDiff,Nat.reduceLT,Nat.reduceAdd,Nat.reduceBEq,Int.reduceAdd,Int.reduceSub,Int.reduceLT,Int.reduceLE,Int.reduceEq,Int.reduceNeg,↓reduceIte,reduceCtorEq,scL,scD,expand,List.replicate,c93])|apply gC_drawW|((first|apply gI_dec|apply gG_dec|apply gPG_dec|apply gI_var|apply gG_var|apply gPG_var)<;>intro _))
 refine callV_flat (by rw[hC];exact indexByteString_o w n _ l c) ?_
 repeat' (first|(simp (disch:=first|omega|assumption|exact bd (by with_unfolding_all rfl)|exact Or.inl rfl|exact Or.inl trivial|exact okL_map _ (fun _=>rfl) _|(simp only[VVlen]<;>omega)|fail) only[O1,VV0,VV1,VV2,VV3,VV4,VV5,VV6,VV7,VV8,VV9,mkFnV,vargs,slotsL,opdsA,Nat.reduceEqDiff,Nat.reduceLT,Nat.reduceAdd,Nat.reduceBEq,Int.reduceAdd,Int.reduceSub,Int.reduceLT,Int.reduceLE,Int.reduceEq,Int.reduceNeg,↓reduceIte,reduceCtorEq,scL,scD,expand,List.replicate])|apply gC_drawW|((first|apply gI_dec|apply gG_dec|apply gPG_dec|apply gI_var|apply gG_var|apply gPG_var)<;>intro _))
 exact weak_flat rfl h0 rfl
theorem index1_p (l:List UInt8) (c:UInt8) (hl:l.length≤1000000000):VSpec (EN w (n+3)) 83 [strV l,strV [c]] (.sc (.int .i64 (idxB c l))) ⟨[],0,0⟩:=by
 refine vspec_flat rfl rfl (fun _ _=>rfl) (Nat.le_of_ble_eq_true rfl) (oldVals w) rfl fun C hC h0=>?_
 have h1:(ByteArray.mk [c].toArray).size=1:=rfl
 have hlc:((ByteArray.mk [c].toArray)=ByteArray.mk l.toArray)↔l= [c]:=by
  constructor
  ·intro h
   have:=congrArg (fun b:ByteArray=>b.data.toList) h
   simpa using this.symm
  ·rintro rfl;rfl
 by_cases hc:l= [c]
 ·subst hc
  have hi:idxB c [c]=0:=idxB_app (a:= []) [] (by simp)
  rw[hi]
  repeat' (first|(simp (disch:=first|omega|assumption|exact bd (by with_unfolding_all rfl)|exact Or.inl rfl|exact Or.inl trivial|exact okL_map _ (fun _=>rfl) _|(simp only[VVlen]<;>omega)|fail) only[O1,VV0,VV1,VV2,VV3,VV4,VV5,VV6,VV7,VV8,VV9,mkFnV,vargs,slotsL,opdsA,Nat.reduceEqDiff,Nat.reduceLT,Nat.reduceAdd,Nat.reduceBEq,Int.reduceAdd,Int.reduceSub,Int.reduceLT,Int.reduceLE,Int.reduceEq,Int.reduceNeg,↓reduceIte,reduceCtorEq,scL,scD,expand,List.replicate,c83,h1])|apply gC_drawW|((first|apply gI_dec|apply gG_dec|apply gPG_dec|apply gI_var|apply gG_var|apply gPG_var)<;>intro _))
  exact weak_flat rfl h0 rfl
 ·have hb:idxStrV (strV [c]) (.sc (.int .i64 0))=some (.sc (.int .u8 c.toNat)):=by
   rw[idxStr_l _ _ _ (by omega) (by simp)]
   rfl
  repeat' (first|(simp (disch:=first|omega|assumption|exact bd (by with_unfolding_all rfl)|exact Or.inl rfl|exact Or.inl trivial|exact okL_map _ (fun _=>rfl) _|(simp only[VVlen]<;>omega)|fail) only[O1,VV0,VV1,VV2,VV3,VV4,VV5,VV6,VV7,VV8,VV9,mkFnV,vargs,slotsL,opdsA,Nat.reduceEqDiff,Nat.reduceLT,Nat.reduceAdd,Nat.reduceBEq,Int.reduceAdd,Int.reduceSub,Int.reduceLT,Int.reduceLE,Int.reduceEq,Int.reduceNeg,↓reduceIte,reduceCtorEq,scL,scD,expand,List.replicate,c83,h1,hlc,hc,hb])|apply gC_drawW|((first|apply gI_dec|apply gG_dec|apply gPG_dec|apply gI_var|apply gG_var|apply gPG_var)<;>intro _))
  refine callV_flat ((indexByte_p w n l c).of hC rfl _ rfl) ?_
  repeat' (first|(simp (disch:=first|omega|assumption|exact bd (by with_unfolding_all rfl)|exact Or.inl rfl|exact Or.inl trivial|exact okL_map _ (fun _=>rfl) _|(simp only[VVlen]<;>omega)|fail) only[O1,VV0,VV1,VV2,VV3,VV4,VV5,VV6,VV7,VV8,VV9,mkFnV,vargs,slotsL,opdsA,Nat.reduceEqDiff,Nat.reduceLT,Nat.reduceAdd,Nat.reduceBEq,Int.reduceAdd,Int.reduceSub,Int.reduceLT,Int.reduceLE,Int.reduceEq,Int.reduceNeg,↓reduceIte,reduceCtorEq,scL,scD,expand,List.replicate])|apply gC_drawW|((first|apply gI_dec|apply gG_dec|apply gPG_dec|apply gI_var|apply gG_var|apply gPG_var)<;>intro _))
  exact weak_flat rfl h0 rfl
theorem index_p (l:List UInt8) (c:UInt8) (hl:l.length≤1000000000):VSpec (EN w (n+4)) 68 [strV l,strV [c]] (.sc (.int .i64 (idxB c l))) ⟨[],0,0⟩:=by
 refine vspec_flat rfl rfl (fun _ _=>rfl) (Nat.le_of_ble_eq_true rfl) (oldVals w) rfl fun C hC h0=>?_
 repeat' (first|(simp (disch:=first|omega|assumption|exact bd (by with_unfolding_all rfl)|exact Or.inl rfl|exact Or.inl trivial|exact okL_map _ (fun _=>rfl) _|(simp only[VVlen]<;>omega)|fail) only[O1,VV0,VV1,VV2,VV3,VV4,VV5,VV6,VV7,VV8,VV9,mkFnV,vargs,slotsL,opdsA,Nat.reduceEqDiff,Nat.reduceLT,Nat.reduceAdd,Nat.reduceBEq,Int.reduceAdd,Int.reduceSub,Int.reduceLT,Int.reduceLE,Int.reduceEq,Int.reduceNeg,↓reduceIte,reduceCtorEq,scL,scD,expand,List.replicate,c68])|apply gC_drawW|((first|apply gI_dec|apply gG_dec|apply gPG_dec|apply gI_var|apply gG_var|apply gPG_var)<;>intro _))
 refine callV_flat ((index1_p w n l c hl).of hC rfl _ rfl) ?_
 repeat' (first|(simp (disch:=first|omega|assumption|exact bd (by with_unfolding_all rfl)|exact Or.inl rfl|exact Or.inl trivial|exact okL_map _ (fun _=>rfl) _|(simp only[VVlen]<;>omega)|fail) only[O1,VV0,VV1,VV2,VV3,VV4,VV5,VV6,VV7,VV8,VV9,mkFnV,vargs,slotsL,opdsA,Nat.reduceEqDiff,Nat.reduceLT,Nat.reduceAdd,Nat.reduceBEq,Int.reduceAdd,Int.reduceSub,Int.reduceLT,Int.reduceLE,Int.reduceEq,Int.reduceNeg,↓reduceIte,reduceCtorEq,scL,scD,expand,List.replicate])|apply gC_drawW|((first|apply gI_dec|apply gG_dec|apply gPG_dec|apply gI_var|apply gG_var|apply gPG_var)<;>intro _))
 exact weak_flat rfl h0 rfl
end
end Go.Proofs.YteibgbbfcjgjiaaDoor
