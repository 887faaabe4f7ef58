/- What is proved: the law GradeTexts returns true for every input. Conditions: none beyond the card's own.
   Texts: C40VA, S40D, H40V, G40a, G40b, G40c, G40d, G40e, G40g, G40h, G40i, G40j, G40k, G40l, G40m, G40n.
-/
import Derived.Test.YteibgbbfcjgjiaaDoorPart4
import Derived.Test.YteibgbbfcjgjiaaDoorProg
import Derived.Shelf.Strings.Builder1
import Derived.Shelf.Strings.Builder2
import Derived.Shelf.Strings.OnBuilder
import Derived.Shelf.Strconv.Atoi
import Derived.Shelf.Strconv.Itoa0
import Derived.Shelf.Strconv.Itoa1
import Derived.Shelf.LaysM
import Derived.Shelf.Strconv.Itoa2
import Derived.Shelf.Strconv.Itoa3
import Derived.Shelf.Strconv.AtoiErrFast
import Derived.Shelf.Strconv.ParseIntEmpty
import Derived.Shelf.Strconv.AtoiFail
import Derived.Shelf.Strconv.Clone
import Derived.Shelf.Strconv.SyntaxError
import Derived.Shelf.LaysC
import Derived.Shelf.Strconv.ToError
import Derived.Shelf.Strconv.Lower
import Derived.Shelf.Strconv.ParseUint10
import Derived.Shelf.Strconv.ParseUint10Empty
import Derived.Shelf.Strconv.ParseUint10Any
import Derived.Shelf.Strconv.ParseInt10
import Derived.Shelf.Strconv.AtoiLong
import Derived.Shelf.Strconv.AtoiInnerAll
import Derived.Shelf.Strconv.RangeError
import Derived.Shelf.Strconv.ToErrorRange
import Derived.Shelf.Strconv.AtoiAll
import Derived.Shelf.Strconv.ErrVarAll
import Derived.Shelf.Strings.Search1
import Derived.Shelf.Strings.Search2
import Derived.Shelf.Strings.Search3
import Derived.Shelf.Strings.Count
import Derived.Shelf.Strings.Shaped
import Derived.Shelf.Unicode.DecodeSlow
import Derived.KernelRfl
import Derived.Lib.AtoiAllCases
import Derived.Lib.Bytealg
import Derived.Lib.ItoaLen
namespace Go.Proofs.YteibgbbfcjgjiaaDoor
open Go Go.Itp
set_option maxRecDepth 100000
@[reducible] def O1 (d:Nat) (p:AOp):AOper:=⟨some d,none,p⟩
/- raddle/raddlelaw40.GradeTexts -/
def c3:AFun:=⟨.seq (.ops [O1 2 (.box 25 (.tmp 0)),O1 4 (.mov (.const (.bool false)))] [1,2]) (.seq (.seq (.ops [O1 13 (.load (some 3) (.tmp 2)),O1 14 (.callF 9 [.tmp 13]),O1 15 (.mov (.tmp 14)),⟨some 16,some (15,false),.mov (.tmp 1)⟩,⟨some 17,some (15,false),.len true (.tmp 16)⟩,⟨some 18,some (15,false),.bin .gtr (.tmp 17) (.const (.int .i64 10000))⟩,O1 19 (.pick (.tmp 15) (.const (.bool true)) (.tmp 18))] [1,2,19]) (.cond (.tmp 19) (.seq (.ops [O1 4 (.mov (.const (.bool true)))] [4]) (.ret)) (.skip))) (.seq (.ops [O1 21 (.load (some 3) (.tmp 2)),O1 22 (.callF 10 [.tmp 21]),O1 20 (.mov (.tmp 22)),O1 23 (.ext (.tmp 20) 0),O1 24 (.ext (.tmp 20) 1),O1 5 (.mov (.tmp 23)),O1 6 (.mov (.tmp 24))] [1,2,5,6]) (.seq (.ops [O1 26 (.load (some 3) (.tmp 2)),O1 27 (.callF 11 [.tmp 26]),O1 25 (.mov (.tmp 27)),O1 28 (.ext (.tmp 25) 0),O1 29 (.ext (.tmp 25) 1),O1 7 (.mov (.tmp 28)),O1 8 (.mov (.tmp 29))] [1,5,6,7,8]) (.seq (.ops [O1 31 (.mov (.tmp 1)),O1 32 (.callF 12 [.tmp 31]),O1 30 (.mov (.tmp 32)),O1 33 (.ext (.tmp 30) 0),O1 34 (.ext (.tmp 30) 1),O1 9 (.alloc 25 [(3,(.slice none 0 0))]),⟨none,none,.store 3 (.tmp 9) (.tmp 33)⟩,O1 10 (.mov (.tmp 34))] [1,5,6,7,8,9,10]) (.seq (.ops [O1 36 (.mov (.tmp 1)),O1 37 (.callF 13 [.tmp 36]),O1 35 (.mov (.tmp 37)),O1 38 (.ext (.tmp 35) 0),O1 39 (.ext (.tmp 35) 1),O1 11 (.alloc 25 [(3,(.slice none 0 0))]),⟨none,none,.store 3 (.tmp 11) (.tmp 38)⟩,O1 12 (.mov (.tmp 39))] [5,6,7,8,9,10,11,12]) (.seq (.ops [O1 40 (.mov (.tmp 5)),O1 41 (.mov (.tmp 7)),O1 42 (.bin .eql (.tmp 40) (.tmp 41)),O1 43 (.mov (.tmp 42)),⟨some 44,some (43,true),.mov (.tmp 6)⟩,⟨some 45,some (43,true),.mov (.tmp 8)⟩,⟨some 46,some (43,true),.bin .eql (.tmp 44) (.tmp 45)⟩,O1 47 (.pick (.tmp 43) (.tmp 46) (.const (.bool false))),O1 48 (.mov (.tmp 47)),⟨some 49,some (48,true),.load (some 3) (.tmp 9)⟩,⟨some 50,some (48,true),.load (some 3) (.tmp 11)⟩,⟨some 51,some (48,true),.callF 14 [(.tmp 49),(.tmp 50)]⟩,O1 52 (.pick (.tmp 48) (.tmp 51) (.const (.bool false))),O1 53 (.mov (.tmp 52)),⟨some 54,some (53,true),.mov (.tmp 10)⟩,⟨some 55,some (53,true),.mov (.tmp 12)⟩,⟨some 56,some (53,true),.bin .eql (.tmp 54) (.tmp 55)⟩,O1 57 (.pick (.tmp 53) (.tmp 56) (.const (.bool false))),O1 4 (.mov (.tmp 57))] [4]) (.ret))))))),58,[(4,none)],true⟩
theorem ok3:FunOK Tryd.prog 3 c3:= .code ⟨Tryd.f3,_,c3.code,Tryd.func3,rfl,by kernel_rfl,rfl,by kernel_rfl,by kernel_rfl⟩
/- raddle/raddleref40.Great -/
def c9l0:AC:= .seq (.seq (.ops [O1 50 (.mov (.tmp 5)),O1 51 (.fldA 2 (.tmp 1)),O1 52 (.load none (.tmp 51)),O1 53 (.len false (.tmp 52)),O1 54 (.bin .lss (.tmp 50) (.tmp 53))] [1,5,54]) (.cond (.tmp 54) (.skip) (.exit 4))) (.seq (.block 5 (.seq (.ops [O1 57 (.fldA 2 (.tmp 1)),O1 58 (.load none (.tmp 57)),O1 59 (.mov (.tmp 5)),O1 60 (.idxS 1 (.tmp 58) (.tmp 59)),O1 61 (.load none (.tmp 60)),O1 62 (.len false (.tmp 61)),O1 63 (.bin .gtr (.tmp 62) (.const (.int .i64 40)))] [1,5,63]) (.cond (.tmp 63) (.seq (.ops [O1 2 (.mov (.const (.bool true)))] [2]) (.ret)) (.skip)))) (.ops [O1 55 (.mov (.tmp 5)),O1 56 (.bin .add (.tmp 55) (.const (.int .i64 1))),O1 5 (.mov (.tmp 56))] [1,5]))
def c9l1:AC:= .seq (.seq (.ops [O1 36 (.mov (.tmp 4)),O1 37 (.fldA 1 (.tmp 1)),O1 38 (.load none (.tmp 37)),O1 39 (.len false (.tmp 38)),O1 40 (.bin .lss (.tmp 36) (.tmp 39))] [1,4,40]) (.cond (.tmp 40) (.skip) (.exit 2))) (.seq (.block 3 (.seq (.ops [O1 43 (.fldA 1 (.tmp 1)),O1 44 (.load none (.tmp 43)),O1 45 (.mov (.tmp 4)),O1 46 (.idxS 1 (.tmp 44) (.tmp 45)),O1 47 (.load none (.tmp 46)),O1 48 (.len true (.tmp 47)),O1 49 (.bin .gtr (.tmp 48) (.const (.int .i64 60)))] [1,4,49]) (.cond (.tmp 49) (.seq (.ops [O1 2 (.mov (.const (.bool true)))] [2]) (.ret)) (.skip)))) (.ops [O1 41 (.mov (.tmp 4)),O1 42 (.bin .add (.tmp 41) (.const (.int .i64 1))),O1 4 (.mov (.tmp 42))] [1,4]))
def c9l2:AC:= .seq (.seq (.ops [O1 22 (.mov (.tmp 3)),O1 23 (.fldA 0 (.tmp 1)),O1 24 (.load none (.tmp 23)),O1 25 (.len false (.tmp 24)),O1 26 (.bin .lss (.tmp 22) (.tmp 25))] [1,3,26]) (.cond (.tmp 26) (.skip) (.exit 0))) (.seq (.block 1 (.seq (.ops [O1 29 (.fldA 0 (.tmp 1)),O1 30 (.load none (.tmp 29)),O1 31 (.mov (.tmp 3)),O1 32 (.idxS 1 (.tmp 30) (.tmp 31)),O1 33 (.load none (.tmp 32)),O1 34 (.len true (.tmp 33)),O1 35 (.bin .gtr (.tmp 34) (.const (.int .i64 60)))] [1,3,35]) (.cond (.tmp 35) (.seq (.ops [O1 2 (.mov (.const (.bool true)))] [2]) (.ret)) (.skip)))) (.ops [O1 27 (.mov (.tmp 3)),O1 28 (.bin .add (.tmp 27) (.const (.int .i64 1))),O1 3 (.mov (.tmp 28))] [1,3]))
def c9:AFun:=⟨.seq (.ops [O1 1 (.box 25 (.tmp 0)),O1 2 (.mov (.const (.bool false)))] [1]) (.seq (.seq (.ops [O1 6 (.fldA 0 (.tmp 1)),O1 7 (.load none (.tmp 6)),O1 8 (.len false (.tmp 7)),O1 9 (.bin .gtr (.tmp 8) (.const (.int .i64 30))),O1 10 (.mov (.tmp 9)),⟨some 11,some (10,false),.fldA 1 (.tmp 1)⟩,⟨some 12,some (10,false),.load none (.tmp 11)⟩,⟨some 13,some (10,false),.len false (.tmp 12)⟩,⟨some 14,some (10,false),.bin .gtr (.tmp 13) (.const (.int .i64 40))⟩,O1 15 (.pick (.tmp 10) (.const (.bool true)) (.tmp 14)),O1 16 (.mov (.tmp 15)),⟨some 17,some (16,false),.fldA 2 (.tmp 1)⟩,⟨some 18,some (16,false),.load none (.tmp 17)⟩,⟨some 19,some (16,false),.len false (.tmp 18)⟩,⟨some 20,some (16,false),.bin .gtr (.tmp 19) (.const (.int .i64 40))⟩,O1 21 (.pick (.tmp 16) (.const (.bool true)) (.tmp 20))] [1,21]) (.cond (.tmp 21) (.seq (.ops [O1 2 (.mov (.const (.bool true)))] [2]) (.ret)) (.skip))) (.seq (.seq (.ops [O1 3 (.mov (.const (.int .i64 0)))] [1,3]) (.block 0 (.loop [1,3] c9l2))) (.seq (.seq (.ops [O1 4 (.mov (.const (.int .i64 0)))] [1,4]) (.block 2 (.loop [1,4] c9l1))) (.seq (.seq (.ops [O1 5 (.mov (.const (.int .i64 0)))] [1,5]) (.block 4 (.loop [1,5] c9l0))) (.seq (.ops [O1 2 (.mov (.const (.bool false)))] [2]) (.ret)))))),64,[(2,none)],true⟩
theorem ok9:FunOK Tryd.prog 9 c9:= .code ⟨Tryd.f9,_,c9.code,Tryd.func9,rfl,by kernel_rfl,rfl,by kernel_rfl,by kernel_rfl⟩
/- raddle/grade.Text -/
def c10l0:AC:= .seq (.ops [O1 39 (.bin .lss (.tmp 38) (.tmp 37))] [1,5,23,24,25,36,37,38,39]) (.seq (.cond (.tmp 39) (.skip) (.exit 2)) (.seq (.block 3 (.seq (.ops [O1 40 (.idxS 1 (.tmp 36) (.tmp 38)),O1 41 (.load none (.tmp 40)),O1 9 (.mov (.tmp 41))] [1,5,9,23,24,25,36,37,38]) (.seq (.ops [O1 42 (.callF 31 [(.tmp 5),(.const (.int .u8 32))])] [1,5,9,23,24,25,36,37,38]) (.ops [O1 43 (.mov (.tmp 9)),O1 44 (.callF 32 [.tmp 43]),O1 45 (.callF 29 [(.tmp 5),(.tmp 44)])] [1,5,23,24,25,36,37,38])))) (.ops [O1 46 (.bin .add (.tmp 38) (.const (.int .i64 1))),O1 38 (.mov (.tmp 46))] [1,5,23,24,25,36,37,38])))
def c10l1:AC:= .seq (.ops [O1 26 (.bin .lss (.tmp 25) (.tmp 24))] [1,5,23,24,25,26]) (.seq (.cond (.tmp 26) (.skip) (.exit 0)) (.seq (.block 1 (.seq (.ops [O1 27 (.mov (.tmp 25)),O1 28 (.idxS 1 (.tmp 23) (.tmp 25)),O1 29 (.load none (.tmp 28)),O1 6 (.mov (.tmp 27)),O1 7 (.mov (.tmp 29))] [1,5,6,7,23,24,25]) (.seq (.ops [O1 30 (.fldA 1 (.tmp 1)),O1 31 (.load none (.tmp 30)),O1 32 (.mov (.tmp 6)),O1 33 (.idxS 1 (.tmp 31) (.tmp 32)),O1 34 (.load none (.tmp 33)),O1 35 (.callF 29 [(.tmp 5),(.tmp 34)])] [1,5,7,23,24,25]) (.seq (.seq (.ops [O1 36 (.mov (.tmp 7)),O1 37 (.len false (.tmp 36)),O1 38 (.mov (.const (.int .i64 0)))] [1,5,23,24,25,36,37,38]) (.block 2 (.loop [1,5,23,24,25,36,37,38] c10l0))) (.ops [O1 47 (.callF 31 [(.tmp 5),(.const (.int .u8 10))])] [1,5,23,24,25]))))) (.ops [O1 48 (.bin .add (.tmp 25) (.const (.int .i64 1))),O1 25 (.mov (.tmp 48))] [1,5,23,24,25])))
def c10:AFun:=⟨.seq (.ops [O1 1 (.box 25 (.tmp 0)),O1 2 (.mov (.const (.string ⟨#[]⟩))),O1 3 (.mov (.const (.int .i64 0)))] [1]) (.seq (.seq (.ops [O1 10 (.load (some 3) (.tmp 1)),O1 11 (.callF 19 [.tmp 10]),O1 4 (.mov (.tmp 11))] [1,4]) (.seq (.ops [O1 12 (.mov (.tmp 4)),O1 13 (.bin .neq (.tmp 12) (.const (.int .i64 0)))] [1,4,13]) (.cond (.tmp 13) (.seq (.ops [O1 14 (.mov (.tmp 4)),O1 2 (.mov (.const (.string ⟨#[]⟩))),O1 3 (.mov (.tmp 14))] [2,3]) (.ret)) (.skip)))) (.seq (.ops [O1 5 (.alloc 61 [(1,(.pointer none)),(1,(.slice none 0 0))])] [1,5]) (.seq (.ops [O1 15 (.mkRow 9 1 1 [(.string ⟨#[]⟩)] [(0,1,(.const (.string ⟨#[115,105,122,101]⟩)))]),O1 16 (.fldA 0 (.tmp 1)),O1 17 (.load none (.tmp 16)),O1 18 (.app 9 1 16 (.tmp 15) (.tmp 17)),O1 19 (.callF 30 [(.tmp 18),(.const (.string ⟨#[32]⟩))]),O1 20 (.callF 29 [(.tmp 5),(.tmp 19)])] [1,5]) (.seq (.ops [O1 21 (.callF 31 [(.tmp 5),(.const (.int .u8 10))])] [1,5]) (.seq (.seq (.ops [O1 22 (.fldA 2 (.tmp 1)),O1 23 (.load none (.tmp 22)),O1 24 (.len false (.tmp 23)),O1 25 (.mov (.const (.int .i64 0)))] [1,5,23,24,25]) (.block 0 (.loop [1,5,23,24,25] c10l1))) (.seq (.seq (.ops [O1 49 (.callF 33 [.tmp 5]),O1 50 (.bin .gtr (.tmp 49) (.const (.int .i64 8000)))] [5,50]) (.cond (.tmp 50) (.seq (.ops [O1 2 (.mov (.const (.string ⟨#[]⟩))),O1 3 (.mov (.const (.int .i64 4)))] [2,3]) (.ret)) (.skip))) (.seq (.ops [O1 51 (.callF 34 [.tmp 5]),O1 2 (.mov (.tmp 51)),O1 3 (.mov (.const (.int .i64 0)))] [2,3]) (.ret)))))))),52,[(2,none),(3,none)],true⟩
theorem ok10:FunOK Tryd.prog 10 c10:= .code ⟨Tryd.f10,_,c10.code,Tryd.func10,rfl,by kernel_rfl,rfl,by kernel_rfl,by kernel_rfl⟩
/- raddle/raddleref40.Text -/
def c11l0:AC:= .seq (.seq (.ops [O1 44 (.mov (.tmp 8)),O1 45 (.fldA 2 (.tmp 1)),O1 46 (.load none (.tmp 45)),O1 47 (.mov (.tmp 7)),O1 48 (.idxS 1 (.tmp 46) (.tmp 47)),O1 49 (.load none (.tmp 48)),O1 50 (.len false (.tmp 49)),O1 51 (.bin .lss (.tmp 44) (.tmp 50))] [1,5,7,8,51]) (.cond (.tmp 51) (.skip) (.exit 4))) (.seq (.block 5 (.ops [O1 54 (.mov (.tmp 5)),O1 55 (.bin .add (.tmp 54) (.const (.string ⟨#[32]⟩))),O1 56 (.fldA 2 (.tmp 1)),O1 57 (.load none (.tmp 56)),O1 58 (.mov (.tmp 7)),O1 59 (.idxS 1 (.tmp 57) (.tmp 58)),O1 60 (.load none (.tmp 59)),O1 61 (.mov (.tmp 8)),O1 62 (.idxS 1 (.tmp 60) (.tmp 61)),O1 63 (.load none (.tmp 62)),O1 64 (.callF 35 [.tmp 63]),O1 65 (.bin .add (.tmp 55) (.tmp 64)),O1 5 (.mov (.tmp 65))] [1,5,7,8])) (.ops [O1 52 (.mov (.tmp 8)),O1 53 (.bin .add (.tmp 52) (.const (.int .i64 1))),O1 8 (.mov (.tmp 53))] [1,5,7,8]))
def c11l1:AC:= .seq (.seq (.ops [O1 29 (.mov (.tmp 7)),O1 30 (.fldA 2 (.tmp 1)),O1 31 (.load none (.tmp 30)),O1 32 (.len false (.tmp 31)),O1 33 (.bin .lss (.tmp 29) (.tmp 32))] [1,5,7,33]) (.cond (.tmp 33) (.skip) (.exit 2))) (.seq (.block 3 (.seq (.ops [O1 36 (.mov (.tmp 5)),O1 37 (.bin .add (.tmp 36) (.const (.string ⟨#[10]⟩))),O1 38 (.fldA 1 (.tmp 1)),O1 39 (.load none (.tmp 38)),O1 40 (.mov (.tmp 7)),O1 41 (.idxS 1 (.tmp 39) (.tmp 40)),O1 42 (.load none (.tmp 41)),O1 43 (.bin .add (.tmp 37) (.tmp 42)),O1 5 (.mov (.tmp 43))] [1,5,7]) (.seq (.ops [O1 8 (.mov (.const (.int .i64 0)))] [1,5,7,8]) (.block 4 (.loop [1,5,7,8] c11l0))))) (.ops [O1 34 (.mov (.tmp 7)),O1 35 (.bin .add (.tmp 34) (.const (.int .i64 1))),O1 7 (.mov (.tmp 35))] [1,5,7]))
def c11l2:AC:= .seq (.seq (.ops [O1 14 (.mov (.tmp 6)),O1 15 (.fldA 0 (.tmp 1)),O1 16 (.load none (.tmp 15)),O1 17 (.len false (.tmp 16)),O1 18 (.bin .lss (.tmp 14) (.tmp 17))] [1,5,6,18]) (.cond (.tmp 18) (.skip) (.exit 0))) (.seq (.block 1 (.ops [O1 21 (.mov (.tmp 5)),O1 22 (.bin .add (.tmp 21) (.const (.string ⟨#[32]⟩))),O1 23 (.fldA 0 (.tmp 1)),O1 24 (.load none (.tmp 23)),O1 25 (.mov (.tmp 6)),O1 26 (.idxS 1 (.tmp 24) (.tmp 25)),O1 27 (.load none (.tmp 26)),O1 28 (.bin .add (.tmp 22) (.tmp 27)),O1 5 (.mov (.tmp 28))] [1,5,6])) (.ops [O1 19 (.mov (.tmp 6)),O1 20 (.bin .add (.tmp 19) (.const (.int .i64 1))),O1 6 (.mov (.tmp 20))] [1,5,6]))
def c11:AFun:=⟨.seq (.ops [O1 1 (.box 25 (.tmp 0)),O1 2 (.mov (.const (.string ⟨#[]⟩))),O1 3 (.mov (.const (.int .i64 0)))] [1]) (.seq (.seq (.ops [O1 9 (.load (some 3) (.tmp 1)),O1 10 (.callF 16 [.tmp 9]),O1 4 (.mov (.tmp 10))] [1,4]) (.seq (.ops [O1 11 (.mov (.tmp 4)),O1 12 (.bin .neq (.tmp 11) (.const (.int .i64 0)))] [1,4,12]) (.cond (.tmp 12) (.seq (.ops [O1 13 (.mov (.tmp 4)),O1 2 (.mov (.const (.string ⟨#[]⟩))),O1 3 (.mov (.tmp 13))] [2,3]) (.ret)) (.skip)))) (.seq (.ops [O1 5 (.mov (.const (.string ⟨#[115,105,122,101]⟩)))] [1,5]) (.seq (.seq (.ops [O1 6 (.mov (.const (.int .i64 0)))] [1,5,6]) (.block 0 (.loop [1,5,6] c11l2))) (.seq (.seq (.ops [O1 7 (.mov (.const (.int .i64 0)))] [1,5,7]) (.block 2 (.loop [1,5,7] c11l1))) (.seq (.ops [O1 66 (.mov (.tmp 5)),O1 67 (.bin .add (.tmp 66) (.const (.string ⟨#[10]⟩))),O1 5 (.mov (.tmp 67))] [5]) (.seq (.seq (.ops [O1 68 (.mov (.tmp 5)),O1 69 (.len true (.tmp 68)),O1 70 (.bin .gtr (.tmp 69) (.const (.int .i64 8000)))] [5,70]) (.cond (.tmp 70) (.seq (.ops [O1 2 (.mov (.const (.string ⟨#[]⟩))),O1 3 (.mov (.const (.int .i64 4)))] [2,3]) (.ret)) (.skip))) (.seq (.ops [O1 71 (.mov (.tmp 5)),O1 2 (.mov (.tmp 71)),O1 3 (.mov (.const (.int .i64 0)))] [2,3]) (.ret)))))))),72,[(2,none),(3,none)],true⟩
theorem ok11:FunOK Tryd.prog 11 c11:= .code ⟨Tryd.f11,_,c11.code,Tryd.func11,rfl,by kernel_rfl,rfl,by kernel_rfl,by kernel_rfl⟩
/- raddle/grade.Parse -/
def c12l0:AC:= .seq (.ops [O1 42 (.bin .lss (.tmp 41) (.tmp 40))] [0,2,4,7,8,21,22,23,39,40,41,42]) (.seq (.cond (.tmp 42) (.skip) (.exit 2)) (.seq (.block 3 (.seq (.ops [O1 43 (.idxS 1 (.tmp 39) (.tmp 41)),O1 44 (.load none (.tmp 43)),O1 10 (.mov (.tmp 44))] [0,2,4,7,8,10,21,22,23,39,40,41]) (.seq (.ops [O1 46 (.mov (.tmp 10)),O1 47 (.callF 38 [.tmp 46]),O1 45 (.mov (.tmp 47)),O1 48 (.ext (.tmp 45) 0),O1 49 (.ext (.tmp 45) 1),O1 11 (.mov (.tmp 48)),O1 12 (.mov (.tmp 49))] [0,2,4,7,8,11,12,21,22,23,39,40,41]) (.seq (.seq (.ops [O1 50 (.mov (.tmp 12)),O1 51 (.eqIf true true [2,3,5,6,12,21,27,97,105,116,124,146,147,149,150] (.tmp 50) (.const .nilIface))] [0,2,4,7,8,11,21,22,23,39,40,41,51]) (.cond (.tmp 51) (.seq (.ops [O1 52 (.build [(.slice none 0 0),(.slice none 0 0),(.slice none 0 0)] []),⟨none,none,.store 3 (.tmp 2) (.tmp 52)⟩,O1 3 (.mov (.const (.int .i64 12)))] [2,3]) (.ret)) (.skip))) (.ops [O1 53 (.mov (.tmp 8)),O1 54 (.mov (.tmp 11)),O1 55 (.mkRow 3 1 1 [(.int .i64 0)] [(0,1,(.tmp 54))]),O1 56 (.app 3 1 8 (.tmp 53) (.tmp 55)),O1 8 (.mov (.tmp 56))] [0,2,4,7,8,21,22,23,39,40,41]))))) (.ops [O1 57 (.bin .add (.tmp 41) (.const (.int .i64 1))),O1 41 (.mov (.tmp 57))] [0,2,4,7,8,21,22,23,39,40,41])))
def c12l1:AC:= .seq (.ops [O1 24 (.bin .lss (.tmp 23) (.tmp 22))] [0,2,4,21,22,23,24]) (.seq (.cond (.tmp 24) (.skip) (.exit 0)) (.seq (.block 1 (.seq (.ops [O1 25 (.mov (.tmp 23)),O1 26 (.idxS 1 (.tmp 21) (.tmp 23)),O1 27 (.load none (.tmp 26)),O1 5 (.mov (.tmp 25)),O1 6 (.mov (.tmp 27))] [0,2,4,5,6,21,22,23]) (.seq (.ops [O1 28 (.mov (.tmp 6)),O1 29 (.callF 36 [(.tmp 28),(.const (.string ⟨#[32]⟩))]),O1 7 (.mov (.tmp 29))] [0,2,4,5,7,21,22,23]) (.seq (.seq (.ops [O1 30 (.mov (.tmp 5)),O1 31 (.bin .eql (.tmp 30) (.const (.int .i64 0)))] [0,2,4,7,21,22,23,31]) (.cond (.tmp 31) (.seq (.ops [O1 32 (.mov (.tmp 7)),O1 33 (.slc 1 (.tmp 32) (some (.const (.int .i64 1))) none none),O1 34 (.fldA 0 (.tmp 4)),⟨none,none,.store 1 (.tmp 34) (.tmp 33)⟩] [0,2,4,21,22,23]) (.exit 1)) (.skip))) (.seq (.ops [O1 35 (.mov (.tmp 7)),O1 36 (.len false (.tmp 35)),O1 37 (.mkSlice 3 1 8 [(.int .i64 0)] (.const (.int .i64 0)) (.tmp 36)),O1 8 (.mov (.tmp 37))] [0,2,4,7,8,21,22,23]) (.seq (.seq (.ops [O1 38 (.mov (.tmp 7)),O1 39 (.slc 1 (.tmp 38) (some (.const (.int .i64 1))) none none),O1 40 (.len false (.tmp 39)),O1 41 (.mov (.const (.int .i64 0)))] [0,2,4,7,8,21,22,23,39,40,41]) (.block 2 (.loop [0,2,4,7,8,21,22,23,39,40,41] c12l0))) (.drawW [⟨O1 58 (.fldA 1 (.tmp 4)),[],none⟩,⟨O1 59 (.load none (.tmp 58)),[],none⟩,⟨O1 60 (.mov (.tmp 7)),[0,1],none⟩,⟨O1 61 (.idxS 1 (.tmp 60) (.const (.int .i64 0))),[0,1],none⟩,⟨O1 62 (.load none (.tmp 61)),[0,1],none⟩,⟨O1 63 (.mkRow 9 1 1 [(.string ⟨#[]⟩)] [(0,1,(.tmp 62))]),[0,1],none⟩,⟨O1 64 (.app 9 1 16 (.tmp 59) (.tmp 63)),[],none⟩,⟨O1 65 (.fldA 2 (.tmp 4)),[0,1,2,3,4,5,6],none⟩,⟨O1 66 (.load none (.tmp 65)),[0,1,2,3,4,5,6],none⟩,⟨O1 67 (.mov (.tmp 8)),[0,1,2,3,4,5,6,7,8],none⟩,⟨O1 68 (.mkRow 40 1 1 [(.slice none 0 0)] [(0,1,(.tmp 67))]),[0,1,2,3,4,5,6,7,8],none⟩,⟨O1 69 (.app 40 1 24 (.tmp 66) (.tmp 68)),[],none⟩,⟨O1 70 (.fldA 1 (.tmp 4)),[9,10,11],none⟩] [⟨none,none,.store 1 (.tmp 70) (.tmp 64)⟩,O1 71 (.fldA 2 (.tmp 4)),⟨none,none,.store 1 (.tmp 71) (.tmp 69)⟩] [0,2,4,21,22,23]))))))) (.ops [O1 72 (.bin .add (.tmp 23) (.const (.int .i64 1))),O1 23 (.mov (.tmp 72))] [0,2,4,21,22,23])))
def c12:AFun:=⟨.seq (.ops [O1 2 (.alloc 25 [(3,(.slice none 0 0))]),O1 3 (.mov (.const (.int .i64 0)))] [0,2]) (.seq (.seq (.ops [O1 15 (.mov (.tmp 0)),O1 16 (.len true (.tmp 15)),O1 17 (.bin .gtr (.tmp 16) (.const (.int .i64 8000)))] [0,2,17]) (.cond (.tmp 17) (.seq (.ops [O1 18 (.build [(.slice none 0 0),(.slice none 0 0),(.slice none 0 0)] []),⟨none,none,.store 3 (.tmp 2) (.tmp 18)⟩,O1 3 (.mov (.const (.int .i64 12)))] [2,3]) (.ret)) (.skip))) (.seq (.ops [O1 4 (.alloc 25 [(3,(.slice none 0 0))])] [0,2,4]) (.seq (.seq (.ops [O1 19 (.mov (.tmp 0)),O1 20 (.callF 37 [(.tmp 19),(.const (.string ⟨#[10]⟩))]),O1 21 (.callF 36 [(.tmp 20),(.const (.string ⟨#[10]⟩))]),O1 22 (.len false (.tmp 21)),O1 23 (.mov (.const (.int .i64 0)))] [0,2,4,21,22,23]) (.block 0 (.loop [0,2,4,21,22,23] c12l1))) (.seq (.seq (.ops [O1 74 (.load (some 3) (.tmp 4)),O1 75 (.callF 10 [.tmp 74]),O1 73 (.mov (.tmp 75)),O1 76 (.ext (.tmp 73) 0),O1 77 (.ext (.tmp 73) 1),O1 13 (.mov (.tmp 76)),O1 14 (.mov (.tmp 77))] [0,2,4,13,14]) (.seq (.ops [O1 78 (.mov (.tmp 14)),O1 79 (.bin .neq (.tmp 78) (.const (.int .i64 0))),O1 80 (.mov (.tmp 79)),⟨some 81,some (80,false),.mov (.tmp 13)⟩,⟨some 82,some (80,false),.mov (.tmp 0)⟩,⟨some 83,some (80,false),.bin .neq (.tmp 81) (.tmp 82)⟩,O1 84 (.pick (.tmp 80) (.const (.bool true)) (.tmp 83))] [2,4,84]) (.cond (.tmp 84) (.seq (.ops [O1 85 (.build [(.slice none 0 0),(.slice none 0 0),(.slice none 0 0)] []),⟨none,none,.store 3 (.tmp 2) (.tmp 85)⟩,O1 3 (.mov (.const (.int .i64 12)))] [2,3]) (.ret)) (.skip)))) (.seq (.ops [O1 86 (.load (some 3) (.tmp 4)),⟨none,none,.store 3 (.tmp 2) (.tmp 86)⟩,O1 3 (.mov (.const (.int .i64 0)))] [2,3]) (.ret)))))),87,[(2,(some (some 3))),(3,none)],true⟩
theorem ok12:FunOK Tryd.prog 12 c12:= .code ⟨Tryd.f12,_,c12.code,Tryd.func12,rfl,by kernel_rfl,rfl,by kernel_rfl,by kernel_rfl⟩
/- raddle/raddleref40.Parse -/
def c13l0:AC:= .seq (.seq (.ops [O1 66 (.mov (.tmp 9)),O1 67 (.mov (.tmp 7)),O1 68 (.len false (.tmp 67)),O1 69 (.bin .lss (.tmp 66) (.tmp 68))] [0,2,4,5,6,7,8,9,69]) (.cond (.tmp 69) (.skip) (.exit 2))) (.seq (.block 3 (.seq (.ops [O1 73 (.mov (.tmp 7)),O1 74 (.mov (.tmp 9)),O1 75 (.idxS 1 (.tmp 73) (.tmp 74)),O1 76 (.load none (.tmp 75)),O1 77 (.callF 40 [.tmp 76]),O1 72 (.mov (.tmp 77)),O1 78 (.ext (.tmp 72) 0),O1 79 (.ext (.tmp 72) 1),O1 10 (.mov (.tmp 78)),O1 11 (.mov (.tmp 79))] [0,2,4,5,6,7,8,9,10,11]) (.seq (.seq (.ops [O1 80 (.mov (.tmp 11)),O1 81 (.un .not (.tmp 80))] [0,2,4,5,6,7,8,9,10,81]) (.cond (.tmp 81) (.seq (.ops [O1 82 (.build [(.slice none 0 0),(.slice none 0 0),(.slice none 0 0)] []),⟨none,none,.store 3 (.tmp 2) (.tmp 82)⟩,O1 3 (.mov (.const (.int .i64 12)))] [2,3]) (.ret)) (.skip))) (.ops [O1 83 (.mov (.tmp 8)),O1 84 (.mov (.tmp 10)),O1 85 (.mkRow 3 1 1 [(.int .i64 0)] [(0,1,(.tmp 84))]),O1 86 (.app 3 1 8 (.tmp 83) (.tmp 85)),O1 8 (.mov (.tmp 86))] [0,2,4,5,6,7,8,9])))) (.ops [O1 70 (.mov (.tmp 9)),O1 71 (.bin .add (.tmp 70) (.const (.int .i64 1))),O1 9 (.mov (.tmp 71))] [0,2,4,5,6,7,8,9]))
def c13l1:AC:= .seq (.seq (.ops [O1 37 (.mov (.tmp 6)),O1 38 (.mov (.tmp 5)),O1 39 (.len false (.tmp 38)),O1 40 (.bin .lss (.tmp 37) (.tmp 39))] [0,2,4,5,6,40]) (.cond (.tmp 40) (.skip) (.exit 0))) (.seq (.block 1 (.seq (.ops [O1 43 (.mov (.tmp 5)),O1 44 (.mov (.tmp 6)),O1 45 (.idxS 1 (.tmp 43) (.tmp 44)),O1 46 (.load none (.tmp 45)),O1 47 (.callF 39 [(.tmp 46),(.const (.int .u8 32))]),O1 7 (.mov (.tmp 47))] [0,2,4,5,6,7]) (.seq (.seq (.ops [O1 48 (.mov (.tmp 6)),O1 49 (.bin .eql (.tmp 48) (.const (.int .i64 0)))] [0,2,4,5,6,7,49]) (.cond (.tmp 49) (.seq (.ops [O1 50 (.mov (.tmp 7)),O1 51 (.slc 1 (.tmp 50) (some (.const (.int .i64 1))) none none),O1 52 (.fldA 0 (.tmp 4)),⟨none,none,.store 1 (.tmp 52) (.tmp 51)⟩] [0,2,4,5,6,7]) (.seq (.seq (.ops [O1 53 (.mov (.tmp 7)),O1 54 (.idxS 1 (.tmp 53) (.const (.int .i64 0))),O1 55 (.load none (.tmp 54)),O1 56 (.bin .neq (.tmp 55) (.const (.string ⟨#[115,105,122,101]⟩)))] [0,2,4,5,6,56]) (.cond (.tmp 56) (.seq (.ops [O1 57 (.build [(.slice none 0 0),(.slice none 0 0),(.slice none 0 0)] []),⟨none,none,.store 3 (.tmp 2) (.tmp 57)⟩,O1 3 (.mov (.const (.int .i64 12)))] [2,3]) (.ret)) (.skip))) (.exit 1))) (.skip))) (.seq (.draw [O1 58 (.fldA 1 (.tmp 4)),O1 59 (.load none (.tmp 58)),O1 60 (.mov (.tmp 7)),O1 61 (.idxS 1 (.tmp 60) (.const (.int .i64 0))),O1 62 (.load none (.tmp 61)),O1 63 (.mkRow 9 1 1 [(.string ⟨#[]⟩)] [(0,1,(.tmp 62))])] [O1 64 (.app 9 1 16 (.tmp 59) (.tmp 63)),O1 65 (.fldA 1 (.tmp 4)),⟨none,none,.store 1 (.tmp 65) (.tmp 64)⟩] [[],[],[],[],[],[]] [0,2,4,5,6,7]) (.seq (.ops [O1 8 (.mov (.const (.slice none 0 0)))] [0,2,4,5,6,7,8]) (.seq (.seq (.ops [O1 9 (.mov (.const (.int .i64 1)))] [0,2,4,5,6,7,8,9]) (.block 2 (.loop [0,2,4,5,6,7,8,9] c13l0))) (.ops [O1 87 (.fldA 2 (.tmp 4)),O1 88 (.load none (.tmp 87)),O1 89 (.mov (.tmp 8)),O1 90 (.mkRow 40 1 1 [(.slice none 0 0)] [(0,1,(.tmp 89))]),O1 91 (.app 40 1 24 (.tmp 88) (.tmp 90)),O1 92 (.fldA 2 (.tmp 4)),⟨none,none,.store 1 (.tmp 92) (.tmp 91)⟩] [0,2,4,5,6]))))))) (.ops [O1 41 (.mov (.tmp 6)),O1 42 (.bin .add (.tmp 41) (.const (.int .i64 1))),O1 6 (.mov (.tmp 42))] [0,2,4,5,6]))
def c13:AFun:=⟨.seq (.ops [O1 2 (.alloc 25 [(3,(.slice none 0 0))]),O1 3 (.mov (.const (.int .i64 0)))] [0,2]) (.seq (.seq (.ops [O1 14 (.mov (.tmp 0)),O1 15 (.len true (.tmp 14)),O1 16 (.bin .gtr (.tmp 15) (.const (.int .i64 8000))),O1 17 (.mov (.tmp 16)),⟨some 18,some (17,false),.mov (.tmp 0)⟩,⟨some 19,some (17,false),.len true (.tmp 18)⟩,⟨some 20,some (17,false),.bin .eql (.tmp 19) (.const (.int .i64 0))⟩,O1 21 (.pick (.tmp 17) (.const (.bool true)) (.tmp 20)),O1 22 (.mov (.tmp 21)),⟨some 23,some (22,false),.mov (.tmp 0)⟩,⟨some 24,some (22,false),.mov (.tmp 0)⟩,⟨some 25,some (22,false),.len true (.tmp 24)⟩,⟨some 26,some (22,false),.bin .sub (.tmp 25) (.const (.int .i64 1))⟩,⟨some 27,some (22,false),.idxStr (.tmp 23) (.tmp 26)⟩,⟨some 28,some (22,false),.bin .neq (.tmp 27) (.const (.int .u8 10))⟩,O1 29 (.pick (.tmp 22) (.const (.bool true)) (.tmp 28))] [0,2,29]) (.cond (.tmp 29) (.seq (.ops [O1 30 (.build [(.slice none 0 0),(.slice none 0 0),(.slice none 0 0)] []),⟨none,none,.store 3 (.tmp 2) (.tmp 30)⟩,O1 3 (.mov (.const (.int .i64 12)))] [2,3]) (.ret)) (.skip))) (.seq (.ops [O1 4 (.alloc 25 [(3,(.slice none 0 0))])] [0,2,4]) (.seq (.ops [O1 31 (.mov (.tmp 0)),O1 32 (.mov (.tmp 0)),O1 33 (.len true (.tmp 32)),O1 34 (.bin .sub (.tmp 33) (.const (.int .i64 1))),O1 35 (.slcS (.tmp 31) none (some (.tmp 34))),O1 36 (.callF 39 [(.tmp 35),(.const (.int .u8 10))]),O1 5 (.mov (.tmp 36))] [0,2,4,5]) (.seq (.seq (.ops [O1 6 (.mov (.const (.int .i64 0)))] [0,2,4,5,6]) (.block 0 (.loop [0,2,4,5,6] c13l1))) (.seq (.ops [O1 94 (.load (some 3) (.tmp 4)),O1 95 (.callF 11 [.tmp 94]),O1 93 (.mov (.tmp 95)),O1 96 (.ext (.tmp 93) 0),O1 97 (.ext (.tmp 93) 1),O1 12 (.mov (.tmp 96)),O1 13 (.mov (.tmp 97))] [0,2,4,12,13]) (.seq (.seq (.ops [O1 98 (.mov (.tmp 13)),O1 99 (.bin .neq (.tmp 98) (.const (.int .i64 0))),O1 100 (.mov (.tmp 99)),⟨some 101,some (100,false),.mov (.tmp 12)⟩,⟨some 102,some (100,false),.mov (.tmp 0)⟩,⟨some 103,some (100,false),.bin .neq (.tmp 101) (.tmp 102)⟩,O1 104 (.pick (.tmp 100) (.const (.bool true)) (.tmp 103))] [2,4,104]) (.cond (.tmp 104) (.seq (.ops [O1 105 (.build [(.slice none 0 0),(.slice none 0 0),(.slice none 0 0)] []),⟨none,none,.store 3 (.tmp 2) (.tmp 105)⟩,O1 3 (.mov (.const (.int .i64 12)))] [2,3]) (.ret)) (.skip))) (.seq (.ops [O1 106 (.load (some 3) (.tmp 4)),⟨none,none,.store 3 (.tmp 2) (.tmp 106)⟩,O1 3 (.mov (.const (.int .i64 0)))] [2,3]) (.ret)))))))),107,[(2,(some (some 3))),(3,none)],true⟩
theorem ok13:FunOK Tryd.prog 13 c13:= .code ⟨Tryd.f13,_,c13.code,Tryd.func13,rfl,by kernel_rfl,rfl,by kernel_rfl,by kernel_rfl⟩
/- raddle/raddleref40.Same -/
def c14l0:AC:= .seq (.seq (.ops [O1 69 (.mov (.tmp 7)),O1 70 (.fldA 2 (.tmp 2)),O1 71 (.load none (.tmp 70)),O1 72 (.len false (.tmp 71)),O1 73 (.bin .lss (.tmp 69) (.tmp 72))] [2,3,7,73]) (.cond (.tmp 73) (.skip) (.exit 4))) (.seq (.block 5 (.seq (.draw [O1 76 (.fldA 2 (.tmp 2)),O1 77 (.load none (.tmp 76)),O1 78 (.mov (.tmp 7)),O1 79 (.idxS 1 (.tmp 77) (.tmp 78)),O1 80 (.load none (.tmp 79)),O1 81 (.fldA 2 (.tmp 3)),O1 82 (.load none (.tmp 81)),O1 83 (.mov (.tmp 7)),O1 84 (.idxS 1 (.tmp 82) (.tmp 83)),O1 85 (.load none (.tmp 84))] [O1 86 (.callF 28 [(.tmp 80),(.tmp 85)]),O1 87 (.un .not (.tmp 86))] [[],[],[],[],[],[],[],[],[],[]] [2,3,7,87]) (.cond (.tmp 87) (.seq (.ops [O1 4 (.mov (.const (.bool false)))] [4]) (.ret)) (.skip)))) (.ops [O1 74 (.mov (.tmp 7)),O1 75 (.bin .add (.tmp 74) (.const (.int .i64 1))),O1 7 (.mov (.tmp 75))] [2,3,7]))
def c14l1:AC:= .seq (.seq (.ops [O1 51 (.mov (.tmp 6)),O1 52 (.fldA 1 (.tmp 2)),O1 53 (.load none (.tmp 52)),O1 54 (.len false (.tmp 53)),O1 55 (.bin .lss (.tmp 51) (.tmp 54))] [2,3,6,55]) (.cond (.tmp 55) (.skip) (.exit 2))) (.seq (.block 3 (.seq (.draw [O1 58 (.fldA 1 (.tmp 2)),O1 59 (.load none (.tmp 58)),O1 60 (.mov (.tmp 6)),O1 61 (.idxS 1 (.tmp 59) (.tmp 60)),O1 62 (.load none (.tmp 61)),O1 63 (.fldA 1 (.tmp 3)),O1 64 (.load none (.tmp 63)),O1 65 (.mov (.tmp 6)),O1 66 (.idxS 1 (.tmp 64) (.tmp 65)),O1 67 (.load none (.tmp 66))] [O1 68 (.bin .neq (.tmp 62) (.tmp 67))] [[],[],[],[],[],[],[],[],[],[]] [2,3,6,68]) (.cond (.tmp 68) (.seq (.ops [O1 4 (.mov (.const (.bool false)))] [4]) (.ret)) (.skip)))) (.ops [O1 56 (.mov (.tmp 6)),O1 57 (.bin .add (.tmp 56) (.const (.int .i64 1))),O1 6 (.mov (.tmp 57))] [2,3,6]))
def c14l2:AC:= .seq (.seq (.ops [O1 33 (.mov (.tmp 5)),O1 34 (.fldA 0 (.tmp 2)),O1 35 (.load none (.tmp 34)),O1 36 (.len false (.tmp 35)),O1 37 (.bin .lss (.tmp 33) (.tmp 36))] [2,3,5,37]) (.cond (.tmp 37) (.skip) (.exit 0))) (.seq (.block 1 (.seq (.draw [O1 40 (.fldA 0 (.tmp 2)),O1 41 (.load none (.tmp 40)),O1 42 (.mov (.tmp 5)),O1 43 (.idxS 1 (.tmp 41) (.tmp 42)),O1 44 (.load none (.tmp 43)),O1 45 (.fldA 0 (.tmp 3)),O1 46 (.load none (.tmp 45)),O1 47 (.mov (.tmp 5)),O1 48 (.idxS 1 (.tmp 46) (.tmp 47)),O1 49 (.load none (.tmp 48))] [O1 50 (.bin .neq (.tmp 44) (.tmp 49))] [[],[],[],[],[],[],[],[],[],[]] [2,3,5,50]) (.cond (.tmp 50) (.seq (.ops [O1 4 (.mov (.const (.bool false)))] [4]) (.ret)) (.skip)))) (.ops [O1 38 (.mov (.tmp 5)),O1 39 (.bin .add (.tmp 38) (.const (.int .i64 1))),O1 5 (.mov (.tmp 39))] [2,3,5]))
def c14:AFun:=⟨.seq (.ops [O1 2 (.box 25 (.tmp 0)),O1 3 (.box 25 (.tmp 1)),O1 4 (.mov (.const (.bool false)))] [2,3]) (.seq (.seq (.ops [O1 8 (.fldA 0 (.tmp 2)),O1 9 (.load none (.tmp 8)),O1 10 (.len false (.tmp 9)),O1 11 (.fldA 0 (.tmp 3)),O1 12 (.load none (.tmp 11)),O1 13 (.len false (.tmp 12)),O1 14 (.bin .neq (.tmp 10) (.tmp 13)),O1 15 (.mov (.tmp 14)),⟨some 16,some (15,false),.fldA 1 (.tmp 2)⟩,⟨some 17,some (15,false),.load none (.tmp 16)⟩,⟨some 18,some (15,false),.len false (.tmp 17)⟩,⟨some 19,some (15,false),.fldA 1 (.tmp 3)⟩,⟨some 20,some (15,false),.load none (.tmp 19)⟩,⟨some 21,some (15,false),.len false (.tmp 20)⟩,⟨some 22,some (15,false),.bin .neq (.tmp 18) (.tmp 21)⟩,O1 23 (.pick (.tmp 15) (.const (.bool true)) (.tmp 22)),O1 24 (.mov (.tmp 23)),⟨some 25,some (24,false),.fldA 2 (.tmp 2)⟩,⟨some 26,some (24,false),.load none (.tmp 25)⟩,⟨some 27,some (24,false),.len false (.tmp 26)⟩,⟨some 28,some (24,false),.fldA 2 (.tmp 3)⟩,⟨some 29,some (24,false),.load none (.tmp 28)⟩,⟨some 30,some (24,false),.len false (.tmp 29)⟩,⟨some 31,some (24,false),.bin .neq (.tmp 27) (.tmp 30)⟩,O1 32 (.pick (.tmp 24) (.const (.bool true)) (.tmp 31))] [2,3,32]) (.cond (.tmp 32) (.seq (.ops [O1 4 (.mov (.const (.bool false)))] [4]) (.ret)) (.skip))) (.seq (.seq (.ops [O1 5 (.mov (.const (.int .i64 0)))] [2,3,5]) (.block 0 (.loop [2,3,5] c14l2))) (.seq (.seq (.ops [O1 6 (.mov (.const (.int .i64 0)))] [2,3,6]) (.block 2 (.loop [2,3,6] c14l1))) (.seq (.seq (.ops [O1 7 (.mov (.const (.int .i64 0)))] [2,3,7]) (.block 4 (.loop [2,3,7] c14l0))) (.seq (.ops [O1 4 (.mov (.const (.bool true)))] [4]) (.ret)))))),88,[(4,none)],true⟩
theorem ok14:FunOK Tryd.prog 14 c14:= .code ⟨Tryd.f14,_,c14.code,Tryd.func14,rfl,by kernel_rfl,rfl,by kernel_rfl,by kernel_rfl⟩
/- raddle/raddleref40.Check -/
def c16l0:AC:= .seq (.seq (.ops [O1 39 (.mov (.tmp 3)),O1 40 (.fldA 2 (.tmp 1)),O1 41 (.load none (.tmp 40)),O1 42 (.len false (.tmp 41)),O1 43 (.bin .lss (.tmp 39) (.tmp 42))] [1,3,43]) (.cond (.tmp 43) (.skip) (.exit 0))) (.seq (.block 1 (.seq (.draw [O1 46 (.fldA 2 (.tmp 1)),O1 47 (.load none (.tmp 46)),O1 48 (.mov (.tmp 3)),O1 49 (.idxS 1 (.tmp 47) (.tmp 48)),O1 50 (.load none (.tmp 49)),O1 51 (.fldA 0 (.tmp 1)),O1 52 (.load none (.tmp 51)),O1 53 (.len false (.tmp 52))] [O1 54 (.callF 43 [(.tmp 50),(.tmp 53)]),O1 55 (.un .not (.tmp 54))] [[],[],[],[],[],[],[],[]] [1,3,55]) (.cond (.tmp 55) (.seq (.ops [O1 2 (.mov (.const (.int .i64 8)))] [2]) (.ret)) (.skip)))) (.ops [O1 44 (.mov (.tmp 3)),O1 45 (.bin .add (.tmp 44) (.const (.int .i64 1))),O1 3 (.mov (.tmp 45))] [1,3]))
def c16:AFun:=⟨.seq (.ops [O1 1 (.box 25 (.tmp 0)),O1 2 (.mov (.const (.int .i64 0)))] [1]) (.seq (.seq (.ops [O1 4 (.fldA 0 (.tmp 1)),O1 5 (.load none (.tmp 4)),O1 6 (.len false (.tmp 5)),O1 7 (.bin .gtr (.tmp 6) (.const (.int .i64 20))),O1 8 (.mov (.tmp 7)),⟨some 9,some (8,false),.fldA 1 (.tmp 1)⟩,⟨some 10,some (8,false),.load none (.tmp 9)⟩,⟨some 11,some (8,false),.len false (.tmp 10)⟩,⟨some 12,some (8,false),.bin .gtr (.tmp 11) (.const (.int .i64 30))⟩,O1 13 (.pick (.tmp 8) (.const (.bool true)) (.tmp 12))] [1,13]) (.cond (.tmp 13) (.seq (.ops [O1 2 (.mov (.const (.int .i64 4)))] [2]) (.ret)) (.skip))) (.seq (.seq (.ops [O1 14 (.fldA 0 (.tmp 1)),O1 15 (.load none (.tmp 14)),O1 16 (.callF 42 [.tmp 15]),O1 17 (.un .not (.tmp 16)),O1 18 (.mov (.tmp 17)),⟨some 19,some (18,false),.fldA 1 (.tmp 1)⟩,⟨some 20,some (18,false),.load none (.tmp 19)⟩,⟨some 21,some (18,false),.callF 42 [.tmp 20]⟩,⟨some 22,some (18,false),.un .not (.tmp 21)⟩,O1 23 (.pick (.tmp 18) (.const (.bool true)) (.tmp 22)),O1 24 (.mov (.tmp 23)),⟨some 25,some (24,false),.fldA 1 (.tmp 1)⟩,⟨some 26,some (24,false),.load none (.tmp 25)⟩,⟨some 27,some (24,false),.callF 24 [(.tmp 26),(.const (.string ⟨#[115,105,122,101]⟩))]⟩,⟨some 28,some (24,false),.bin .geq (.tmp 27) (.const (.int .i64 0))⟩,O1 29 (.pick (.tmp 24) (.const (.bool true)) (.tmp 28)),O1 30 (.mov (.tmp 29)),⟨some 31,some (30,false),.fldA 2 (.tmp 1)⟩,⟨some 32,some (30,false),.load none (.tmp 31)⟩,⟨some 33,some (30,false),.len false (.tmp 32)⟩,⟨some 34,some (30,false),.fldA 1 (.tmp 1)⟩,⟨some 35,some (30,false),.load none (.tmp 34)⟩,⟨some 36,some (30,false),.len false (.tmp 35)⟩,⟨some 37,some (30,false),.bin .neq (.tmp 33) (.tmp 36)⟩,O1 38 (.pick (.tmp 30) (.const (.bool true)) (.tmp 37))] [1,38]) (.cond (.tmp 38) (.seq (.ops [O1 2 (.mov (.const (.int .i64 8)))] [2]) (.ret)) (.skip))) (.seq (.seq (.ops [O1 3 (.mov (.const (.int .i64 0)))] [1,3]) (.block 0 (.loop [1,3] c16l0))) (.seq (.seq (.ops [O1 56 (.fldA 0 (.tmp 1)),O1 57 (.load none (.tmp 56)),O1 58 (.callF 44 [.tmp 57]),O1 59 (.mov (.tmp 58)),⟨some 60,some (59,false),.fldA 1 (.tmp 1)⟩,⟨some 61,some (59,false),.load none (.tmp 60)⟩,⟨some 62,some (59,false),.callF 44 [.tmp 61]⟩,O1 63 (.pick (.tmp 59) (.const (.bool true)) (.tmp 62))] [63]) (.cond (.tmp 63) (.seq (.ops [O1 2 (.mov (.const (.int .i64 14)))] [2]) (.ret)) (.skip))) (.seq (.ops [O1 2 (.mov (.const (.int .i64 0)))] [2]) (.ret)))))),64,[(2,none)],true⟩
theorem ok16:FunOK Tryd.prog 16 c16:= .code ⟨Tryd.f16,_,c16.code,Tryd.func16,rfl,by kernel_rfl,rfl,by kernel_rfl,by kernel_rfl⟩
/- raddle/grade.Check -/
def c19l0:AC:= .seq (.ops [O1 71 (.bin .lss (.tmp 70) (.tmp 69))] [1,4,6,9,56,57,58,68,69,70,71]) (.seq (.cond (.tmp 71) (.skip) (.exit 2)) (.seq (.block 3 (.seq (.ops [O1 72 (.idxS 1 (.tmp 68) (.tmp 70)),O1 73 (.load none (.tmp 72)),O1 11 (.mov (.tmp 73))] [1,4,6,9,11,56,57,58,68,69,70]) (.seq (.seq (.ops [O1 74 (.mov (.tmp 11)),O1 75 (.mov (.tmp 9)),O1 76 (.bin .lss (.tmp 74) (.tmp 75)),O1 77 (.mov (.tmp 76)),⟨some 78,some (77,false),.mov (.tmp 11)⟩,⟨some 79,some (77,false),.bin .gtr (.tmp 78) (.const (.int .i64 1000000))⟩,O1 80 (.pick (.tmp 77) (.const (.bool true)) (.tmp 79))] [1,4,6,11,56,57,58,68,69,70,80]) (.cond (.tmp 80) (.seq (.ops [O1 2 (.mov (.const (.int .i64 8)))] [2]) (.ret)) (.skip))) (.ops [O1 81 (.mov (.tmp 11)),O1 9 (.mov (.tmp 81))] [1,4,6,9,56,57,58,68,69,70])))) (.ops [O1 82 (.bin .add (.tmp 70) (.const (.int .i64 1))),O1 70 (.mov (.tmp 82))] [1,4,6,9,56,57,58,68,69,70])))
def c19l1:AC:= .seq (.ops [O1 59 (.bin .lss (.tmp 58) (.tmp 57))] [1,4,6,56,57,58,59]) (.seq (.cond (.tmp 59) (.skip) (.exit 0)) (.seq (.block 1 (.seq (.ops [O1 60 (.idxS 1 (.tmp 56) (.tmp 58)),O1 61 (.load none (.tmp 60)),O1 8 (.mov (.tmp 61))] [1,4,6,8,56,57,58]) (.seq (.seq (.ops [O1 62 (.mov (.tmp 8)),O1 63 (.len false (.tmp 62)),O1 64 (.fldA 0 (.tmp 1)),O1 65 (.load none (.tmp 64)),O1 66 (.len false (.tmp 65)),O1 67 (.bin .neq (.tmp 63) (.tmp 66))] [1,4,6,8,56,57,58,67]) (.cond (.tmp 67) (.seq (.ops [O1 2 (.mov (.const (.int .i64 8)))] [2]) (.ret)) (.skip))) (.seq (.ops [O1 9 (.mov (.const (.int .i64 0)))] [1,4,6,8,9,56,57,58]) (.seq (.ops [O1 68 (.mov (.tmp 8)),O1 69 (.len false (.tmp 68)),O1 70 (.mov (.const (.int .i64 0)))] [1,4,6,9,56,57,58,68,69,70]) (.block 2 (.loop [1,4,6,9,56,57,58,68,69,70] c19l0))))))) (.ops [O1 83 (.bin .add (.tmp 58) (.const (.int .i64 1))),O1 58 (.mov (.tmp 83))] [1,4,6,56,57,58])))
def c19:AFun:=⟨.seq (.ops [O1 1 (.box 25 (.tmp 0)),O1 2 (.mov (.const (.int .i64 0)))] [1]) (.seq (.seq (.ops [O1 12 (.fldA 0 (.tmp 1)),O1 13 (.load none (.tmp 12)),O1 14 (.len false (.tmp 13)),O1 15 (.bin .gtr (.tmp 14) (.const (.int .i64 20))),O1 16 (.mov (.tmp 15)),⟨some 17,some (16,false),.fldA 1 (.tmp 1)⟩,⟨some 18,some (16,false),.load none (.tmp 17)⟩,⟨some 19,some (16,false),.len false (.tmp 18)⟩,⟨some 20,some (16,false),.bin .gtr (.tmp 19) (.const (.int .i64 30))⟩,O1 21 (.pick (.tmp 16) (.const (.bool true)) (.tmp 20))] [1,21]) (.cond (.tmp 21) (.seq (.ops [O1 2 (.mov (.const (.int .i64 4)))] [2]) (.ret)) (.skip))) (.seq (.ops [O1 23 (.fldA 0 (.tmp 1)),O1 24 (.load none (.tmp 23)),O1 25 (.callF 47 [.tmp 24]),O1 22 (.mov (.tmp 25)),O1 26 (.ext (.tmp 22) 0),O1 27 (.ext (.tmp 22) 1),O1 3 (.mov (.tmp 26)),O1 4 (.mov (.tmp 27))] [1,3,4]) (.seq (.ops [O1 29 (.fldA 1 (.tmp 1)),O1 30 (.load none (.tmp 29)),O1 31 (.callF 47 [.tmp 30]),O1 28 (.mov (.tmp 31)),O1 32 (.ext (.tmp 28) 0),O1 33 (.ext (.tmp 28) 1),O1 5 (.mov (.tmp 32)),O1 6 (.mov (.tmp 33))] [1,3,4,5,6]) (.seq (.seq (.ops [O1 34 (.mov (.tmp 3)),O1 35 (.un .not (.tmp 34)),O1 36 (.mov (.tmp 35)),⟨some 37,some (36,false),.mov (.tmp 5)⟩,⟨some 38,some (36,false),.un .not (.tmp 37)⟩,O1 39 (.pick (.tmp 36) (.const (.bool true)) (.tmp 38)),O1 40 (.mov (.tmp 39)),⟨some 41,some (40,false),.fldA 1 (.tmp 1)⟩,⟨some 42,some (40,false),.load none (.tmp 41)⟩,⟨some 43,some (40,false),.callF 48 [(.tmp 42),(.const (.string ⟨#[115,105,122,101]⟩))]⟩,⟨some 44,some (40,false),.bin .geq (.tmp 43) (.const (.int .i64 0))⟩,O1 45 (.pick (.tmp 40) (.const (.bool true)) (.tmp 44)),O1 46 (.mov (.tmp 45)),⟨some 47,some (46,false),.fldA 2 (.tmp 1)⟩,⟨some 48,some (46,false),.load none (.tmp 47)⟩,⟨some 49,some (46,false),.len false (.tmp 48)⟩,⟨some 50,some (46,false),.fldA 1 (.tmp 1)⟩,⟨some 51,some (46,false),.load none (.tmp 50)⟩,⟨some 52,some (46,false),.len false (.tmp 51)⟩,⟨some 53,some (46,false),.bin .neq (.tmp 49) (.tmp 52)⟩,O1 54 (.pick (.tmp 46) (.const (.bool true)) (.tmp 53))] [1,4,6,54]) (.cond (.tmp 54) (.seq (.ops [O1 2 (.mov (.const (.int .i64 8)))] [2]) (.ret)) (.skip))) (.seq (.seq (.ops [O1 55 (.fldA 2 (.tmp 1)),O1 56 (.load none (.tmp 55)),O1 57 (.len false (.tmp 56)),O1 58 (.mov (.const (.int .i64 0)))] [1,4,6,56,57,58]) (.block 0 (.loop [1,4,6,56,57,58] c19l1))) (.seq (.seq (.ops [O1 84 (.mov (.tmp 4)),O1 85 (.mov (.tmp 84)),⟨some 86,some (85,false),.mov (.tmp 6)⟩,O1 87 (.pick (.tmp 85) (.const (.bool true)) (.tmp 86))] [87]) (.cond (.tmp 87) (.seq (.ops [O1 2 (.mov (.const (.int .i64 14)))] [2]) (.ret)) (.skip))) (.seq (.ops [O1 2 (.mov (.const (.int .i64 0)))] [2]) (.ret)))))))),88,[(2,none)],true⟩
theorem ok19:FunOK Tryd.prog 19 c19:= .code ⟨Tryd.f19,_,c19.code,Tryd.func19,rfl,by kernel_rfl,rfl,by kernel_rfl,by kernel_rfl⟩
/- raddle/raddleref40.Index -/
def c24l0:AC:= .seq (.seq (.ops [O1 6 (.mov (.tmp 5)),O1 7 (.mov (.tmp 0)),O1 8 (.len false (.tmp 7)),O1 9 (.bin .lss (.tmp 6) (.tmp 8))] [0,1,5,9]) (.cond (.tmp 9) (.skip) (.exit 0))) (.seq (.block 1 (.seq (.ops [O1 12 (.mov (.tmp 0)),O1 13 (.mov (.tmp 5)),O1 14 (.idxS 1 (.tmp 12) (.tmp 13)),O1 15 (.load none (.tmp 14)),O1 16 (.mov (.tmp 1)),O1 17 (.bin .eql (.tmp 15) (.tmp 16))] [0,1,5,17]) (.cond (.tmp 17) (.seq (.ops [O1 18 (.mov (.tmp 5)),O1 4 (.mov (.tmp 18))] [4]) (.ret)) (.skip)))) (.ops [O1 10 (.mov (.tmp 5)),O1 11 (.bin .add (.tmp 10) (.const (.int .i64 1))),O1 5 (.mov (.tmp 11))] [0,1,5]))
def c24:AFun:=⟨.seq (.ops [O1 4 (.mov (.const (.int .i64 0)))] [0,1]) (.seq (.seq (.ops [O1 5 (.mov (.const (.int .i64 0)))] [0,1,5]) (.block 0 (.loop [0,1,5] c24l0))) (.seq (.ops [O1 4 (.mov (.const (.int .i64 (-1))))] [4]) (.ret))),19,[(4,none)],true⟩
theorem ok24:FunOK Tryd.prog 24 c24:= .code ⟨Tryd.f24,_,c24.code,Tryd.func24,rfl,by kernel_rfl,rfl,by kernel_rfl,by kernel_rfl⟩
/- raddle/raddleref36.Same -/
def c28l0:AC:= .seq (.seq (.ops [O1 11 (.mov (.tmp 5)),O1 12 (.mov (.tmp 0)),O1 13 (.len false (.tmp 12)),O1 14 (.bin .lss (.tmp 11) (.tmp 13))] [0,1,5,14]) (.cond (.tmp 14) (.skip) (.exit 0))) (.seq (.block 1 (.seq (.draw [O1 17 (.mov (.tmp 0)),O1 18 (.mov (.tmp 5)),O1 19 (.idxS 1 (.tmp 17) (.tmp 18)),O1 20 (.load none (.tmp 19)),O1 21 (.mov (.tmp 1)),O1 22 (.mov (.tmp 5)),O1 23 (.idxS 1 (.tmp 21) (.tmp 22)),O1 24 (.load none (.tmp 23))] [O1 25 (.bin .neq (.tmp 20) (.tmp 24))] [[],[],[],[],[],[],[],[]] [0,1,5,25]) (.cond (.tmp 25) (.seq (.ops [O1 4 (.mov (.const (.bool false)))] [4]) (.ret)) (.skip)))) (.ops [O1 15 (.mov (.tmp 5)),O1 16 (.bin .add (.tmp 15) (.const (.int .i64 1))),O1 5 (.mov (.tmp 16))] [0,1,5]))
def c28:AFun:=⟨.seq (.ops [O1 4 (.mov (.const (.bool false)))] [0,1]) (.seq (.seq (.ops [O1 6 (.mov (.tmp 0)),O1 7 (.len false (.tmp 6)),O1 8 (.mov (.tmp 1)),O1 9 (.len false (.tmp 8)),O1 10 (.bin .neq (.tmp 7) (.tmp 9))] [0,1,10]) (.cond (.tmp 10) (.seq (.ops [O1 4 (.mov (.const (.bool false)))] [4]) (.ret)) (.skip))) (.seq (.seq (.ops [O1 5 (.mov (.const (.int .i64 0)))] [0,1,5]) (.block 0 (.loop [0,1,5] c28l0))) (.seq (.ops [O1 4 (.mov (.const (.bool true)))] [4]) (.ret)))),26,[(4,none)],true⟩
theorem ok28:FunOK Tryd.prog 28 c28:= .code ⟨Tryd.f28,_,c28.code,Tryd.func28,rfl,by kernel_rfl,rfl,by kernel_rfl,by kernel_rfl⟩
/- (*strings.Builder).WriteString -/
def c29:AFun:=⟨.seq (.ops [O1 4 (.mov (.const (.int .i64 0))),O1 5 (.mov (.const .nilIface))] [0,1]) (.seq (.ops [O1 6 (.mov (.tmp 0)),O1 7 (.callF 51 [.tmp 6])] [0,1]) (.seq (.ops [O1 8 (.mov (.tmp 0)),O1 9 (.mov (.tmp 0)),O1 10 (.nilChk (.tmp 9)),O1 11 (.fldA 1 (.tmp 10)),O1 12 (.load none (.tmp 11)),O1 13 (.mov (.tmp 1)),O1 14 (.app 5 1 1 (.tmp 12) (.tmp 13)),O1 15 (.nilChk (.tmp 8)),O1 16 (.fldA 1 (.tmp 15)),⟨none,none,.store 1 (.tmp 16) (.tmp 14)⟩] [1]) (.seq (.ops [O1 17 (.mov (.tmp 1)),O1 18 (.len true (.tmp 17)),O1 4 (.mov (.tmp 18)),O1 5 (.mov (.const .nilIface))] [4,5]) (.ret)))),19,[(4,none),(5,none)],false⟩
theorem ok29:FunOK Tryd.prog 29 c29:= .code ⟨Tryd.f29,_,c29.code,Tryd.func29,rfl,by kernel_rfl,rfl,by kernel_rfl,by kernel_rfl⟩
/- (*strings.Builder).WriteByte -/
def c31:AFun:=⟨.seq (.ops [O1 4 (.mov (.const .nilIface))] [0,1]) (.seq (.ops [O1 5 (.mov (.tmp 0)),O1 6 (.callF 51 [.tmp 5])] [0,1]) (.seq (.ops [O1 7 (.mov (.tmp 0)),O1 8 (.mov (.tmp 0)),O1 9 (.nilChk (.tmp 8)),O1 10 (.fldA 1 (.tmp 9)),O1 11 (.load none (.tmp 10)),O1 12 (.mov (.tmp 1)),O1 13 (.mkRow 5 1 1 [(.int .u8 0)] [(0,1,(.tmp 12))]),O1 14 (.app 5 1 1 (.tmp 11) (.tmp 13)),O1 15 (.nilChk (.tmp 7)),O1 16 (.fldA 1 (.tmp 15)),⟨none,none,.store 1 (.tmp 16) (.tmp 14)⟩] []) (.seq (.ops [O1 4 (.mov (.const .nilIface))] [4]) (.ret)))),17,[(4,none)],false⟩
theorem ok31:FunOK Tryd.prog 31 c31:= .code ⟨Tryd.f31,_,c31.code,Tryd.func31,rfl,by kernel_rfl,rfl,by kernel_rfl,by kernel_rfl⟩
/- (*strings.Builder).Len -/
def c33:AFun:=⟨.seq (.ops [O1 2 (.mov (.const (.int .i64 0)))] [0]) (.seq (.ops [O1 3 (.mov (.tmp 0)),O1 4 (.nilChk (.tmp 3)),O1 5 (.fldA 1 (.tmp 4)),O1 6 (.load none (.tmp 5)),O1 7 (.len false (.tmp 6)),O1 2 (.mov (.tmp 7))] [2]) (.ret)),8,[(2,none)],true⟩
theorem ok33:FunOK Tryd.prog 33 c33:= .code ⟨Tryd.f33,_,c33.code,Tryd.func33,rfl,by kernel_rfl,rfl,by kernel_rfl,by kernel_rfl⟩
/- (*strings.Builder).String -/
def c34:AFun:=⟨.seq (.ops [O1 2 (.mov (.const (.string ⟨#[]⟩)))] [0]) (.seq (.draw [O1 3 (.mov (.tmp 0)),O1 4 (.nilChk (.tmp 3)),O1 5 (.fldA 1 (.tmp 4)),O1 6 (.load none (.tmp 5)),O1 7 (.sdata (.tmp 6)),O1 8 (.mov (.tmp 0)),O1 9 (.nilChk (.tmp 8)),O1 10 (.fldA 1 (.tmp 9)),O1 11 (.load none (.tmp 10)),O1 12 (.len false (.tmp 11))] [O1 13 (.ustr 5 (.tmp 7) (.tmp 12)),O1 2 (.mov (.tmp 13))] [[],[],[],[],[],[],[],[],[],[]] [2]) (.ret)),14,[(2,none)],false⟩
theorem ok34:FunOK Tryd.prog 34 c34:= .code ⟨Tryd.f34,_,c34.code,Tryd.func34,rfl,by kernel_rfl,rfl,by kernel_rfl,by kernel_rfl⟩
/- raddle/raddleref25.Decimal -/
def c35l0:AC:= .seq (.seq (.ops [O1 12 (.mov (.tmp 0)),O1 13 (.bin .gtr (.tmp 12) (.const (.int .i64 0)))] [0,3,13]) (.cond (.tmp 13) (.skip) (.exit 0))) (.seq (.block 1 (.ops [O1 16 (.mov (.tmp 0)),O1 17 (.bin .rem (.tmp 16) (.const (.int .i64 10))),O1 18 (.bin .add (.const (.int .i64 48)) (.tmp 17)),O1 19 (.convI .u8 (.tmp 18)),O1 20 (.mkRow 5 1 1 [(.int .u8 0)] [(0,1,(.tmp 19))]),O1 21 (.b2s (.tmp 20)),O1 22 (.mov (.tmp 3)),O1 23 (.bin .add (.tmp 21) (.tmp 22)),O1 3 (.mov (.tmp 23))] [0,3])) (.ops [O1 14 (.mov (.tmp 0)),O1 15 (.bin .quo (.tmp 14) (.const (.int .i64 10))),O1 0 (.mov (.tmp 15))] [0,3]))
def c35:AFun:=⟨.seq (.ops [O1 2 (.mov (.const (.string ⟨#[]⟩)))] [0]) (.seq (.ops [O1 4 (.mov (.tmp 0)),O1 5 (.bin .rem (.tmp 4) (.const (.int .i64 10))),O1 6 (.bin .add (.const (.int .i64 48)) (.tmp 5)),O1 7 (.convI .u8 (.tmp 6)),O1 8 (.mkRow 5 1 1 [(.int .u8 0)] [(0,1,(.tmp 7))]),O1 9 (.b2s (.tmp 8)),O1 3 (.mov (.tmp 9))] [0,3]) (.seq (.seq (.ops [O1 10 (.mov (.tmp 0)),O1 11 (.bin .quo (.tmp 10) (.const (.int .i64 10))),O1 0 (.mov (.tmp 11))] [0,3]) (.block 0 (.loop [0,3] c35l0))) (.seq (.ops [O1 24 (.mov (.tmp 3)),O1 2 (.mov (.tmp 24))] [2]) (.ret)))),25,[(2,none)],true⟩
theorem ok35:FunOK Tryd.prog 35 c35:= .code ⟨Tryd.f35,_,c35.code,Tryd.func35,rfl,by kernel_rfl,rfl,by kernel_rfl,by kernel_rfl⟩
/- strings.Split -/
def c36:AFun:=⟨.seq (.ops [O1 4 (.mov (.const (.slice none 0 0)))] [0,1]) (.seq (.ops [O1 5 (.mov (.tmp 0)),O1 6 (.mov (.tmp 1)),O1 7 (.callF 54 [(.tmp 5),(.tmp 6),(.const (.int .i64 0)),(.const (.int .i64 (-1)))]),O1 4 (.mov (.tmp 7))] [4]) (.ret)),8,[(4,none)],true⟩
theorem ok36:FunOK Tryd.prog 36 c36:= .code ⟨Tryd.f36,_,c36.code,Tryd.func36,rfl,by kernel_rfl,rfl,by kernel_rfl,by kernel_rfl⟩
/- strings.TrimSuffix -/
def c37:AFun:=⟨.seq (.ops [O1 4 (.mov (.const (.string ⟨#[]⟩)))] [0,1]) (.seq (.ops [O1 5 (.mov (.tmp 0)),O1 6 (.mov (.tmp 1)),O1 7 (.callF 55 [(.tmp 5),(.tmp 6)]),O1 4 (.mov (.tmp 7))] [4]) (.ret)),8,[(4,none)],true⟩
theorem ok37:FunOK Tryd.prog 37 c37:= .code ⟨Tryd.f37,_,c37.code,Tryd.func37,rfl,by kernel_rfl,rfl,by kernel_rfl,by kernel_rfl⟩
/- raddle/raddleref25.Cut -/
def c39l0:AC:= .seq (.seq (.ops [O1 8 (.mov (.tmp 7)),O1 9 (.mov (.tmp 0)),O1 10 (.len true (.tmp 9)),O1 11 (.bin .leq (.tmp 8) (.tmp 10))] [0,1,5,6,7,11]) (.cond (.tmp 11) (.skip) (.exit 0))) (.seq (.block 1 (.seq (.ops [O1 14 (.mov (.tmp 7)),O1 15 (.mov (.tmp 0)),O1 16 (.len true (.tmp 15)),O1 17 (.bin .eql (.tmp 14) (.tmp 16)),O1 18 (.mov (.tmp 17)),⟨some 19,some (18,false),.mov (.tmp 0)⟩,⟨some 20,some (18,false),.mov (.tmp 7)⟩,⟨some 21,some (18,false),.idxStr (.tmp 19) (.tmp 20)⟩,⟨some 22,some (18,false),.mov (.tmp 1)⟩,⟨some 23,some (18,false),.bin .eql (.tmp 21) (.tmp 22)⟩,O1 24 (.pick (.tmp 18) (.const (.bool true)) (.tmp 23))] [0,1,5,6,7,24]) (.cond (.tmp 24) (.seq (.ops [O1 25 (.mov (.tmp 5)),O1 26 (.mov (.tmp 0)),O1 27 (.mov (.tmp 6)),O1 28 (.mov (.tmp 7)),O1 29 (.slcS (.tmp 26) (some (.tmp 27)) (some (.tmp 28))),O1 30 (.mkRow 9 1 1 [(.string ⟨#[]⟩)] [(0,1,(.tmp 29))]),O1 31 (.app 9 1 16 (.tmp 25) (.tmp 30)),O1 5 (.mov (.tmp 31))] [0,1,5,7]) (.ops [O1 32 (.mov (.tmp 7)),O1 33 (.bin .add (.tmp 32) (.const (.int .i64 1))),O1 6 (.mov (.tmp 33))] [0,1,5,6,7])) (.skip)))) (.ops [O1 12 (.mov (.tmp 7)),O1 13 (.bin .add (.tmp 12) (.const (.int .i64 1))),O1 7 (.mov (.tmp 13))] [0,1,5,6,7]))
def c39:AFun:=⟨.seq (.ops [O1 4 (.mov (.const (.slice none 0 0)))] [0,1]) (.seq (.ops [O1 5 (.mov (.const (.slice none 0 0)))] [0,1,5]) (.seq (.ops [O1 6 (.mov (.const (.int .i64 0)))] [0,1,5,6]) (.seq (.seq (.ops [O1 7 (.mov (.const (.int .i64 0)))] [0,1,5,6,7]) (.block 0 (.loop [0,1,5,6,7] c39l0))) (.seq (.ops [O1 34 (.mov (.tmp 5)),O1 4 (.mov (.tmp 34))] [4]) (.ret))))),35,[(4,none)],true⟩
theorem ok39:FunOK Tryd.prog 39 c39:= .code ⟨Tryd.f39,_,c39.code,Tryd.func39,rfl,by kernel_rfl,rfl,by kernel_rfl,by kernel_rfl⟩
/- raddle/raddleref40.Number -/
def c40l0:AC:= .seq (.seq (.ops [O1 24 (.mov (.tmp 5)),O1 25 (.mov (.tmp 0)),O1 26 (.len true (.tmp 25)),O1 27 (.bin .lss (.tmp 24) (.tmp 26))] [0,4,5,27]) (.cond (.tmp 27) (.skip) (.exit 0))) (.seq (.block 1 (.seq (.seq (.ops [O1 30 (.mov (.tmp 0)),O1 31 (.mov (.tmp 5)),O1 32 (.idxStr (.tmp 30) (.tmp 31)),O1 33 (.bin .lss (.tmp 32) (.const (.int .u8 48))),O1 34 (.mov (.tmp 33)),⟨some 35,some (34,false),.mov (.tmp 0)⟩,⟨some 36,some (34,false),.mov (.tmp 5)⟩,⟨some 37,some (34,false),.idxStr (.tmp 35) (.tmp 36)⟩,⟨some 38,some (34,false),.bin .gtr (.tmp 37) (.const (.int .u8 57))⟩,O1 39 (.pick (.tmp 34) (.const (.bool true)) (.tmp 38))] [0,4,5,39]) (.cond (.tmp 39) (.seq (.ops [O1 2 (.mov (.const (.int .i64 0))),O1 3 (.mov (.const (.bool false)))] [2,3]) (.ret)) (.skip))) (.ops [O1 40 (.mov (.tmp 4)),O1 41 (.bin .mul (.const (.int .i64 10)) (.tmp 40)),O1 42 (.mov (.tmp 0)),O1 43 (.mov (.tmp 5)),O1 44 (.idxStr (.tmp 42) (.tmp 43)),O1 45 (.bin .sub (.tmp 44) (.const (.int .u8 48))),O1 46 (.convI .i64 (.tmp 45)),O1 47 (.bin .add (.tmp 41) (.tmp 46)),O1 4 (.mov (.tmp 47))] [0,4,5]))) (.ops [O1 28 (.mov (.tmp 5)),O1 29 (.bin .add (.tmp 28) (.const (.int .i64 1))),O1 5 (.mov (.tmp 29))] [0,4,5]))
def c40:AFun:=⟨.seq (.ops [O1 2 (.mov (.const (.int .i64 0))),O1 3 (.mov (.const (.bool false)))] [0]) (.seq (.seq (.ops [O1 6 (.mov (.tmp 0)),O1 7 (.len true (.tmp 6)),O1 8 (.bin .eql (.tmp 7) (.const (.int .i64 0))),O1 9 (.mov (.tmp 8)),⟨some 10,some (9,false),.mov (.tmp 0)⟩,⟨some 11,some (9,false),.len true (.tmp 10)⟩,⟨some 12,some (9,false),.bin .gtr (.tmp 11) (.const (.int .i64 7))⟩,O1 13 (.pick (.tmp 9) (.const (.bool true)) (.tmp 12)),O1 14 (.mov (.tmp 13)),⟨some 15,some (14,false),.mov (.tmp 0)⟩,⟨some 16,some (14,false),.len true (.tmp 15)⟩,⟨some 17,some (14,false),.bin .gtr (.tmp 16) (.const (.int .i64 1))⟩,⟨some 18,some (14,false),.mov (.tmp 17)⟩,⟨some 19,some (18,true),.mov (.tmp 0)⟩,⟨some 20,some (18,true),.idxStr (.tmp 19) (.const (.int .i64 0))⟩,⟨some 21,some (18,true),.bin .eql (.tmp 20) (.const (.int .u8 48))⟩,⟨some 22,some (14,false),.pick (.tmp 18) (.tmp 21) (.const (.bool false))⟩,O1 23 (.pick (.tmp 14) (.const (.bool true)) (.tmp 22))] [0,23]) (.cond (.tmp 23) (.seq (.ops [O1 2 (.mov (.const (.int .i64 0))),O1 3 (.mov (.const (.bool false)))] [2,3]) (.ret)) (.skip))) (.seq (.ops [O1 4 (.mov (.const (.int .i64 0)))] [0,4]) (.seq (.seq (.ops [O1 5 (.mov (.const (.int .i64 0)))] [0,4,5]) (.block 0 (.loop [0,4,5] c40l0))) (.seq (.ops [O1 48 (.mov (.tmp 4)),O1 2 (.mov (.tmp 48)),O1 3 (.mov (.const (.bool true)))] [2,3]) (.ret))))),49,[(2,none),(3,none)],true⟩
theorem ok40:FunOK Tryd.prog 40 c40:= .code ⟨Tryd.f40,_,c40.code,Tryd.func40,rfl,by kernel_rfl,rfl,by kernel_rfl,by kernel_rfl⟩
/- raddle/raddleref40.words -/
def c42l0:AC:= .seq (.seq (.ops [O1 4 (.mov (.tmp 3)),O1 5 (.mov (.tmp 0)),O1 6 (.len false (.tmp 5)),O1 7 (.bin .lss (.tmp 4) (.tmp 6))] [0,3,7]) (.cond (.tmp 7) (.skip) (.exit 0))) (.seq (.block 1 (.seq (.ops [O1 10 (.mov (.tmp 0)),O1 11 (.mov (.tmp 3)),O1 12 (.idxS 1 (.tmp 10) (.tmp 11)),O1 13 (.load none (.tmp 12)),O1 14 (.callF 58 [.tmp 13]),O1 15 (.un .not (.tmp 14))] [0,3,15]) (.cond (.tmp 15) (.seq (.ops [O1 2 (.mov (.const (.bool false)))] [2]) (.ret)) (.skip)))) (.ops [O1 8 (.mov (.tmp 3)),O1 9 (.bin .add (.tmp 8) (.const (.int .i64 1))),O1 3 (.mov (.tmp 9))] [0,3]))
def c42:AFun:=⟨.seq (.ops [O1 2 (.mov (.const (.bool false)))] [0]) (.seq (.seq (.ops [O1 3 (.mov (.const (.int .i64 0)))] [0,3]) (.block 0 (.loop [0,3] c42l0))) (.seq (.ops [O1 16 (.mov (.tmp 0)),O1 17 (.len false (.tmp 16)),O1 18 (.bin .gtr (.tmp 17) (.const (.int .i64 0))),O1 2 (.mov (.tmp 18))] [2]) (.ret))),19,[(2,none)],true⟩
theorem ok42:FunOK Tryd.prog 42 c42:= .code ⟨Tryd.f42,_,c42.code,Tryd.func42,rfl,by kernel_rfl,rfl,by kernel_rfl,by kernel_rfl⟩
/- raddle/raddleref40.row -/
def c43l0:AC:= .seq (.seq (.ops [O1 6 (.mov (.tmp 5)),O1 7 (.mov (.tmp 0)),O1 8 (.len false (.tmp 7)),O1 9 (.bin .lss (.tmp 6) (.tmp 8))] [0,1,5,9]) (.cond (.tmp 9) (.skip) (.exit 0))) (.seq (.block 1 (.seq (.draw [O1 12 (.mov (.tmp 0)),O1 13 (.mov (.tmp 5)),O1 14 (.idxS 1 (.tmp 12) (.tmp 13)),O1 15 (.load none (.tmp 14)),O1 16 (.bin .lss (.tmp 15) (.const (.int .i64 0))),O1 17 (.mov (.tmp 16)),⟨some 18,some (17,false),.mov (.tmp 0)⟩,⟨some 19,some (17,false),.mov (.tmp 5)⟩,⟨some 20,some (17,false),.idxS 1 (.tmp 18) (.tmp 19)⟩,⟨some 21,some (17,false),.load none (.tmp 20)⟩,⟨some 22,some (17,false),.bin .gtr (.tmp 21) (.const (.int .i64 1000000))⟩,O1 23 (.pick (.tmp 17) (.const (.bool true)) (.tmp 22)),O1 24 (.mov (.tmp 23)),⟨some 25,some (24,false),.mov (.tmp 5)⟩,⟨some 26,some (24,false),.bin .gtr (.tmp 25) (.const (.int .i64 0))⟩,⟨some 27,some (24,false),.mov (.tmp 26)⟩,⟨some 28,some (27,true),.mov (.tmp 0)⟩,⟨some 29,some (27,true),.mov (.tmp 5)⟩,⟨some 30,some (27,true),.idxS 1 (.tmp 28) (.tmp 29)⟩,⟨some 31,some (27,true),.load none (.tmp 30)⟩,⟨some 32,some (27,true),.mov (.tmp 0)⟩,⟨some 33,some (27,true),.mov (.tmp 5)⟩,⟨some 34,some (27,true),.bin .sub (.tmp 33) (.const (.int .i64 1))⟩,⟨some 35,some (27,true),.idxS 1 (.tmp 32) (.tmp 34)⟩,⟨some 36,some (27,true),.load none (.tmp 35)⟩] [⟨some 37,some (27,true),.bin .lss (.tmp 31) (.tmp 36)⟩,⟨some 38,some (24,false),.pick (.tmp 27) (.tmp 37) (.const (.bool false))⟩,O1 39 (.pick (.tmp 24) (.const (.bool true)) (.tmp 38))] [[],[],[],[],[],[],[],[],[],[],[],[],[],[],[],[],[],[],[],[],[],[],[],[],[]] [0,1,5,39]) (.cond (.tmp 39) (.seq (.ops [O1 4 (.mov (.const (.bool false)))] [4]) (.ret)) (.skip)))) (.ops [O1 10 (.mov (.tmp 5)),O1 11 (.bin .add (.tmp 10) (.const (.int .i64 1))),O1 5 (.mov (.tmp 11))] [0,1,5]))
def c43:AFun:=⟨.seq (.ops [O1 4 (.mov (.const (.bool false)))] [0,1]) (.seq (.seq (.ops [O1 5 (.mov (.const (.int .i64 0)))] [0,1,5]) (.block 0 (.loop [0,1,5] c43l0))) (.seq (.ops [O1 40 (.mov (.tmp 0)),O1 41 (.len false (.tmp 40)),O1 42 (.mov (.tmp 1)),O1 43 (.bin .eql (.tmp 41) (.tmp 42)),O1 4 (.mov (.tmp 43))] [4]) (.ret))),44,[(4,none)],true⟩
theorem ok43:FunOK Tryd.prog 43 c43:= .code ⟨Tryd.f43,_,c43.code,Tryd.func43,rfl,by kernel_rfl,rfl,by kernel_rfl,by kernel_rfl⟩
/- raddle/raddleref40.twice -/
def c44l0:AC:= .seq (.seq (.ops [O1 4 (.mov (.tmp 3)),O1 5 (.mov (.tmp 0)),O1 6 (.len false (.tmp 5)),O1 7 (.bin .lss (.tmp 4) (.tmp 6))] [0,3,7]) (.cond (.tmp 7) (.skip) (.exit 0))) (.seq (.block 1 (.seq (.ops [O1 10 (.mov (.tmp 0)),O1 11 (.mov (.tmp 0)),O1 12 (.mov (.tmp 3)),O1 13 (.idxS 1 (.tmp 11) (.tmp 12)),O1 14 (.load none (.tmp 13)),O1 15 (.callF 24 [(.tmp 10),(.tmp 14)]),O1 16 (.mov (.tmp 3)),O1 17 (.bin .lss (.tmp 15) (.tmp 16))] [0,3,17]) (.cond (.tmp 17) (.seq (.ops [O1 2 (.mov (.const (.bool true)))] [2]) (.ret)) (.skip)))) (.ops [O1 8 (.mov (.tmp 3)),O1 9 (.bin .add (.tmp 8) (.const (.int .i64 1))),O1 3 (.mov (.tmp 9))] [0,3]))
def c44:AFun:=⟨.seq (.ops [O1 2 (.mov (.const (.bool false)))] [0]) (.seq (.seq (.ops [O1 3 (.mov (.const (.int .i64 0)))] [0,3]) (.block 0 (.loop [0,3] c44l0))) (.seq (.ops [O1 2 (.mov (.const (.bool false)))] [2]) (.ret))),18,[(2,none)],true⟩
theorem ok44:FunOK Tryd.prog 44 c44:= .code ⟨Tryd.f44,_,c44.code,Tryd.func44,rfl,by kernel_rfl,rfl,by kernel_rfl,by kernel_rfl⟩
/- raddle/grade.words -/
def c47l0:AC:= .seq (.ops [O1 12 (.bin .lss (.tmp 11) (.tmp 10))] [0,2,3,9,10,11,12]) (.seq (.cond (.tmp 12) (.skip) (.exit 0)) (.seq (.block 1 (.seq (.ops [O1 13 (.mov (.tmp 11)),O1 14 (.idxS 1 (.tmp 9) (.tmp 11)),O1 15 (.load none (.tmp 14)),O1 4 (.mov (.tmp 13)),O1 5 (.mov (.tmp 15))] [0,2,3,4,5,9,10,11]) (.seq (.ops [O1 16 (.mov (.tmp 2)),O1 17 (.mov (.tmp 16)),⟨some 18,some (17,true),.mov (.tmp 5)⟩,⟨some 19,some (17,true),.callF 59 [.tmp 18]⟩,O1 20 (.pick (.tmp 17) (.tmp 19) (.const (.bool false))),O1 2 (.mov (.tmp 20))] [0,2,3,4,5,9,10,11]) (.ops [O1 21 (.mov (.tmp 3)),O1 22 (.mov (.tmp 21)),⟨some 23,some (22,false),.mov (.tmp 0)⟩,⟨some 24,some (22,false),.mov (.tmp 5)⟩,⟨some 25,some (22,false),.callF 48 [(.tmp 23),(.tmp 24)]⟩,⟨some 26,some (22,false),.mov (.tmp 4)⟩,⟨some 27,some (22,false),.bin .lss (.tmp 25) (.tmp 26)⟩,O1 28 (.pick (.tmp 22) (.const (.bool true)) (.tmp 27)),O1 3 (.mov (.tmp 28))] [0,2,3,9,10,11])))) (.ops [O1 29 (.bin .add (.tmp 11) (.const (.int .i64 1))),O1 11 (.mov (.tmp 29))] [0,2,3,9,10,11])))
def c47:AFun:=⟨.seq (.ops [O1 2 (.mov (.const (.bool false))),O1 3 (.mov (.const (.bool false)))] [0,3]) (.seq (.ops [O1 6 (.mov (.tmp 0)),O1 7 (.len false (.tmp 6)),O1 8 (.bin .gtr (.tmp 7) (.const (.int .i64 0))),O1 2 (.mov (.tmp 8))] [0,2,3]) (.seq (.seq (.ops [O1 9 (.mov (.tmp 0)),O1 10 (.len false (.tmp 9)),O1 11 (.mov (.const (.int .i64 0)))] [0,2,3,9,10,11]) (.block 0 (.loop [0,2,3,9,10,11] c47l0))) (.seq (.ops [O1 30 (.mov (.tmp 2)),O1 31 (.mov (.tmp 3)),O1 2 (.mov (.tmp 30)),O1 3 (.mov (.tmp 31))] [2,3]) (.ret)))),32,[(2,none),(3,none)],true⟩
theorem ok47:FunOK Tryd.prog 47 c47:= .code ⟨Tryd.f47,_,c47.code,Tryd.func47,rfl,by kernel_rfl,rfl,by kernel_rfl,by kernel_rfl⟩
/- raddle/grade.index[string] -/
def c48l0:AC:= .seq (.ops [O1 10 (.bin .lss (.tmp 9) (.tmp 8))] [1,7,8,9,10]) (.seq (.cond (.tmp 10) (.skip) (.exit 0)) (.seq (.block 1 (.seq (.ops [O1 11 (.mov (.tmp 9)),O1 12 (.idxS 1 (.tmp 7) (.tmp 9)),O1 13 (.load none (.tmp 12)),O1 5 (.mov (.tmp 11)),O1 6 (.mov (.tmp 13))] [1,5,6,7,8,9]) (.seq (.ops [O1 14 (.mov (.tmp 1)),O1 15 (.mov (.tmp 6)),O1 16 (.bin .eql (.tmp 14) (.tmp 15))] [1,5,7,8,9,16]) (.cond (.tmp 16) (.seq (.ops [O1 17 (.mov (.tmp 5)),O1 4 (.mov (.tmp 17))] [4]) (.ret)) (.skip))))) (.ops [O1 18 (.bin .add (.tmp 9) (.const (.int .i64 1))),O1 9 (.mov (.tmp 18))] [1,7,8,9])))
def c48:AFun:=⟨.seq (.ops [O1 4 (.mov (.const (.int .i64 0)))] [0,1]) (.seq (.seq (.ops [O1 7 (.mov (.tmp 0)),O1 8 (.len false (.tmp 7)),O1 9 (.mov (.const (.int .i64 0)))] [1,7,8,9]) (.block 0 (.loop [1,7,8,9] c48l0))) (.seq (.ops [O1 4 (.mov (.const (.int .i64 (-1))))] [4]) (.ret))),19,[(4,none)],true⟩
theorem ok48:FunOK Tryd.prog 48 c48:= .code ⟨Tryd.f48,_,c48.code,Tryd.func48,rfl,by kernel_rfl,rfl,by kernel_rfl,by kernel_rfl⟩
/- (*strings.Builder).copyCheck (1 operations that the interpreter lacks) -/
def c51:AFun:=⟨.seq (.ops [O1 2 (.mov (.tmp 0)),O1 3 (.nilChk (.tmp 2)),O1 4 (.fldA 0 (.tmp 3)),O1 5 (.load none (.tmp 4)),O1 6 (.eqNil 0 false (.tmp 5) (.const (.pointer none)))] [0,6]) (.cond (.tmp 6) (.ops [O1 7 (.mov (.tmp 0)),O1 8 (.mov (.tmp 0)),O1 9 (.toUns (.tmp 8)),O1 10 (.callF 63 [.tmp 9]),O1 11 (.fromUns 61 2 (.tmp 10)),O1 12 (.nilChk (.tmp 7)),O1 13 (.fldA 0 (.tmp 12)),⟨none,none,.store 1 (.tmp 13) (.tmp 11)⟩] []) (.seq (.ops [O1 14 (.mov (.tmp 0)),O1 15 (.nilChk (.tmp 14)),O1 16 (.fldA 0 (.tmp 15)),O1 17 (.load none (.tmp 16)),O1 18 (.mov (.tmp 0)),O1 19 (.eqPtr true (.tmp 17) (.tmp 18))] [19]) (.cond (.tmp 19) (.bad) (.skip)))),20,[],false⟩
theorem ok51:FunOK Tryd.prog 51 c51:= .code ⟨Tryd.f51,_,c51.code,Tryd.func51,rfl,by kernel_rfl,rfl,by kernel_rfl,by kernel_rfl⟩
/- strings.genSplit -/
def c54l0:AC:= .seq (.seq (.ops [O1 34 (.mov (.tmp 10)),O1 35 (.mov (.tmp 3)),O1 36 (.bin .lss (.tmp 34) (.tmp 35))] [0,1,2,3,9,10,36]) (.cond (.tmp 36) (.skip) (.exit 0))) (.block 1 (.seq (.ops [O1 37 (.mov (.tmp 0)),O1 38 (.mov (.tmp 1)),O1 39 (.callF 68 [(.tmp 37),(.tmp 38)]),O1 11 (.mov (.tmp 39))] [0,1,2,3,9,10,11]) (.seq (.seq (.ops [O1 40 (.mov (.tmp 11)),O1 41 (.bin .lss (.tmp 40) (.const (.int .i64 0)))] [0,1,2,3,9,10,11,41]) (.cond (.tmp 41) (.exit 0) (.skip))) (.seq (.ops [O1 42 (.mov (.tmp 9)),O1 43 (.mov (.tmp 10)),O1 44 (.mov (.tmp 0)),O1 45 (.mov (.tmp 11)),O1 46 (.mov (.tmp 2)),O1 47 (.bin .add (.tmp 45) (.tmp 46)),O1 48 (.slcS (.tmp 44) none (some (.tmp 47))),O1 49 (.idxS 1 (.tmp 42) (.tmp 43)),⟨none,none,.store 1 (.tmp 49) (.tmp 48)⟩] [0,1,2,3,9,10,11]) (.seq (.ops [O1 50 (.mov (.tmp 0)),O1 51 (.mov (.tmp 11)),O1 52 (.mov (.tmp 1)),O1 53 (.len true (.tmp 52)),O1 54 (.bin .add (.tmp 51) (.tmp 53)),O1 55 (.slcS (.tmp 50) (some (.tmp 54)) none),O1 0 (.mov (.tmp 55))] [0,1,2,3,9,10]) (.ops [O1 56 (.mov (.tmp 10)),O1 57 (.bin .add (.tmp 56) (.const (.int .i64 1))),O1 10 (.mov (.tmp 57))] [0,1,2,3,9,10]))))))
def c54:AFun:=⟨.seq (.ops [O1 8 (.mov (.const (.slice none 0 0)))] [0,1,2,3]) (.seq (.seq (.ops [O1 12 (.mov (.tmp 3)),O1 13 (.bin .eql (.tmp 12) (.const (.int .i64 0)))] [0,1,2,3,13]) (.cond (.tmp 13) (.seq (.ops [O1 8 (.mov (.const (.slice none 0 0)))] [8]) (.ret)) (.skip))) (.seq (.seq (.ops [O1 14 (.mov (.tmp 1)),O1 15 (.bin .eql (.tmp 14) (.const (.string ⟨#[]⟩)))] [0,1,2,3,15]) (.cond (.tmp 15) (.seq (.ops [O1 16 (.mov (.tmp 0)),O1 17 (.mov (.tmp 3)),O1 18 (.callF 66 [(.tmp 16),(.tmp 17)]),O1 8 (.mov (.tmp 18))] [8]) (.ret)) (.skip))) (.seq (.seq (.ops [O1 19 (.mov (.tmp 3)),O1 20 (.bin .lss (.tmp 19) (.const (.int .i64 0)))] [0,1,2,3,20]) (.cond (.tmp 20) (.ops [O1 21 (.mov (.tmp 0)),O1 22 (.mov (.tmp 1)),O1 23 (.callF 67 [(.tmp 21),(.tmp 22)]),O1 24 (.bin .add (.tmp 23) (.const (.int .i64 1))),O1 3 (.mov (.tmp 24))] [0,1,2,3]) (.skip))) (.seq (.ops [O1 25 (.mov (.tmp 3)),O1 26 (.mov (.tmp 0)),O1 27 (.len true (.tmp 26)),O1 28 (.bin .add (.tmp 27) (.const (.int .i64 1))),O1 29 (.mm false (.tmp 25) (.tmp 28)),O1 3 (.mov (.tmp 29))] [0,1,2,3]) (.seq (.ops [O1 30 (.mov (.tmp 3)),O1 31 (.mkSlice 9 1 16 [(.string ⟨#[]⟩)] (.tmp 30) (.tmp 30)),O1 9 (.mov (.tmp 31))] [0,1,2,3,9]) (.seq (.ops [O1 32 (.mov (.tmp 3)),O1 33 (.bin .sub (.tmp 32) (.const (.int .i64 1))),O1 3 (.mov (.tmp 33))] [0,1,2,3,9]) (.seq (.ops [O1 10 (.mov (.const (.int .i64 0)))] [0,1,2,3,9,10]) (.seq (.block 0 (.loop [0,1,2,3,9,10] c54l0)) (.seq (.ops [O1 58 (.mov (.tmp 9)),O1 59 (.mov (.tmp 10)),O1 60 (.mov (.tmp 0)),O1 61 (.idxS 1 (.tmp 58) (.tmp 59)),⟨none,none,.store 1 (.tmp 61) (.tmp 60)⟩] [9,10]) (.seq (.ops [O1 62 (.mov (.tmp 9)),O1 63 (.mov (.tmp 10)),O1 64 (.bin .add (.tmp 63) (.const (.int .i64 1))),O1 65 (.slc 1 (.tmp 62) none (some (.tmp 64)) none),O1 8 (.mov (.tmp 65))] [8]) (.ret))))))))))),66,[(8,none)],true⟩
theorem ok54:FunOK Tryd.prog 54 c54:= .code ⟨Tryd.f54,_,c54.code,Tryd.func54,rfl,by kernel_rfl,rfl,by kernel_rfl,by kernel_rfl⟩
/- internal/stringslite.TrimSuffix -/
def c55:AFun:=⟨.seq (.ops [O1 4 (.mov (.const (.string ⟨#[]⟩)))] [0,1]) (.seq (.seq (.ops [O1 5 (.mov (.tmp 0)),O1 6 (.mov (.tmp 1)),O1 7 (.callF 69 [(.tmp 5),(.tmp 6)])] [0,1,7]) (.cond (.tmp 7) (.seq (.ops [O1 8 (.mov (.tmp 0)),O1 9 (.mov (.tmp 0)),O1 10 (.len true (.tmp 9)),O1 11 (.mov (.tmp 1)),O1 12 (.len true (.tmp 11)),O1 13 (.bin .sub (.tmp 10) (.tmp 12)),O1 14 (.slcS (.tmp 8) none (some (.tmp 13))),O1 4 (.mov (.tmp 14))] [4]) (.ret)) (.skip))) (.seq (.ops [O1 15 (.mov (.tmp 0)),O1 4 (.mov (.tmp 15))] [4]) (.ret))),16,[(4,none)],true⟩
theorem ok55:FunOK Tryd.prog 55 c55:= .code ⟨Tryd.f55,_,c55.code,Tryd.func55,rfl,by kernel_rfl,rfl,by kernel_rfl,by kernel_rfl⟩
/- raddle/raddleref40.Word -/
def c58l0:AC:= .seq (.seq (.ops [O1 4 (.mov (.tmp 3)),O1 5 (.mov (.tmp 0)),O1 6 (.len true (.tmp 5)),O1 7 (.bin .lss (.tmp 4) (.tmp 6))] [0,3,7]) (.cond (.tmp 7) (.skip) (.exit 0))) (.seq (.block 1 (.seq (.ops [O1 10 (.mov (.tmp 0)),O1 11 (.mov (.tmp 3)),O1 12 (.idxStr (.tmp 10) (.tmp 11)),O1 13 (.bin .neq (.tmp 12) (.const (.int .u8 45))),O1 14 (.mov (.tmp 13)),⟨some 15,some (14,true),.mov (.tmp 0)⟩,⟨some 16,some (14,true),.mov (.tmp 3)⟩,⟨some 17,some (14,true),.idxStr (.tmp 15) (.tmp 16)⟩,⟨some 18,some (14,true),.bin .lss (.tmp 17) (.const (.int .u8 97))⟩,⟨some 19,some (14,true),.mov (.tmp 18)⟩,⟨some 20,some (19,false),.mov (.tmp 0)⟩,⟨some 21,some (19,false),.mov (.tmp 3)⟩,⟨some 22,some (19,false),.idxStr (.tmp 20) (.tmp 21)⟩,⟨some 23,some (19,false),.bin .gtr (.tmp 22) (.const (.int .u8 122))⟩,⟨some 24,some (14,true),.pick (.tmp 19) (.const (.bool true)) (.tmp 23)⟩,O1 25 (.pick (.tmp 14) (.tmp 24) (.const (.bool false))),O1 26 (.mov (.tmp 25)),⟨some 27,some (26,true),.mov (.tmp 0)⟩,⟨some 28,some (26,true),.mov (.tmp 3)⟩,⟨some 29,some (26,true),.idxStr (.tmp 27) (.tmp 28)⟩,⟨some 30,some (26,true),.bin .lss (.tmp 29) (.const (.int .u8 48))⟩,⟨some 31,some (26,true),.mov (.tmp 30)⟩,⟨some 32,some (31,false),.mov (.tmp 0)⟩,⟨some 33,some (31,false),.mov (.tmp 3)⟩,⟨some 34,some (31,false),.idxStr (.tmp 32) (.tmp 33)⟩,⟨some 35,some (31,false),.bin .gtr (.tmp 34) (.const (.int .u8 57))⟩,⟨some 36,some (26,true),.pick (.tmp 31) (.const (.bool true)) (.tmp 35)⟩,O1 37 (.pick (.tmp 26) (.tmp 36) (.const (.bool false)))] [0,3,37]) (.cond (.tmp 37) (.seq (.ops [O1 2 (.mov (.const (.bool false)))] [2]) (.ret)) (.skip)))) (.ops [O1 8 (.mov (.tmp 3)),O1 9 (.bin .add (.tmp 8) (.const (.int .i64 1))),O1 3 (.mov (.tmp 9))] [0,3]))
def c58:AFun:=⟨.seq (.ops [O1 2 (.mov (.const (.bool false)))] [0]) (.seq (.seq (.ops [O1 3 (.mov (.const (.int .i64 0)))] [0,3]) (.block 0 (.loop [0,3] c58l0))) (.seq (.ops [O1 38 (.mov (.tmp 0)),O1 39 (.len true (.tmp 38)),O1 40 (.bin .geq (.tmp 39) (.const (.int .i64 1))),O1 41 (.mov (.tmp 40)),⟨some 42,some (41,true),.mov (.tmp 0)⟩,⟨some 43,some (41,true),.len true (.tmp 42)⟩,⟨some 44,some (41,true),.bin .leq (.tmp 43) (.const (.int .i64 40))⟩,O1 45 (.pick (.tmp 41) (.tmp 44) (.const (.bool false))),O1 2 (.mov (.tmp 45))] [2]) (.ret))),46,[(2,none)],true⟩
theorem ok58:FunOK Tryd.prog 58 c58:= .code ⟨Tryd.f58,_,c58.code,Tryd.func58,rfl,by kernel_rfl,rfl,by kernel_rfl,by kernel_rfl⟩
/- raddle/grade.word -/
def c59l0:AC:= .seq (.ops [O1 17 (.bin .lss (.tmp 16) (.tmp 15))] [14,15,16,17]) (.seq (.cond (.tmp 17) (.skip) (.exit 0)) (.seq (.block 1 (.seq (.ops [O1 18 (.idxS 1 (.tmp 14) (.tmp 16)),O1 19 (.load none (.tmp 18)),O1 4 (.mov (.tmp 19))] [4,14,15,16]) (.seq (.ops [O1 20 (.mov (.tmp 4)),O1 21 (.bin .neq (.tmp 20) (.const (.int .u8 45))),O1 22 (.mov (.tmp 21)),⟨some 23,some (22,true),.mov (.tmp 4)⟩,⟨some 24,some (22,true),.bin .lss (.tmp 23) (.const (.int .u8 97))⟩,⟨some 25,some (22,true),.mov (.tmp 24)⟩,⟨some 26,some (25,false),.mov (.tmp 4)⟩,⟨some 27,some (25,false),.bin .gtr (.tmp 26) (.const (.int .u8 122))⟩,⟨some 28,some (22,true),.pick (.tmp 25) (.const (.bool true)) (.tmp 27)⟩,O1 29 (.pick (.tmp 22) (.tmp 28) (.const (.bool false))),O1 30 (.mov (.tmp 29)),⟨some 31,some (30,true),.mov (.tmp 4)⟩,⟨some 32,some (30,true),.bin .lss (.tmp 31) (.const (.int .u8 48))⟩,⟨some 33,some (30,true),.mov (.tmp 32)⟩,⟨some 34,some (33,false),.mov (.tmp 4)⟩,⟨some 35,some (33,false),.bin .gtr (.tmp 34) (.const (.int .u8 57))⟩,⟨some 36,some (30,true),.pick (.tmp 33) (.const (.bool true)) (.tmp 35)⟩,O1 37 (.pick (.tmp 30) (.tmp 36) (.const (.bool false)))] [14,15,16,37]) (.cond (.tmp 37) (.seq (.ops [O1 2 (.mov (.const (.bool false)))] [2]) (.ret)) (.skip))))) (.ops [O1 38 (.bin .add (.tmp 16) (.const (.int .i64 1))),O1 16 (.mov (.tmp 38))] [14,15,16])))
def c59:AFun:=⟨.seq (.ops [O1 2 (.mov (.const (.bool false)))] [0]) (.seq (.seq (.ops [O1 5 (.mov (.tmp 0)),O1 6 (.len true (.tmp 5)),O1 7 (.bin .eql (.tmp 6) (.const (.int .i64 0))),O1 8 (.mov (.tmp 7)),⟨some 9,some (8,false),.mov (.tmp 0)⟩,⟨some 10,some (8,false),.len true (.tmp 9)⟩,⟨some 11,some (8,false),.bin .gtr (.tmp 10) (.const (.int .i64 40))⟩,O1 12 (.pick (.tmp 8) (.const (.bool true)) (.tmp 11))] [0,12]) (.cond (.tmp 12) (.seq (.ops [O1 2 (.mov (.const (.bool false)))] [2]) (.ret)) (.skip))) (.seq (.seq (.ops [O1 13 (.mov (.tmp 0)),O1 14 (.s2b 5 (.tmp 13)),O1 15 (.len false (.tmp 14)),O1 16 (.mov (.const (.int .i64 0)))] [14,15,16]) (.block 0 (.loop [14,15,16] c59l0))) (.seq (.ops [O1 2 (.mov (.const (.bool true)))] [2]) (.ret)))),39,[(2,none)],true⟩
theorem ok59:FunOK Tryd.prog 59 c59:= .code ⟨Tryd.f59,_,c59.code,Tryd.func59,rfl,by kernel_rfl,rfl,by kernel_rfl,by kernel_rfl⟩
/- strings.explode -/
def c66l0:AC:= .seq (.seq (.ops [O1 22 (.mov (.tmp 7)),O1 23 (.mov (.tmp 1)),O1 24 (.bin .sub (.tmp 23) (.const (.int .i64 1))),O1 25 (.bin .lss (.tmp 22) (.tmp 24))] [0,1,6,7,25]) (.cond (.tmp 25) (.skip) (.exit 0))) (.seq (.block 1 (.seq (.ops [O1 29 (.mov (.tmp 0)),O1 30 (.callF 81 [.tmp 29]),O1 28 (.mov (.tmp 30)),O1 31 (.ext (.tmp 28) 0),O1 32 (.ext (.tmp 28) 1),O1 8 (.mov (.tmp 31)),O1 9 (.mov (.tmp 32))] [0,1,6,7,9]) (.seq (.ops [O1 33 (.mov (.tmp 6)),O1 34 (.mov (.tmp 7)),O1 35 (.mov (.tmp 0)),O1 36 (.mov (.tmp 9)),O1 37 (.slcS (.tmp 35) none (some (.tmp 36))),O1 38 (.idxS 1 (.tmp 33) (.tmp 34)),⟨none,none,.store 1 (.tmp 38) (.tmp 37)⟩] [0,1,6,7,9]) (.ops [O1 39 (.mov (.tmp 0)),O1 40 (.mov (.tmp 9)),O1 41 (.slcS (.tmp 39) (some (.tmp 40)) none),O1 0 (.mov (.tmp 41))] [0,1,6,7])))) (.ops [O1 26 (.mov (.tmp 7)),O1 27 (.bin .add (.tmp 26) (.const (.int .i64 1))),O1 7 (.mov (.tmp 27))] [0,1,6,7]))
def c66:AFun:=⟨.seq (.ops [O1 4 (.mov (.const (.slice none 0 0)))] [0,1]) (.seq (.ops [O1 10 (.mov (.tmp 0)),O1 11 (.callF 80 [.tmp 10]),O1 5 (.mov (.tmp 11))] [0,1,5]) (.seq (.seq (.ops [O1 12 (.mov (.tmp 1)),O1 13 (.bin .lss (.tmp 12) (.const (.int .i64 0))),O1 14 (.mov (.tmp 13)),⟨some 15,some (14,false),.mov (.tmp 1)⟩,⟨some 16,some (14,false),.mov (.tmp 5)⟩,⟨some 17,some (14,false),.bin .gtr (.tmp 15) (.tmp 16)⟩,O1 18 (.pick (.tmp 14) (.const (.bool true)) (.tmp 17))] [0,1,5,18]) (.cond (.tmp 18) (.ops [O1 19 (.mov (.tmp 5)),O1 1 (.mov (.tmp 19))] [0,1]) (.skip))) (.seq (.ops [O1 20 (.mov (.tmp 1)),O1 21 (.mkSlice 9 1 16 [(.string ⟨#[]⟩)] (.tmp 20) (.tmp 20)),O1 6 (.mov (.tmp 21))] [0,1,6]) (.seq (.seq (.ops [O1 7 (.mov (.const (.int .i64 0)))] [0,1,6,7]) (.block 0 (.loop [0,1,6,7] c66l0))) (.seq (.seq (.ops [O1 42 (.mov (.tmp 1)),O1 43 (.bin .gtr (.tmp 42) (.const (.int .i64 0)))] [0,1,6,43]) (.cond (.tmp 43) (.ops [O1 44 (.mov (.tmp 6)),O1 45 (.mov (.tmp 1)),O1 46 (.bin .sub (.tmp 45) (.const (.int .i64 1))),O1 47 (.mov (.tmp 0)),O1 48 (.idxS 1 (.tmp 44) (.tmp 46)),⟨none,none,.store 1 (.tmp 48) (.tmp 47)⟩] [6]) (.skip))) (.seq (.ops [O1 49 (.mov (.tmp 6)),O1 4 (.mov (.tmp 49))] [4]) (.ret))))))),50,[(4,none)],true⟩
theorem ok66:FunOK Tryd.prog 66 c66:= .code ⟨Tryd.f66,_,c66.code,Tryd.func66,rfl,by kernel_rfl,rfl,by kernel_rfl,by kernel_rfl⟩
/- strings.Count -/
def c67l0:AC:= .block 1 (.seq (.ops [O1 20 (.mov (.tmp 0)),O1 21 (.mov (.tmp 1)),O1 22 (.callF 68 [(.tmp 20),(.tmp 21)]),O1 6 (.mov (.tmp 22))] [0,1,5,6]) (.seq (.seq (.ops [O1 23 (.mov (.tmp 6)),O1 24 (.bin .eql (.tmp 23) (.const (.int .i64 (-1))))] [0,1,5,6,24]) (.cond (.tmp 24) (.seq (.ops [O1 25 (.mov (.tmp 5)),O1 4 (.mov (.tmp 25))] [4]) (.ret)) (.skip))) (.seq (.ops [O1 26 (.mov (.tmp 5)),O1 27 (.bin .add (.tmp 26) (.const (.int .i64 1))),O1 5 (.mov (.tmp 27))] [0,1,5,6]) (.ops [O1 28 (.mov (.tmp 0)),O1 29 (.mov (.tmp 6)),O1 30 (.mov (.tmp 1)),O1 31 (.len true (.tmp 30)),O1 32 (.bin .add (.tmp 29) (.tmp 31)),O1 33 (.slcS (.tmp 28) (some (.tmp 32)) none),O1 0 (.mov (.tmp 33))] [0,1,5]))))
def c67:AFun:=⟨.seq (.ops [O1 4 (.mov (.const (.int .i64 0)))] [0,1]) (.seq (.seq (.ops [O1 7 (.mov (.tmp 1)),O1 8 (.len true (.tmp 7)),O1 9 (.bin .eql (.tmp 8) (.const (.int .i64 0)))] [0,1,9]) (.cond (.tmp 9) (.seq (.ops [O1 10 (.mov (.tmp 0)),O1 11 (.callF 80 [.tmp 10]),O1 12 (.bin .add (.tmp 11) (.const (.int .i64 1))),O1 4 (.mov (.tmp 12))] [4]) (.ret)) (.skip))) (.seq (.seq (.ops [O1 13 (.mov (.tmp 1)),O1 14 (.len true (.tmp 13)),O1 15 (.bin .eql (.tmp 14) (.const (.int .i64 1)))] [0,1,15]) (.cond (.tmp 15) (.seq (.ops [O1 16 (.mov (.tmp 0)),O1 17 (.mov (.tmp 1)),O1 18 (.idxStr (.tmp 17) (.const (.int .i64 0))),O1 19 (.callF 82 [(.tmp 16),(.tmp 18)]),O1 4 (.mov (.tmp 19))] [4]) (.ret)) (.skip))) (.seq (.ops [O1 5 (.mov (.const (.int .i64 0)))] [0,1,5]) (.block 0 (.loop [0,1,5] c67l0))))),34,[(4,none)],true⟩
theorem ok67:FunOK Tryd.prog 67 c67:= .code ⟨Tryd.f67,_,c67.code,Tryd.func67,rfl,by kernel_rfl,rfl,by kernel_rfl,by kernel_rfl⟩
/- strings.Index -/
def c68:AFun:=⟨.seq (.ops [O1 4 (.mov (.const (.int .i64 0)))] [0,1]) (.seq (.ops [O1 5 (.mov (.tmp 0)),O1 6 (.mov (.tmp 1)),O1 7 (.callF 83 [(.tmp 5),(.tmp 6)]),O1 4 (.mov (.tmp 7))] [4]) (.ret)),8,[(4,none)],true⟩
theorem ok68:FunOK Tryd.prog 68 c68:= .code ⟨Tryd.f68,_,c68.code,Tryd.func68,rfl,by kernel_rfl,rfl,by kernel_rfl,by kernel_rfl⟩
/- internal/stringslite.HasSuffix -/
def c69:AFun:=⟨.seq (.ops [O1 4 (.mov (.const (.bool false)))] [0,1]) (.seq (.ops [O1 5 (.mov (.tmp 0)),O1 6 (.len true (.tmp 5)),O1 7 (.mov (.tmp 1)),O1 8 (.len true (.tmp 7)),O1 9 (.bin .geq (.tmp 6) (.tmp 8)),O1 10 (.mov (.tmp 9)),⟨some 11,some (10,true),.mov (.tmp 0)⟩,⟨some 12,some (10,true),.mov (.tmp 0)⟩,⟨some 13,some (10,true),.len true (.tmp 12)⟩,⟨some 14,some (10,true),.mov (.tmp 1)⟩,⟨some 15,some (10,true),.len true (.tmp 14)⟩,⟨some 16,some (10,true),.bin .sub (.tmp 13) (.tmp 15)⟩,⟨some 17,some (10,true),.slcS (.tmp 11) (some (.tmp 16)) none⟩,⟨some 18,some (10,true),.mov (.tmp 1)⟩,⟨some 19,some (10,true),.bin .eql (.tmp 17) (.tmp 18)⟩,O1 20 (.pick (.tmp 10) (.tmp 19) (.const (.bool false))),O1 4 (.mov (.tmp 20))] [4]) (.ret)),21,[(4,none)],true⟩
theorem ok69:FunOK Tryd.prog 69 c69:= .code ⟨Tryd.f69,_,c69.code,Tryd.func69,rfl,by kernel_rfl,rfl,by kernel_rfl,by kernel_rfl⟩
/- unicode/utf8.RuneCountInString -/
def c80l0:AC:= .seq (.ops [O1 5 (.nextS (.tmp 4)),O1 6 (.ext (.tmp 5) 0)] [2,4,6]) (.seq (.cond (.tmp 6) (.skip) (.exit 0)) (.block 1 (.ops [O1 7 (.mov (.tmp 2)),O1 8 (.bin .add (.tmp 7) (.const (.int .i64 1))),O1 2 (.mov (.tmp 8))] [2,4])))
def c80:AFun:=⟨.seq (.ops [O1 2 (.mov (.const (.int .i64 0)))] [0,2]) (.seq (.seq (.ops [O1 3 (.mov (.tmp 0)),O1 4 (.rangeS (.tmp 3))] [2,4]) (.block 0 (.loop [2,4] c80l0))) (.seq (.ops [O1 9 (.mov (.tmp 2)),O1 2 (.mov (.tmp 9))] [2]) (.ret))),10,[(2,none)],true⟩
theorem ok80:FunOK Tryd.prog 80 c80:= .code ⟨Tryd.f80,_,c80.code,Tryd.func80,rfl,by kernel_rfl,rfl,by kernel_rfl,by kernel_rfl⟩
/- unicode/utf8.DecodeRuneInString -/
def c81:AFun:=⟨.seq (.ops [O1 2 (.mov (.const (.int .i32 0))),O1 3 (.mov (.const (.int .i64 0)))] [0]) (.seq (.seq (.ops [O1 4 (.mov (.tmp 0)),O1 5 (.bin .neq (.tmp 4) (.const (.string ⟨#[]⟩))),O1 6 (.mov (.tmp 5)),⟨some 7,some (6,true),.mov (.tmp 0)⟩,⟨some 8,some (6,true),.idxStr (.tmp 7) (.const (.int .i64 0))⟩,⟨some 9,some (6,true),.bin .lss (.tmp 8) (.const (.int .u8 128))⟩,O1 10 (.pick (.tmp 6) (.tmp 9) (.const (.bool false)))] [0,10]) (.cond (.tmp 10) (.seq (.ops [O1 11 (.mov (.tmp 0)),O1 12 (.idxStr (.tmp 11) (.const (.int .i64 0))),O1 13 (.convI .i32 (.tmp 12)),O1 2 (.mov (.tmp 13)),O1 3 (.mov (.const (.int .i64 1)))] [2,3]) (.ret)) (.ops [O1 15 (.mov (.tmp 0)),O1 16 (.callF 92 [.tmp 15]),O1 14 (.mov (.tmp 16)),O1 17 (.ext (.tmp 14) 0),O1 18 (.ext (.tmp 14) 1),O1 2 (.mov (.tmp 17)),O1 3 (.mov (.tmp 18))] [2,3]))) (.ret)),19,[(2,none),(3,none)],true⟩
theorem ok81:FunOK Tryd.prog 81 c81:= .code ⟨Tryd.f81,_,c81.code,Tryd.func81,rfl,by kernel_rfl,rfl,by kernel_rfl,by kernel_rfl⟩
/- internal/stringslite.Index -/
def c83l0:AC:= .seq (.seq (.ops [O1 57 (.mov (.tmp 8)),O1 58 (.mov (.tmp 9)),O1 59 (.bin .lss (.tmp 57) (.tmp 58))] [0,1,5,6,7,8,9,10,59]) (.cond (.tmp 59) (.skip) (.exit 1))) (.block 2 (.seq (.seq (.ops [O1 60 (.mov (.tmp 0)),O1 61 (.mov (.tmp 8)),O1 62 (.idxStr (.tmp 60) (.tmp 61)),O1 63 (.mov (.tmp 6)),O1 64 (.bin .neq (.tmp 62) (.tmp 63))] [0,1,5,6,7,8,9,10,64]) (.cond (.tmp 64) (.seq (.ops [O1 65 (.mov (.tmp 0)),O1 66 (.mov (.tmp 8)),O1 67 (.bin .add (.tmp 66) (.const (.int .i64 1))),O1 68 (.mov (.tmp 9)),O1 69 (.slcS (.tmp 65) (some (.tmp 67)) (some (.tmp 68))),O1 70 (.mov (.tmp 6)),O1 71 (.callF 93 [(.tmp 69),(.tmp 70)]),O1 11 (.mov (.tmp 71))] [0,1,5,6,7,8,9,10,11]) (.seq (.seq (.ops [O1 72 (.mov (.tmp 11)),O1 73 (.bin .lss (.tmp 72) (.const (.int .i64 0)))] [0,1,5,6,7,8,9,10,11,73]) (.cond (.tmp 73) (.seq (.ops [O1 4 (.mov (.const (.int .i64 (-1))))] [4]) (.ret)) (.skip))) (.ops [O1 74 (.mov (.tmp 8)),O1 75 (.mov (.tmp 11)),O1 76 (.bin .add (.tmp 75) (.const (.int .i64 1))),O1 77 (.bin .add (.tmp 74) (.tmp 76)),O1 8 (.mov (.tmp 77))] [0,1,5,6,7,8,9,10]))) (.skip))) (.seq (.seq (.ops [O1 78 (.mov (.tmp 0)),O1 79 (.mov (.tmp 8)),O1 80 (.bin .add (.tmp 79) (.const (.int .i64 1))),O1 81 (.idxStr (.tmp 78) (.tmp 80)),O1 82 (.mov (.tmp 7)),O1 83 (.bin .eql (.tmp 81) (.tmp 82)),O1 84 (.mov (.tmp 83)),⟨some 85,some (84,true),.mov (.tmp 0)⟩,⟨some 86,some (84,true),.mov (.tmp 8)⟩,⟨some 87,some (84,true),.mov (.tmp 8)⟩,⟨some 88,some (84,true),.mov (.tmp 5)⟩,⟨some 89,some (84,true),.bin .add (.tmp 87) (.tmp 88)⟩,⟨some 90,some (84,true),.slcS (.tmp 85) (some (.tmp 86)) (some (.tmp 89))⟩,⟨some 91,some (84,true),.mov (.tmp 1)⟩,⟨some 92,some (84,true),.bin .eql (.tmp 90) (.tmp 91)⟩,O1 93 (.pick (.tmp 84) (.tmp 92) (.const (.bool false)))] [0,1,5,6,7,8,9,10,93]) (.cond (.tmp 93) (.seq (.ops [O1 94 (.mov (.tmp 8)),O1 4 (.mov (.tmp 94))] [4]) (.ret)) (.skip))) (.seq (.ops [O1 95 (.mov (.tmp 8)),O1 96 (.bin .add (.tmp 95) (.const (.int .i64 1))),O1 8 (.mov (.tmp 96))] [0,1,5,6,7,8,9,10]) (.seq (.ops [O1 97 (.mov (.tmp 10)),O1 98 (.bin .add (.tmp 97) (.const (.int .i64 1))),O1 10 (.mov (.tmp 98))] [0,1,5,6,7,8,9,10]) (.seq (.ops [O1 99 (.mov (.tmp 5)),O1 100 (.load none (.global 2)),O1 101 (.bin .leq (.tmp 99) (.tmp 100)),O1 102 (.mov (.tmp 101)),⟨some 103,some (102,true),.mov (.tmp 10)⟩,⟨some 104,some (102,true),.mov (.tmp 8)⟩,⟨some 105,some (102,true),.callF 95 [.tmp 104]⟩,⟨some 106,some (102,true),.bin .gtr (.tmp 103) (.tmp 105)⟩,O1 107 (.pick (.tmp 102) (.tmp 106) (.const (.bool false)))] [0,1,5,6,7,8,9,10,107]) (.cond (.tmp 107) (.seq (.ops [O1 108 (.mov (.tmp 0)),O1 109 (.mov (.tmp 8)),O1 110 (.slcS (.tmp 108) (some (.tmp 109)) none),O1 111 (.mov (.tmp 1)),O1 112 (.callF 94 [(.tmp 110),(.tmp 111)]),O1 12 (.mov (.tmp 112))] [8,12]) (.seq (.seq (.ops [O1 113 (.mov (.tmp 12)),O1 114 (.bin .geq (.tmp 113) (.const (.int .i64 0)))] [8,12,114]) (.cond (.tmp 114) (.seq (.ops [O1 115 (.mov (.tmp 12)),O1 116 (.mov (.tmp 8)),O1 117 (.bin .add (.tmp 115) (.tmp 116)),
  O1 4 (.mov (.tmp 117))] [4]) (.ret)) (.skip))) (.seq (.ops [O1 4 (.mov (.const (.int .i64 (-1))))] [4]) (.ret)))) (.seq (.ops [O1 118 (.mov (.tmp 5)),O1 119 (.load none (.global 2)),O1 120 (.bin .gtr (.tmp 118) (.tmp 119)),O1 121 (.mov (.tmp 120)),⟨some 122,some (121,true),.mov (.tmp 10)⟩,⟨some 123,some (121,true),.mov (.tmp 8)⟩,⟨some 124,some (121,true),.bin .shr (.tmp 123) (.const (.int .u64 4))⟩,⟨some 125,some (121,true),.bin .add (.const (.int .i64 4)) (.tmp 124)⟩,⟨some 126,some (121,true),.bin .geq (.tmp 122) (.tmp 125)⟩,O1 127 (.pick (.tmp 121) (.tmp 126) (.const (.bool false))),O1 128 (.mov (.tmp 127)),⟨some 129,some (128,true),.mov (.tmp 8)⟩,⟨some 130,some (128,true),.mov (.tmp 9)⟩,⟨some 131,some (128,true),.bin .lss (.tmp 129) (.tmp 130)⟩,O1 132 (.pick (.tmp 128) (.tmp 131) (.const (.bool false)))] [0,1,5,6,7,8,9,10,132]) (.cond (.tmp 132) (.seq (.ops [O1 133 (.mov (.tmp 0)),O1 134 (.mov (.tmp 8)),O1 135 (.slcS (.tmp 133) (some (.tmp 134)) none),O1 136 (.mov (.tmp 1)),O1 137 (.callF 96 [(.tmp 135),(.tmp 136)]),O1 13 (.mov (.tmp 137))] [8,13]) (.seq (.seq (.ops [O1 138 (.mov (.tmp 13)),O1 139 (.bin .lss (.tmp 138) (.const (.int .i64 0)))] [8,13,139]) (.cond (.tmp 139) (.seq (.ops [O1 4 (.mov (.const (.int .i64 (-1))))] [4]) (.ret)) (.skip))) (.seq (.ops [O1 140 (.mov (.tmp 8)),O1 141 (.mov (.tmp 13)),O1 142 (.bin .add (.tmp 140) (.tmp 141)),O1 4 (.mov (.tmp 142))] [4]) (.ret)))) (.skip))))))))))
def c83:AFun:=⟨.seq (.ops [O1 4 (.mov (.const (.int .i64 0)))] [0,1]) (.seq (.ops [O1 14 (.mov (.tmp 1)),O1 15 (.len true (.tmp 14)),O1 5 (.mov (.tmp 15))] [0,1,5]) (.seq (.block 0 (.seq (.ops [O1 17 (.mov (.tmp 5)),O1 18 (.bin .eql (.tmp 17) (.const (.int .i64 0))),O1 19 (.mov (.tmp 18)),⟨some 20,some (19,false),.mov (.tmp 1)⟩,⟨some 21,some (19,false),.mov (.tmp 0)⟩,⟨some 22,some (19,false),.bin .eql (.tmp 20) (.tmp 21)⟩,O1 23 (.pick (.tmp 19) (.const (.bool true)) (.tmp 22)),O1 16 (.mov (.tmp 23))] [0,1,5,16]) (.cond (.tmp 16) (.seq (.ops [O1 4 (.mov (.const (.int .i64 0)))] [4]) (.ret)) (.seq (.ops [O1 25 (.mov (.tmp 5)),O1 26 (.bin .eql (.tmp 25) (.const (.int .i64 1))),O1 24 (.mov (.tmp 26))] [0,1,5,24]) (.cond (.tmp 24) (.seq (.ops [O1 27 (.mov (.tmp 0)),O1 28 (.mov (.tmp 1)),O1 29 (.idxStr (.tmp 28) (.const (.int .i64 0))),O1 30 (.callF 93 [(.tmp 27),(.tmp 29)]),O1 4 (.mov (.tmp 30))] [4]) (.ret)) (.seq (.ops [O1 32 (.mov (.tmp 5)),O1 33 (.mov (.tmp 0)),O1 34 (.len true (.tmp 33)),O1 35 (.bin .geq (.tmp 32) (.tmp 34)),O1 31 (.mov (.tmp 35))] [0,1,5,31]) (.cond (.tmp 31) (.seq (.ops [O1 4 (.mov (.const (.int .i64 (-1))))] [4]) (.ret)) (.seq (.ops [O1 37 (.mov (.tmp 5)),O1 38 (.load none (.global 2)),O1 39 (.bin .leq (.tmp 37) (.tmp 38)),O1 40 (.mov (.tmp 39)),⟨some 41,some (40,true),.mov (.tmp 0)⟩,⟨some 42,some (40,true),.len true (.tmp 41)⟩,⟨some 43,some (40,true),.bin .leq (.tmp 42) (.const (.int .i64 64))⟩,O1 44 (.pick (.tmp 40) (.tmp 43) (.const (.bool false))),O1 36 (.mov (.tmp 44))] [0,1,5,36]) (.cond (.tmp 36) (.seq (.ops [O1 45 (.mov (.tmp 0)),O1 46 (.mov (.tmp 1)),O1 47 (.callF 94 [(.tmp 45),(.tmp 46)]),O1 4 (.mov (.tmp 47))] [4]) (.ret)) (.skip)))))))))) (.seq (.ops [O1 48 (.mov (.tmp 1)),O1 49 (.idxStr (.tmp 48) (.const (.int .i64 0))),O1 6 (.mov (.tmp 49))] [0,1,5,6]) (.seq (.ops [O1 50 (.mov (.tmp 1)),O1 51 (.idxStr (.tmp 50) (.const (.int .i64 1))),O1 7 (.mov (.tmp 51))] [0,1,5,6,7]) (.seq (.ops [O1 8 (.mov (.const (.int .i64 0)))] [0,1,5,6,7,8]) (.seq (.ops [O1 52 (.mov (.tmp 0)),O1 53 (.len true (.tmp 52)),O1 54 (.mov (.tmp 5)),O1 55 (.bin .sub (.tmp 53) (.tmp 54)),O1 56 (.bin .add (.tmp 55) (.const (.int .i64 1))),O1 9 (.mov (.tmp 56))] [0,1,5,6,7,8,9]) (.seq (.ops [O1 10 (.mov (.const (.int .i64 0)))] [0,1,5,6,7,8,9,10]) (.seq (.block 1 (.loop [0,1,5,6,7,8,9,10] c83l0)) (.seq (.ops [O1 4 (.mov (.const (.int .i64 (-1))))] [4]) (.ret)))))))))),143,[(4,none)],true⟩
theorem ok83:FunOK Tryd.prog 83 c83:= .code ⟨Tryd.f83,_,c83.code,Tryd.func83,rfl,by kernel_rfl,rfl,by kernel_rfl,by kernel_rfl⟩
/- unicode/utf8.decodeRuneInStringSlow -/
def c92:AFun:=⟨.seq (.ops [O1 2 (.mov (.const (.int .i32 0))),O1 3 (.mov (.const (.int .i64 0)))] [0]) (.seq (.ops [O1 13 (.mov (.tmp 0)),O1 14 (.len true (.tmp 13)),O1 4 (.mov (.tmp 14))] [0,4]) (.seq (.seq (.ops [O1 15 (.mov (.tmp 4)),O1 16 (.bin .lss (.tmp 15) (.const (.int .i64 1)))] [0,4,16]) (.cond (.tmp 16) (.seq (.ops [O1 2 (.mov (.const (.int .i32 65533))),O1 3 (.mov (.const (.int .i64 0)))] [2,3]) (.ret)) (.skip))) (.seq (.ops [O1 17 (.mov (.tmp 0)),O1 18 (.idxStr (.tmp 17) (.const (.int .i64 0))),O1 5 (.mov (.tmp 18))] [0,4,5]) (.seq (.ops [O1 19 (.mov (.tmp 5)),O1 20 (.idxA 256 1 (.global 4) (.tmp 19)),O1 21 (.load none (.tmp 20)),O1 6 (.mov (.tmp 21))] [0,4,5,6]) (.seq (.seq (.ops [O1 22 (.mov (.tmp 6)),O1 23 (.bin .geq (.tmp 22) (.const (.int .u8 240)))] [0,4,5,6,23]) (.cond (.tmp 23) (.seq (.ops [O1 24 (.mov (.tmp 6)),O1 25 (.convI .i32 (.tmp 24)),O1 26 (.bin .shl (.tmp 25) (.const (.int .u64 31))),O1 27 (.bin .shr (.tmp 26) (.const (.int .u64 31))),O1 7 (.mov (.tmp 27))] [0,7]) (.seq (.ops [O1 28 (.mov (.tmp 0)),O1 29 (.idxStr (.tmp 28) (.const (.int .i64 0))),O1 30 (.convI .i32 (.tmp 29)),O1 31 (.mov (.tmp 7)),O1 32 (.bin .andNot (.tmp 30) (.tmp 31)),O1 33 (.mov (.tmp 7)),O1 34 (.bin .and (.const (.int .i32 65533)) (.tmp 33)),O1 35 (.bin .or (.tmp 32) (.tmp 34)),O1 2 (.mov (.tmp 35)),O1 3 (.mov (.const (.int .i64 1)))] [2,3]) (.ret))) (.skip))) (.seq (.ops [O1 36 (.mov (.tmp 6)),O1 37 (.bin .and (.tmp 36) (.const (.int .u8 7))),O1 38 (.convI .i64 (.tmp 37)),O1 8 (.mov (.tmp 38))] [0,4,5,6,8]) (.seq (.ops [O1 39 (.mov (.tmp 6)),O1 40 (.bin .shr (.tmp 39) (.const (.int .u64 4))),O1 41 (.idxA 16 2 (.global 5) (.tmp 40)),O1 42 (.load (some 2) (.tmp 41)),O1 9 (.alloc 135 [(2,(.int .u8 0))]),⟨none,none,.store 2 (.tmp 9) (.tmp 42)⟩] [0,4,5,8,9]) (.seq (.seq (.ops [O1 43 (.mov (.tmp 4)),O1 44 (.mov (.tmp 8)),O1 45 (.bin .lss (.tmp 43) (.tmp 44))] [0,5,8,9,45]) (.cond (.tmp 45) (.seq (.ops [O1 2 (.mov (.const (.int .i32 65533))),O1 3 (.mov (.const (.int .i64 1)))] [2,3]) (.ret)) (.skip))) (.seq (.ops [O1 46 (.mov (.tmp 0)),O1 47 (.idxStr (.tmp 46) (.const (.int .i64 1))),O1 10 (.mov (.tmp 47))] [0,5,8,9,10]) (.seq (.seq (.ops [O1 48 (.mov (.tmp 10)),O1 49 (.fldA 0 (.tmp 9)),O1 50 (.load none (.tmp 49)),O1 51 (.bin .lss (.tmp 48) (.tmp 50)),O1 52 (.mov (.tmp 51)),⟨some 53,some (52,false),.fldA 1 (.tmp 9)⟩,⟨some 54,some (52,false),.load none (.tmp 53)⟩,⟨some 55,some (52,false),.mov (.tmp 10)⟩,⟨some 56,some (52,false),.bin .lss (.tmp 54) (.tmp 55)⟩,O1 57 (.pick (.tmp 52) (.const (.bool true)) (.tmp 56))] [0,5,8,10,57]) (.cond (.tmp 57) (.seq (.ops [O1 2 (.mov (.const (.int .i32 65533))),O1 3 (.mov (.const (.int .i64 1)))] [2,3]) (.ret)) (.skip))) (.seq (.seq (.ops [O1 58 (.mov (.tmp 8)),O1 59 (.bin .leq (.tmp 58) (.const (.int .i64 2)))] [0,5,8,10,59]) (.cond (.tmp 59) (.seq (.ops [O1 60 (.mov (.tmp 5)),O1 61 (.bin .and (.tmp 60) (.const (.int .u8 31))),O1 62 (.convI .i32 (.tmp 61)),O1 63 (.bin .shl (.tmp 62) (.const (.int .u64 6))),O1 64 (.mov (.tmp 10)),
  O1 65 (.bin .and (.tmp 64) (.const (.int .u8 63))),O1 66 (.convI .i32 (.tmp 65)),O1 67 (.bin .or (.tmp 63) (.tmp 66)),O1 2 (.mov (.tmp 67)),O1 3 (.mov (.const (.int .i64 2)))] [2,3]) (.ret)) (.skip))) (.seq (.ops [O1 68 (.mov (.tmp 0)),O1 69 (.idxStr (.tmp 68) (.const (.int .i64 2))),O1 11 (.mov (.tmp 69))] [0,5,8,10,11]) (.seq (.seq (.ops [O1 70 (.mov (.tmp 11)),O1 71 (.bin .lss (.tmp 70) (.const (.int .u8 128))),O1 72 (.mov (.tmp 71)),⟨some 73,some (72,false),.mov (.tmp 11)⟩,⟨some 74,some (72,false),.bin .lss (.const (.int .u8 191)) (.tmp 73)⟩,O1 75 (.pick (.tmp 72) (.const (.bool true)) (.tmp 74))] [0,5,8,10,11,75]) (.cond (.tmp 75) (.seq (.ops [O1 2 (.mov (.const (.int .i32 65533))),O1 3 (.mov (.const (.int .i64 1)))] [2,3]) (.ret)) (.skip))) (.seq (.seq (.ops [O1 76 (.mov (.tmp 8)),O1 77 (.bin .leq (.tmp 76) (.const (.int .i64 3)))] [0,5,10,11,77]) (.cond (.tmp 77) (.seq (.ops [O1 78 (.mov (.tmp 5)),O1 79 (.bin .and (.tmp 78) (.const (.int .u8 15))),O1 80 (.convI .i32 (.tmp 79)),O1 81 (.bin .shl (.tmp 80) (.const (.int .u64 12))),O1 82 (.mov (.tmp 10)),O1 83 (.bin .and (.tmp 82) (.const (.int .u8 63))),O1 84 (.convI .i32 (.tmp 83)),O1 85 (.bin .shl (.tmp 84) (.const (.int .u64 6))),O1 86 (.bin .or (.tmp 81) (.tmp 85)),O1 87 (.mov (.tmp 11)),O1 88 (.bin .and (.tmp 87) (.const (.int .u8 63))),O1 89 (.convI .i32 (.tmp 88)),O1 90 (.bin .or (.tmp 86) (.tmp 89)),O1 2 (.mov (.tmp 90)),O1 3 (.mov (.const (.int .i64 3)))] [2,3]) (.ret)) (.skip))) (.seq (.ops [O1 91 (.mov (.tmp 0)),O1 92 (.idxStr (.tmp 91) (.const (.int .i64 3))),O1 12 (.mov (.tmp 92))] [5,10,11,12]) (.seq (.seq (.ops [O1 93 (.mov (.tmp 12)),O1 94 (.bin .lss (.tmp 93) (.const (.int .u8 128))),O1 95 (.mov (.tmp 94)),⟨some 96,some (95,false),.mov (.tmp 12)⟩,⟨some 97,some (95,false),.bin .lss (.const (.int .u8 191)) (.tmp 96)⟩,O1 98 (.pick (.tmp 95) (.const (.bool true)) (.tmp 97))] [5,10,11,12,98]) (.cond (.tmp 98) (.seq (.ops [O1 2 (.mov (.const (.int .i32 65533))),O1 3 (.mov (.const (.int .i64 1)))] [2,3]) (.ret)) (.skip))) (.seq (.ops [O1 99 (.mov (.tmp 5)),O1 100 (.bin .and (.tmp 99) (.const (.int .u8 7))),O1 101 (.convI .i32 (.tmp 100)),O1 102 (.bin .shl (.tmp 101) (.const (.int .u64 18))),O1 103 (.mov (.tmp 10)),O1 104 (.bin .and (.tmp 103) (.const (.int .u8 63))),O1 105 (.convI .i32 (.tmp 104)),O1 106 (.bin .shl (.tmp 105) (.const (.int .u64 12))),O1 107 (.bin .or (.tmp 102) (.tmp 106)),O1 108 (.mov (.tmp 11)),O1 109 (.bin .and (.tmp 108) (.const (.int .u8 63))),O1 110 (.convI .i32 (.tmp 109)),O1 111 (.bin .shl (.tmp 110) (.const (.int .u64 6))),O1 112 (.bin .or (.tmp 107) (.tmp 111)),O1 113 (.mov (.tmp 12)),O1 114 (.bin .and (.tmp 113) (.const (.int .u8 63))),O1 115 (.convI .i32 (.tmp 114)),O1 116 (.bin .or (.tmp 112) (.tmp 115)),O1 2 (.mov (.tmp 116)),O1 3 (.mov (.const (.int .i64 4)))] [2,3]) (.ret)))))))))))))))))),117,[(2,none),(3,none)],true⟩
theorem ok92:FunOK Tryd.prog 92 c92:= .code ⟨Tryd.f92,_,c92.code,Tryd.func92,rfl,by kernel_rfl,rfl,by kernel_rfl,by kernel_rfl⟩
/- internal/stringslite.IndexByte -/
def c93:AFun:=⟨.seq (.ops [O1 4 (.mov (.const (.int .i64 0)))] [0,1]) (.seq (.ops [O1 5 (.mov (.tmp 0)),O1 6 (.mov (.tmp 1)),O1 7 (.callF 101 [(.tmp 5),(.tmp 6)]),O1 4 (.mov (.tmp 7))] [4]) (.ret)),8,[(4,none)],true⟩
theorem ok93:FunOK Tryd.prog 93 c93:= .code ⟨Tryd.f93,_,c93.code,Tryd.func93,rfl,by kernel_rfl,rfl,by kernel_rfl,by kernel_rfl⟩
/- internal/bytealg.Cutover -/
def c95:AFun:=⟨.seq (.ops [O1 2 (.mov (.const (.int .i64 0)))] [0]) (.seq (.ops [O1 3 (.mov (.tmp 0)),O1 4 (.bin .add (.tmp 3) (.const (.int .i64 16))),O1 5 (.bin .quo (.tmp 4) (.const (.int .i64 8))),O1 2 (.mov (.tmp 5))] [2]) (.ret)),6,[(2,none)],true⟩
theorem ok95:FunOK Tryd.prog 95 c95:= .code ⟨Tryd.f95,_,c95.code,Tryd.func95,rfl,by kernel_rfl,rfl,by kernel_rfl,by kernel_rfl⟩
/- internal/bytealg.IndexRabinKarp[string] -/
def c96l0:AC:= .seq (.seq (.ops [O1 41 (.mov (.tmp 10)),O1 42 (.mov (.tmp 0)),O1 43 (.len true (.tmp 42)),O1 44 (.bin .lss (.tmp 41) (.tmp 43))] [0,1,5,6,7,8,10,44]) (.cond (.tmp 44) (.skip) (.exit 2))) (.block 3 (.seq (.ops [O1 45 (.mov (.tmp 8)),O1 46 (.bin .mul (.tmp 45) (.const (.int .u32 16777619))),O1 8 (.mov (.tmp 46))] [0,1,5,6,7,8,10]) (.seq (.ops [O1 47 (.mov (.tmp 8)),O1 48 (.mov (.tmp 0)),O1 49 (.mov (.tmp 10)),O1 50 (.idxStr (.tmp 48) (.tmp 49)),O1 51 (.convI .u32 (.tmp 50)),O1 52 (.bin .add (.tmp 47) (.tmp 51)),O1 8 (.mov (.tmp 52))] [0,1,5,6,7,8,10]) (.seq (.ops [O1 53 (.mov (.tmp 8)),O1 54 (.mov (.tmp 6)),O1 55 (.mov (.tmp 0)),O1 56 (.mov (.tmp 10)),O1 57 (.mov (.tmp 7)),O1 58 (.bin .sub (.tmp 56) (.tmp 57)),O1 59 (.idxStr (.tmp 55) (.tmp 58)),O1 60 (.convI .u32 (.tmp 59)),O1 61 (.bin .mul (.tmp 54) (.tmp 60)),O1 62 (.bin .sub (.tmp 53) (.tmp 61)),O1 8 (.mov (.tmp 62))] [0,1,5,6,7,8,10]) (.seq (.ops [O1 63 (.mov (.tmp 10)),O1 64 (.bin .add (.tmp 63) (.const (.int .i64 1))),O1 10 (.mov (.tmp 64))] [0,1,5,6,7,8,10]) (.seq (.ops [O1 65 (.mov (.tmp 8)),O1 66 (.mov (.tmp 5)),O1 67 (.bin .eql (.tmp 65) (.tmp 66)),O1 68 (.mov (.tmp 67)),⟨some 69,some (68,true),.mov (.tmp 0)⟩,⟨some 70,some (68,true),.mov (.tmp 10)⟩,⟨some 71,some (68,true),.mov (.tmp 7)⟩,⟨some 72,some (68,true),.bin .sub (.tmp 70) (.tmp 71)⟩,⟨some 73,some (68,true),.mov (.tmp 10)⟩,⟨some 74,some (68,true),.slcS (.tmp 69) (some (.tmp 72)) (some (.tmp 73))⟩,⟨some 75,some (68,true),.mov (.tmp 1)⟩,⟨some 76,some (68,true),.bin .eql (.tmp 74) (.tmp 75)⟩,O1 77 (.pick (.tmp 68) (.tmp 76) (.const (.bool false)))] [0,1,5,6,7,8,10,77]) (.cond (.tmp 77) (.seq (.ops [O1 78 (.mov (.tmp 10)),O1 79 (.mov (.tmp 7)),O1 80 (.bin .sub (.tmp 78) (.tmp 79)),O1 4 (.mov (.tmp 80))] [4]) (.ret)) (.skip))))))))
def c96l1:AC:= .seq (.seq (.ops [O1 18 (.mov (.tmp 9)),O1 19 (.mov (.tmp 7)),O1 20 (.bin .lss (.tmp 18) (.tmp 19))] [0,1,5,6,7,8,9,20]) (.cond (.tmp 20) (.skip) (.exit 0))) (.seq (.block 1 (.ops [O1 23 (.mov (.tmp 8)),O1 24 (.bin .mul (.tmp 23) (.const (.int .u32 16777619))),O1 25 (.mov (.tmp 0)),O1 26 (.mov (.tmp 9)),O1 27 (.idxStr (.tmp 25) (.tmp 26)),O1 28 (.convI .u32 (.tmp 27)),O1 29 (.bin .add (.tmp 24) (.tmp 28)),O1 8 (.mov (.tmp 29))] [0,1,5,6,7,8,9])) (.ops [O1 21 (.mov (.tmp 9)),O1 22 (.bin .add (.tmp 21) (.const (.int .i64 1))),O1 9 (.mov (.tmp 22))] [0,1,5,6,7,8,9]))
def c96:AFun:=⟨.seq (.ops [O1 4 (.mov (.const (.int .i64 0)))] [0,1]) (.seq (.ops [O1 12 (.mov (.tmp 1)),O1 13 (.callF 102 [.tmp 12]),O1 11 (.mov (.tmp 13)),O1 14 (.ext (.tmp 11) 0),O1 15 (.ext (.tmp 11) 1),O1 5 (.mov (.tmp 14)),O1 6 (.mov (.tmp 15))] [0,1,5,6]) (.seq (.ops [O1 16 (.mov (.tmp 1)),O1 17 (.len true (.tmp 16)),O1 7 (.mov (.tmp 17))] [0,1,5,6,7]) (.seq (.ops [O1 8 (.mov (.const (.int .u32 0)))] [0,1,5,6,7,8]) (.seq (.seq (.ops [O1 9 (.mov (.const (.int .i64 0)))] [0,1,5,6,7,8,9]) (.block 0 (.loop [0,1,5,6,7,8,9] c96l1))) (.seq (.seq (.ops [O1 30 (.mov (.tmp 8)),O1 31 (.mov (.tmp 5)),O1 32 (.bin .eql (.tmp 30) (.tmp 31)),O1 33 (.mov (.tmp 32)),⟨some 34,some (33,true),.mov (.tmp 0)⟩,⟨some 35,some (33,true),.mov (.tmp 7)⟩,⟨some 36,some (33,true),.slcS (.tmp 34) none (some (.tmp 35))⟩,⟨some 37,some (33,true),.mov (.tmp 1)⟩,⟨some 38,some (33,true),.bin .eql (.tmp 36) (.tmp 37)⟩,O1 39 (.pick (.tmp 33) (.tmp 38) (.const (.bool false)))] [0,1,5,6,7,8,39]) (.cond (.tmp 39) (.seq (.ops [O1 4 (.mov (.const (.int .i64 0)))] [4]) (.ret)) (.skip))) (.seq (.seq (.ops [O1 40 (.mov (.tmp 7)),O1 10 (.mov (.tmp 40))] [0,1,5,6,7,8,10]) (.block 2 (.loop [0,1,5,6,7,8,10] c96l0))) (.seq (.ops [O1 4 (.mov (.const (.int .i64 (-1))))] [4]) (.ret)))))))),81,[(4,none)],true⟩
theorem ok96:FunOK Tryd.prog 96 c96:= .code ⟨Tryd.f96,_,c96.code,Tryd.func96,rfl,by kernel_rfl,rfl,by kernel_rfl,by kernel_rfl⟩
/- internal/bytealg.hashStr[string] -/
def c102l0:AC:= .seq (.seq (.ops [O1 24 (.mov (.tmp 8)),O1 25 (.bin .gtr (.tmp 24) (.const (.int .i64 0)))] [4,6,7,8,25]) (.cond (.tmp 25) (.skip) (.exit 2))) (.seq (.block 3 (.seq (.seq (.ops [O1 28 (.mov (.tmp 8)),O1 29 (.bin .and (.tmp 28) (.const (.int .i64 1))),O1 30 (.bin .neq (.tmp 29) (.const (.int .i64 0)))] [4,6,7,8,30]) (.cond (.tmp 30) (.ops [O1 31 (.mov (.tmp 6)),O1 32 (.mov (.tmp 7)),O1 33 (.bin .mul (.tmp 31) (.tmp 32)),O1 6 (.mov (.tmp 33))] [4,6,7,8]) (.skip))) (.ops [O1 34 (.mov (.tmp 7)),O1 35 (.mov (.tmp 7)),O1 36 (.bin .mul (.tmp 34) (.tmp 35)),O1 7 (.mov (.tmp 36))] [4,6,7,8]))) (.ops [O1 26 (.mov (.tmp 8)),O1 27 (.bin .shr (.tmp 26) (.const (.int .u64 1))),O1 8 (.mov (.tmp 27))] [4,6,7,8]))
def c102l1:AC:= .seq (.seq (.ops [O1 9 (.mov (.tmp 5)),O1 10 (.mov (.tmp 0)),O1 11 (.len true (.tmp 10)),O1 12 (.bin .lss (.tmp 9) (.tmp 11))] [0,4,5,12]) (.cond (.tmp 12) (.skip) (.exit 0))) (.seq (.block 1 (.ops [O1 15 (.mov (.tmp 4)),O1 16 (.bin .mul (.tmp 15) (.const (.int .u32 16777619))),O1 17 (.mov (.tmp 0)),O1 18 (.mov (.tmp 5)),O1 19 (.idxStr (.tmp 17) (.tmp 18)),O1 20 (.convI .u32 (.tmp 19)),O1 21 (.bin .add (.tmp 16) (.tmp 20)),O1 4 (.mov (.tmp 21))] [0,4,5])) (.ops [O1 13 (.mov (.tmp 5)),O1 14 (.bin .add (.tmp 13) (.const (.int .i64 1))),O1 5 (.mov (.tmp 14))] [0,4,5]))
def c102:AFun:=⟨.seq (.ops [O1 2 (.mov (.const (.int .u32 0))),O1 3 (.mov (.const (.int .u32 0)))] [0]) (.seq (.ops [O1 4 (.mov (.const (.int .u32 0)))] [0,4]) (.seq (.seq (.ops [O1 5 (.mov (.const (.int .i64 0)))] [0,4,5]) (.block 0 (.loop [0,4,5] c102l1))) (.seq (.ops [O1 6 (.mov (.const (.int .u32 1))),O1 7 (.mov (.const (.int .u32 16777619)))] [0,4,6,7]) (.seq (.seq (.ops [O1 22 (.mov (.tmp 0)),O1 23 (.len true (.tmp 22)),O1 8 (.mov (.tmp 23))] [4,6,7,8]) (.block 2 (.loop [4,6,7,8] c102l0))) (.seq (.ops [O1 37 (.mov (.tmp 4)),O1 38 (.mov (.tmp 6)),O1 2 (.mov (.tmp 37)),O1 3 (.mov (.tmp 38))] [2,3]) (.ret)))))),39,[(2,none),(3,none)],true⟩
theorem ok102:FunOK Tryd.prog 102 c102:= .code ⟨Tryd.f102,_,c102.code,Tryd.func102,rfl,by kernel_rfl,rfl,by kernel_rfl,by kernel_rfl⟩
def fns:FuncId→Option AFun
 |3=>some c3
 |9=>some c9
 |10=>some c10
 |11=>some c11
 |12=>some c12
 |13=>some c13
 |14=>some c14
 |16=>some c16
 |19=>some c19
 |24=>some c24
 |28=>some c28
 |29=>some c29
 |31=>some c31
 |33=>some c33
 |34=>some c34
 |35=>some c35
 |36=>some c36
 |37=>some c37
 |39=>some c39
 |40=>some c40
 |42=>some c42
 |43=>some c43
 |44=>some c44
 |47=>some c47
 |48=>some c48
 |51=>some c51
 |54=>some c54
 |55=>some c55
 |58=>some c58
 |59=>some c59
 |66=>some c66
 |67=>some c67
 |68=>some c68
 |69=>some c69
 |80=>some c80
 |81=>some c81
 |83=>some c83
 |92=>some c92
 |93=>some c93
 |95=>some c95
 |96=>some c96
 |102=>some c102
 |_=>none
theorem fns_ok:FunsOK Tryd.prog fns:=by
 intro f af h
 unfold fns at h
 split at h
 ·cases h;exact ok3
 ·cases h;exact ok9
 ·cases h;exact ok10
 ·cases h;exact ok11
 ·cases h;exact ok12
 ·cases h;exact ok13
 ·cases h;exact ok14
 ·cases h;exact ok16
 ·cases h;exact ok19
 ·cases h;exact ok24
 ·cases h;exact ok28
 ·cases h;exact ok29
 ·cases h;exact ok31
 ·cases h;exact ok33
 ·cases h;exact ok34
 ·cases h;exact ok35
 ·cases h;exact ok36
 ·cases h;exact ok37
 ·cases h;exact ok39
 ·cases h;exact ok40
 ·cases h;exact ok42
 ·cases h;exact ok43
 ·cases h;exact ok44
 ·cases h;exact ok47
 ·cases h;exact ok48
 ·cases h;exact ok51
 ·cases h;exact ok54
 ·cases h;exact ok55
 ·cases h;exact ok58
 ·cases h;exact ok59
 ·cases h;exact ok66
 ·cases h;exact ok67
 ·cases h;exact ok68
 ·cases h;exact ok69
 ·cases h;exact ok80
 ·cases h;exact ok81
 ·cases h;exact ok83
 ·cases h;exact ok92
 ·cases h;exact ok93
 ·cases h;exact ok95
 ·cases h;exact ok96
 ·cases h;exact ok102
 ·cases h
end Go.Proofs.YteibgbbfcjgjiaaDoor
namespace Go.Proofs
open Go.Shelf
def Tryd.lays156_ren:Go.Shelf.Ren:=⟨fun|156=>30|165=>52|166=>29|169=>34|240=>51|241=>64|276=>63|277=>75|n=>n,fun|31=>22|9=>9|3=>3|4=>4|0=>0|20=>20|72=>61|76=>64|70=>58|37=>59|75=>63|127=>86|164=>91|5=>5|80=>70|n=>n,fun|n=>n⟩
theorem Tryd.lays156:Go.Proofs.Lays.n156 Tryd.prog Tryd.lays156_ren:={
 mixed:=by kernel_rfl
 f156:=Tryd.func30.trans (congrArg some (by kernel_rfl))
 f165:=Tryd.func52.trans (congrArg some (by kernel_rfl))
 f166:=Tryd.func29.trans (congrArg some (by kernel_rfl))
 f169:=Tryd.func34.trans (congrArg some (by kernel_rfl))
 f240:=Tryd.func51.trans (congrArg some (by kernel_rfl))
 f241:=Tryd.func64.trans (congrArg some (by kernel_rfl))
 f276:=Tryd.func63.trans (congrArg some (by kernel_rfl))
 f277:=Tryd.func75.trans (congrArg some (by kernel_rfl))
 t0:=Tryd.underlying0
 a0:=Tryd.isAgg0
 z0:=Tryd.sizeOf0
 v0:=Tryd.zeroValue0
 t3:=Tryd.underlying3
 a3:=Tryd.isAgg3
 z3:=Tryd.sizeOf3
 v3:=Tryd.zeroValue3
 t4:=Tryd.underlying4
 a4:=Tryd.isAgg4
 z4:=Tryd.sizeOf4
 v4:=Tryd.zeroValue4
 t9:=Tryd.underlying9
 a9:=Tryd.isAgg9
 z9:=Tryd.sizeOf9
 v9:=Tryd.zeroValue9
 t20:=Tryd.underlying20
 a20:=Tryd.isAgg20
 z20:=Tryd.sizeOf20
 v20:=Tryd.zeroValue20
 t31:=Tryd.underlying22
 a31:=Tryd.isAgg22
 z31:=Tryd.sizeOf22
 v31:=Tryd.zeroValue22
 t37:=Tryd.underlying59
 a37:=Tryd.isAgg59
 z37:=Tryd.sizeOf59
 v37:=Tryd.zeroValue59
 t70:=Tryd.underlying58
 a70:=Tryd.isAgg58
 z70:=Tryd.sizeOf58
 v70:=Tryd.zeroValue58
 t72:=Tryd.underlying61
 a72:=Tryd.isAgg61
 z72:=Tryd.sizeOf61
 v72:=Tryd.zeroValue61
 t75:=Tryd.underlying63
 a75:=Tryd.isAgg63
 z75:=Tryd.sizeOf63
 v75:=Tryd.zeroValue63
 t76:=Tryd.underlying64
 a76:=Tryd.isAgg64
 z76:=Tryd.sizeOf64
 v76:=Tryd.zeroValue64
 t127:=Tryd.underlying86
 a127:=Tryd.isAgg86
 z127:=Tryd.sizeOf86
 v127:=Tryd.zeroValue86
 t164:=Tryd.underlying91
 a164:=Tryd.isAgg91
 z164:=Tryd.sizeOf91
 v164:=Tryd.zeroValue91}
theorem Tryd.Builder_Extra_156:Builder.Extra Tryd.prog Tryd.lays156_ren:={
 sizeBuilder:=by kernel_rfl
 liesBuilder:=by kernel_rfl
 t5:=Tryd.underlying5
 a5:=Tryd.isAgg5
 z5:=Tryd.sizeOf5
 v5:=Tryd.zeroValue5
 infoByte:=by kernel_rfl
 cellsByte:=by kernel_rfl
 sizeByte:=by kernel_rfl
 neB5:=by decide}
open Go.RowKit in
theorem Tryd.strings_Join_none (a:Option Addr) (c:Nat) (sep:ByteArray) (w:World):
  Calls Tryd.prog 30 #[.slice a 0 c,.string sep] w fun e w'=>e= .returned (.string ⟨#[]⟩)∧w'=w:=Any.strings_Join_none Tryd.lays156 Tryd.Builder_Extra_156 a c sep w
open Go.RowKit in
theorem Tryd.strings_Join (bk o c:Nat) (xs:List ByteArray) (sep:ByteArray) (w:World) (hcells:∀ (j:Nat) x,xs[j]? =some x→w.cell? ⟨bk,o+j,none⟩=some (.string x)) (hbk:bk<w.heap.size) (hN:xs.length≤140737488355328) (hcap:xs.length≤c) (hlen:(Lib.join (xs.map (·.data.toList)) sep.data.toList).length≤140737488355328):
  Calls Tryd.prog 30 #[.slice (some ⟨bk,o,none⟩) xs.length c,.string sep] w fun e w'=>e= .returned (.string ⟨(Lib.join (xs.map (·.data.toList)) sep.data.toList).toArray⟩)∧Below w.heap.size w w':=Any.strings_Join Tryd.lays156 Tryd.Builder_Extra_156 bk o c xs sep w hcells hbk hN hcap hlen
def Tryd.laysM171_ren:Go.Shelf.Ren:=⟨fun|171=>32|243=>53|246=>65|283=>76|284=>77|285=>78|286=>79|129=>88|317=>87|318=>89|319=>90|320=>91|337=>99|338=>100|n=>n,fun|3=>3|9=>9|2=>2|4=>4|171=>104|0=>0|53=>105|37=>59|5=>5|173=>108|212=>123|51=>124|20=>20|213=>125|46=>116|232=>139|233=>140|n=>n,fun|17=>3|18=>6|19=>7|n=>n⟩
theorem Tryd.laysM171:Go.Proofs.LaysM.n171 Tryd.prog Tryd.laysM171_ren:={
 mixed:=by kernel_rfl
 f129:=Tryd.func88.trans (congrArg some (by kernel_rfl))
 f171:=Tryd.func32.trans (congrArg some (by kernel_rfl))
 f243:=Tryd.func53.trans (congrArg some (by kernel_rfl))
 f246:=Tryd.func65.trans (congrArg some (by kernel_rfl))
 f283:=Tryd.func76.trans (congrArg some (by kernel_rfl))
 f284:=Tryd.func77.trans (congrArg some (by kernel_rfl))
 f285:=Tryd.func78.trans (congrArg some (by kernel_rfl))
 f286:=Tryd.func79.trans (congrArg some (by kernel_rfl))
 f317:=Tryd.func87.trans (congrArg some (by kernel_rfl))
 f318:=Tryd.func89.trans (congrArg some (by kernel_rfl))
 f319:=Tryd.func90.trans (congrArg some (by kernel_rfl))
 f320:=Tryd.func91.trans (congrArg some (by kernel_rfl))
 f337:=Tryd.func99.trans (congrArg some (by kernel_rfl))
 f338:=Tryd.func100.trans (congrArg some (by kernel_rfl))
 t0:=Tryd.underlying0
 a0:=Tryd.isAgg0
 z0:=Tryd.sizeOf0
 v0:=Tryd.zeroValue0
 t2:=Tryd.underlying2
 a2:=Tryd.isAgg2
 z2:=Tryd.sizeOf2
 v2:=Tryd.zeroValue2
 t3:=Tryd.underlying3
 a3:=Tryd.isAgg3
 z3:=Tryd.sizeOf3
 v3:=Tryd.zeroValue3
 t4:=Tryd.underlying4
 a4:=Tryd.isAgg4
 z4:=Tryd.sizeOf4
 v4:=Tryd.zeroValue4
 t5:=Tryd.underlying5
 a5:=Tryd.isAgg5
 z5:=Tryd.sizeOf5
 v5:=Tryd.zeroValue5
 t9:=Tryd.underlying9
 a9:=Tryd.isAgg9
 z9:=Tryd.sizeOf9
 v9:=Tryd.zeroValue9
 t20:=Tryd.underlying20
 a20:=Tryd.isAgg20
 z20:=Tryd.sizeOf20
 v20:=Tryd.zeroValue20
 t37:=Tryd.underlying59
 a37:=Tryd.isAgg59
 z37:=Tryd.sizeOf59
 v37:=Tryd.zeroValue59
 t46:=Tryd.underlying116
 a46:=Tryd.isAgg116
 z46:=Tryd.sizeOf116
 v46:=Tryd.zeroValue116
 t51:=Tryd.underlying124
 a51:=Tryd.isAgg124
 z51:=Tryd.sizeOf124
 v51:=Tryd.zeroValue124
 t53:=Tryd.underlying105
 a53:=Tryd.isAgg105
 z53:=Tryd.sizeOf105
 v53:=Tryd.zeroValue105
 t171:=Tryd.underlying104
 a171:=Tryd.isAgg104
 z171:=Tryd.sizeOf104
 v171:=Tryd.zeroValue104
 t173:=Tryd.underlying108
 a173:=Tryd.isAgg108
 z173:=Tryd.sizeOf108
 v173:=Tryd.zeroValue108
 t212:=Tryd.underlying123
 a212:=Tryd.isAgg123
 z212:=Tryd.sizeOf123
 v212:=Tryd.zeroValue123
 t213:=Tryd.underlying125
 a213:=Tryd.isAgg125
 z213:=Tryd.sizeOf125
 t232:=Tryd.underlying139
 a232:=Tryd.isAgg139
 z232:=Tryd.sizeOf139
 v232:=Tryd.zeroValue139
 t233:=Tryd.underlying140
 a233:=Tryd.isAgg140
 z233:=Tryd.sizeOf140
 v233:=Tryd.zeroValue140
 g17:=by kernel_rfl
 g18:=by kernel_rfl
 g19:=by kernel_rfl
 i0:=by kernel_rfl
 i2:=by kernel_rfl
 i3:=by kernel_rfl
 i4:=by kernel_rfl
 i5:=by kernel_rfl
 i9:=by kernel_rfl
 i20:=by kernel_rfl
 i37:=by kernel_rfl
 i46:=by kernel_rfl
 i51:=by kernel_rfl
 i53:=by kernel_rfl
 i171:=by kernel_rfl
 i173:=by kernel_rfl
 i212:=by kernel_rfl
 i232:=by kernel_rfl
 i233:=by kernel_rfl
 m17:=by kernel_rfl
 m18:=by kernel_rfl
 m19:=by kernel_rfl}
open Go.RowKit Go.Sort Go.Lib in
theorem Tryd.strconv_Itoa (n:Int) (h0: -9223372036854775808≤n) (h1:n≤9223372036854775807) (w:World) (htab:Lib.TabIs Tryd.prog w "internal/strconv.uint64pow10" .u64 Lib.pow10Tab):
  Calls Tryd.prog 32 #[.int .i64 n] w fun e w'=>e= .returned (.string ⟨(Lib.itoa n).toArray⟩)∧∃ k os,w'=grow (w.drewN k) os:=Any.strconv_Itoa Tryd.laysM171 n h0 h1 w htab
def Tryd.laysC172_ren:Go.Shelf.Ren:=⟨fun|172=>38|244=>56|245=>57|247=>70|279=>71|280=>72|281=>73|282=>74|287=>84|316=>85|171=>32|205=>86|321=>97|322=>98|243=>53|246=>65|283=>76|284=>77|285=>78|286=>79|129=>88|317=>87|318=>89|319=>90|320=>91|337=>99|338=>100|n=>n,fun|9=>9|3=>3|75=>63|76=>64|4=>4|5=>5|167=>97|37=>59|0=>0|85=>98|2=>2|168=>100|53=>105|175=>114|46=>116|210=>119|127=>86|145=>131|143=>129|21=>21|171=>104|173=>108|212=>123|51=>124|20=>20|213=>125|232=>139|233=>140|80=>70|n=>n,fun|15=>0|16=>1|17=>3|18=>6|19=>7|n=>n⟩
theorem Tryd.laysC172:Go.Proofs.LaysC.n172 Tryd.prog Tryd.laysC172_ren:={
 mixed:=by kernel_rfl
 f129:=Tryd.func88.trans (congrArg some (by kernel_rfl))
 f171:=Tryd.func32.trans (congrArg some (by kernel_rfl))
 f172:=Tryd.func38.trans (congrArg some (by kernel_rfl))
 f205:=Tryd.func86.trans (congrArg some (by kernel_rfl))
 f243:=Tryd.func53.trans (congrArg some (by kernel_rfl))
 f244:=Tryd.func56.trans (congrArg some (by kernel_rfl))
 f245:=Tryd.func57.trans (congrArg some (by kernel_rfl))
 f246:=Tryd.func65.trans (congrArg some (by kernel_rfl))
 f247:=Tryd.func70.trans (congrArg some (by kernel_rfl))
 f279:=Tryd.func71.trans (congrArg some (by kernel_rfl))
 f280:=Tryd.func72.trans (congrArg some (by kernel_rfl))
 f281:=Tryd.func73.trans (congrArg some (by kernel_rfl))
 f282:=Tryd.func74.trans (congrArg some (by kernel_rfl))
 f283:=Tryd.func76.trans (congrArg some (by kernel_rfl))
 f284:=Tryd.func77.trans (congrArg some (by kernel_rfl))
 f285:=Tryd.func78.trans (congrArg some (by kernel_rfl))
 f286:=Tryd.func79.trans (congrArg some (by kernel_rfl))
 f287:=Tryd.func84.trans (congrArg some (by kernel_rfl))
 f316:=Tryd.func85.trans (congrArg some (by kernel_rfl))
 f317:=Tryd.func87.trans (congrArg some (by kernel_rfl))
 f318:=Tryd.func89.trans (congrArg some (by kernel_rfl))
 f319:=Tryd.func90.trans (congrArg some (by kernel_rfl))
 f320:=Tryd.func91.trans (congrArg some (by kernel_rfl))
 f321:=Tryd.func97.trans (congrArg some (by kernel_rfl))
 f322:=Tryd.func98.trans (congrArg some (by kernel_rfl))
 f337:=Tryd.func99.trans (congrArg some (by kernel_rfl))
 f338:=Tryd.func100.trans (congrArg some (by kernel_rfl))
 t0:=Tryd.underlying0
 a0:=Tryd.isAgg0
 z0:=Tryd.sizeOf0
 v0:=Tryd.zeroValue0
 t2:=Tryd.underlying2
 a2:=Tryd.isAgg2
 z2:=Tryd.sizeOf2
 v2:=Tryd.zeroValue2
 t3:=Tryd.underlying3
 a3:=Tryd.isAgg3
 z3:=Tryd.sizeOf3
 v3:=Tryd.zeroValue3
 t4:=Tryd.underlying4
 a4:=Tryd.isAgg4
 z4:=Tryd.sizeOf4
 v4:=Tryd.zeroValue4
 t5:=Tryd.underlying5
 a5:=Tryd.isAgg5
 z5:=Tryd.sizeOf5
 v5:=Tryd.zeroValue5
 t9:=Tryd.underlying9
 a9:=Tryd.isAgg9
 z9:=Tryd.sizeOf9
 v9:=Tryd.zeroValue9
 t20:=Tryd.underlying20
 a20:=Tryd.isAgg20
 z20:=Tryd.sizeOf20
 v20:=Tryd.zeroValue20
 t21:=Tryd.underlying21
 a21:=Tryd.isAgg21
 z21:=Tryd.sizeOf21
 v21:=Tryd.zeroValue21
 t37:=Tryd.underlying59
 a37:=Tryd.isAgg59
 z37:=Tryd.sizeOf59
 v37:=Tryd.zeroValue59
 t46:=Tryd.underlying116
 a46:=Tryd.isAgg116
 z46:=Tryd.sizeOf116
 v46:=Tryd.zeroValue116
 t51:=Tryd.underlying124
 a51:=Tryd.isAgg124
 z51:=Tryd.sizeOf124
 v51:=Tryd.zeroValue124
 t53:=Tryd.underlying105
 a53:=Tryd.isAgg105
 z53:=Tryd.sizeOf105
 v53:=Tryd.zeroValue105
 t75:=Tryd.underlying63
 a75:=Tryd.isAgg63
 z75:=Tryd.sizeOf63
 v75:=Tryd.zeroValue63
 t76:=Tryd.underlying64
 a76:=Tryd.isAgg64
 z76:=Tryd.sizeOf64
 v76:=Tryd.zeroValue64
 t85:=Tryd.underlying98
 a85:=Tryd.isAgg98
 z85:=Tryd.sizeOf98
 v85:=Tryd.zeroValue98
 t127:=Tryd.underlying86
 a127:=Tryd.isAgg86
 z127:=Tryd.sizeOf86
 v127:=Tryd.zeroValue86
 t143:=Tryd.underlying129
 a143:=Tryd.isAgg129
 z143:=Tryd.sizeOf129
 v143:=Tryd.zeroValue129
 t145:=Tryd.underlying131
 a145:=Tryd.isAgg131
 z145:=Tryd.sizeOf131
 v145:=Tryd.zeroValue131
 t167:=Tryd.underlying97
 a167:=Tryd.isAgg97
 z167:=Tryd.sizeOf97
 v167:=Tryd.zeroValue97
 t168:=Tryd.underlying100
 a168:=Tryd.isAgg100
 z168:=Tryd.sizeOf100
 v168:=Tryd.zeroValue100
 t171:=Tryd.underlying104
 a171:=Tryd.isAgg104
 z171:=Tryd.sizeOf104
 v171:=Tryd.zeroValue104
 t173:=Tryd.underlying108
 a173:=Tryd.isAgg108
 z173:=Tryd.sizeOf108
 v173:=Tryd.zeroValue108
 t175:=Tryd.underlying114
 a175:=Tryd.isAgg114
 z175:=Tryd.sizeOf114
 v175:=Tryd.zeroValue114
 t210:=Tryd.underlying119
 a210:=Tryd.isAgg119
 z210:=Tryd.sizeOf119
 v210:=Tryd.zeroValue119
 t212:=Tryd.underlying123
 a212:=Tryd.isAgg123
 z212:=Tryd.sizeOf123
 v212:=Tryd.zeroValue123
 t213:=Tryd.underlying125
 a213:=Tryd.isAgg125
 z213:=Tryd.sizeOf125
 t232:=Tryd.underlying139
 a232:=Tryd.isAgg139
 z232:=Tryd.sizeOf139
 v232:=Tryd.zeroValue139
 t233:=Tryd.underlying140
 a233:=Tryd.isAgg140
 z233:=Tryd.sizeOf140
 v233:=Tryd.zeroValue140
 g15:=by kernel_rfl
 g16:=by kernel_rfl
 g17:=by kernel_rfl
 g18:=by kernel_rfl
 g19:=by kernel_rfl
 t80:=Tryd.underlying70
 a80:=Tryd.isAgg70
 z80:=Tryd.sizeOf70
 v80:=Tryd.zeroValue70
 i0:=by kernel_rfl
 i2:=by kernel_rfl
 i3:=by kernel_rfl
 i4:=by kernel_rfl
 i5:=by kernel_rfl
 i9:=by kernel_rfl
 i20:=by kernel_rfl
 i21:=by kernel_rfl
 i37:=by kernel_rfl
 i46:=by kernel_rfl
 i51:=by kernel_rfl
 i53:=by kernel_rfl
 i75:=by kernel_rfl
 i76:=by kernel_rfl
 i80:=by kernel_rfl
 i85:=by kernel_rfl
 i127:=by kernel_rfl
 i143:=by kernel_rfl
 i145:=by kernel_rfl
 i167:=by kernel_rfl
 i168:=by kernel_rfl
 i171:=by kernel_rfl
 i173:=by kernel_rfl
 i175:=by kernel_rfl
 i210:=by kernel_rfl
 i212:=by kernel_rfl
 i232:=by kernel_rfl
 i233:=by kernel_rfl
 m15:=by kernel_rfl
 m16:=by kernel_rfl
 m17:=by kernel_rfl
 m18:=by kernel_rfl
 m19:=by kernel_rfl
 c0:=by kernel_rfl
 c2:=by kernel_rfl
 c3:=by kernel_rfl
 c4:=by kernel_rfl
 c5:=by kernel_rfl
 c9:=by kernel_rfl
 c20:=by kernel_rfl
 c21:=by kernel_rfl
 c37:=by kernel_rfl
 c46:=by kernel_rfl
 c51:=by kernel_rfl
 c53:=by kernel_rfl
 c75:=by kernel_rfl
 c76:=by kernel_rfl
 c80:=by kernel_rfl
 c85:=by kernel_rfl
 c127:=by kernel_rfl
 c143:=by kernel_rfl
 c145:=by kernel_rfl
 c167:=by kernel_rfl
 c168:=by kernel_rfl
 c171:=by kernel_rfl
 c173:=by kernel_rfl
 c175:=by kernel_rfl
 c210:=by kernel_rfl
 c212:=by kernel_rfl
 c213:=by kernel_rfl
 c232:=by kernel_rfl
 c233:=by kernel_rfl}
open Go.RowKit in
theorem Tryd.strconv_Atoi_ok (s:ByteArray) (hmax:s.size≤9223372036854775806) (v:Int) (h:Lib.atoiAll s.data.toList= .ok v) (w:World):
  Calls Tryd.prog 38 #[.string s] w fun e w'=>e= .returned (.tuple #[.int .i64 v,.nilIface])∧(w'=w∨∃ t,w'=Lib.bytesWorld w 5 t):=Any.strconv_Atoi_ok Tryd.laysC172 s hmax v h w
open Go.RowKit in
theorem Tryd.strconv_Atoi_syntax_var (s:ByteArray) (hlim:s.size≤281474976710656) (h:Lib.atoiAll s.data.toList=Lib.atoiAll []) (tp:TypeId) (p:Value) (w:World) (hvar:w.var? Tryd.prog "strconv.ErrSyntax"=some #[.iface tp p]):
  Calls Tryd.prog 38 #[.string s] w fun e w'=>∃ N,e= .returned (.tuple #[.int .i64 0,.iface 100 (.pointer (some ⟨N,0,none⟩))])∧w.heap.size≤N∧w'.heap[N]? =some (.cells #[.string ⟨#[65,116,111,105]⟩,.string s,.iface tp p] 119 (0,0))∧Below w.heap.size w w':=Any.strconv_Atoi_syntax_var Tryd.laysC172 s hlim h tp p w hvar
open Go.RowKit in
theorem Tryd.strconv_Atoi_range_var (s:ByteArray) (hlim:s.size≤281474976710656) (h:Lib.atoiAll s.data.toList= .range) (tp:TypeId) (p:Value) (w:World) (hvar:w.var? Tryd.prog "strconv.ErrRange"=some #[.iface tp p]):
  Calls Tryd.prog 38 #[.string s] w fun e w'=>∃ N,e= .returned (.tuple #[.int .i64 (Lib.atoiSat s.data.toList),.iface 100 (.pointer (some ⟨N,0,none⟩))])∧w.heap.size≤N∧w'.heap[N]? =some (.cells #[.string ⟨#[65,116,111,105]⟩,.string s,.iface tp p] 119 (0,0))∧Below w.heap.size w w':=Any.strconv_Atoi_range_var Tryd.laysC172 s hlim h tp p w hvar
end Go.Proofs
namespace Go.Proofs.YteibgbbfcjgjiaaDoor
open Go Go.Itp
open Go.RowKit (Below)
set_option linter.unusedVariables false
set_option maxRecDepth 100000
theorem own:ownKnob Tryd.prog.godebug=none:=by kernel_rfl
theorem mixed:Tryd.prog.follows .mixedOrders=true:=by kernel_rfl
def prims0:List (FuncId × Prim × TypeId):= [(63,.same,0),(101,.indexByte,0),(82,.count,0)]
theorem prims_all:AllPrims Tryd.prog prims0:=
 ⟨⟨⟨Tryd.f63,Tryd.func63,by kernel_rfl,by kernel_rfl,by kernel_rfl,rfl⟩⟩,⟨⟨Tryd.f101,Tryd.func101,by kernel_rfl,by kernel_rfl,by kernel_rfl,rfl⟩⟩,⟨⟨Tryd.f82,Tryd.func82,by kernel_rfl,by kernel_rfl,by kernel_rfl,rfl⟩⟩,trivial⟩
noncomputable abbrev PR (w:World):FuncId→List Value→St→Option (Value × List Blk):=
 orElseP (primsOf prims0) (orElseP (itoaP 32) (orElseP (joinP (oldOf w) 30)
  (atoiP 38 100 119 (errO Tryd.prog w "strconv.ErrSyntax") (errO Tryd.prog w "strconv.ErrRange"))))
noncomputable abbrev EN (w:World) (n:Nat):Env:=callP (oldOf w) many fns (PR w) n
abbrev Tab (w:World):Prop:=Lib.TabIs Tryd.prog w "internal/strconv.uint64pow10" .u64 Lib.pow10Tab
theorem prims_ok (W:World) (ht:Tab W):PrimsOK Tryd.prog (PR W) W:=
 orElse_ok (primsOf_ok prims0 prims_all W) (orElse_ok
  (itoaP_ok ⟨Tryd.f32,_,Tryd.func32,rfl,by kernel_rfl⟩ ht Tryd.strconv_Itoa) (orElse_ok
  (joinP_ok ⟨Tryd.f30,_,Tryd.func30,rfl,by kernel_rfl⟩ (oldOf_ok W) Tryd.strings_Join_none Tryd.strings_Join)
  (atoiP_ok (u8:=5) ⟨Tryd.f38,_,Tryd.func38,rfl,by kernel_rfl⟩ Tryd.strconv_Atoi_ok Tryd.strconv_Atoi_syntax_var Tryd.strconv_Atoi_range_var)))
theorem law_of {W:World} (ht:Tab W) {f:FuncId} {af:AFun} (hf:fns f=some af) {xs:List Value} (hxs:idsL 0 xs= []) (n:Nat) {v:Value} {s':St} (hb:body (EN W n) af xs St.empty=some (v,s')) (hv:ids 0 v= []):
  Calls Tryd.prog f xs.toArray W fun e w'=>e= .returned v∧Below W.heap.size W w':=
 law_at mixed fns_ok (oldOf_ok W) (prims_ok W ht) hf hxs n hb hv
theorem itoa_s (w:World) (n:Nat) (st:VSt) (k:Int) (h0: -9223372036854775808≤k) (h1:k≤9223372036854775807):VSpecO (EN w (n+1)) 32 st [.sc (.int .i64 k)] (.sc (.string ⟨(Lib.itoa k).toArray⟩)):=
 itoa_o h0 h1 fun xs s r h=>orElse_right rfl (orElse_left h)
theorem join_s (w:World) (n:Nat) (st:VSt) (s:Nat) (hs:s ≠ 1) (ls:List (List UInt8)) (sep:List UInt8) (hl:ls.length≤1099511627776) (hlen:(Lib.join ls sep).length≤140737488355328):
  VSpecO (EN w (n+1)) 30 st [.sl s ls.length (ls.map sD),.sc (.string ⟨sep.toArray⟩)] (.sc (.string ⟨(Lib.join ls sep).toArray⟩)):=
 join_o s hs ls sep hl hlen fun xs s r h=>orElse_right rfl (orElse_right rfl (orElse_left h))
theorem atoi_s (w:World) (n:Nat) (st:VSt) (b:ByteArray) (v:Int) (hb:b.size≤281474976710656) (h:Lib.atoiAll b.data.toList= .ok v):VSpecO (EN w (n+1)) 38 st [.sc (.string b)] (.tup [.sc (.int .i64 v),.sc .nilIface]):=
 atoi_o hb h fun xs s r h=>orElse_right rfl (orElse_right rfl (orElse_right rfl h))
theorem atoi_f (w:World) (n:Nat) (b:ByteArray) (hb:b.size≤281474976710656) (hes:(errO Tryd.prog w "strconv.ErrSyntax").isSome=true) (her:(errO Tryd.prog w "strconv.ErrRange").isSome=true) (h:∀ v,Lib.atoiAll b.data.toList ≠ .ok v):
  ∃ (k:Int) (cs:List Value),VSpec (EN w (n+1)) 38 [.sc (.string b)] (.tup [.sc (.int .i64 k),.ifc 100 (.ptr 0 0)]) ⟨[(0,.box 119 1 (cs.map V.sc))],1,0⟩:=
 atoi_e hb (errO_ok hes) (errO_ok her) h fun xs s r h=>orElse_right rfl (orElse_right rfl (orElse_right rfl h))
end Go.Proofs.YteibgbbfcjgjiaaDoor
namespace Go.Proofs.YteibgbbfcjgjiaaDoor
open Go Go.Itp
set_option maxRecDepth 100000
set_option maxHeartbeats 1000000
set_option linter.unusedSimpArgs false
set_option linter.unusedVariables false
abbrev strV (l:List UInt8):V:= .sc (.string ⟨l.toArray⟩)
abbrev strs (s:Nat) (l:List (List UInt8)):V:= .sl s l.length (l.map sD)
theorem lt_succ_cases {P:Nat→Prop} {k:Nat} (h:∀ j,j<k→P j) (hk:P k):∀ j,j<k+1→P j:=fun j hj=>by
 rcases Nat.lt_or_eq_of_le (Nat.le_of_lt_succ hj) with h1|h1
 ·exact h j h1
 ·subst h1;exact hk
def wch (b:UInt8):Bool:=decide (¬ (((b.toNat:Nat):Int) ≠ 45∧(((b.toNat:Nat):Int)<97∨122<((b.toNat:Nat):Int))∧(((b.toNat:Nat):Int)<48∨57<((b.toNat:Nat):Int))))
def wordS (s:List UInt8):Bool:=decide (1≤s.length∧s.length≤40∧∀ j,j<s.length→wch s[j]! =true)
theorem wch_def (b:UInt8):wch b=true↔¬ (((b.toNat:Nat):Int) ≠ 45∧(((b.toNat:Nat):Int)<97∨122<((b.toNat:Nat):Int))∧(((b.toNat:Nat):Int)<48∨57<((b.toNat:Nat):Int))):=decide_eq_true_iff
def s2bV (nx:Nat) (t:TypeId):V→VO
 | .sc (.string b)=>if Nat.ble b.size room then some (.ref nx 0 b.size (big+b.size),some (.row t 1 true false (b.data.toList.map fun b=> .sc (.int .u8 b.toNat))),[]) else none
 |_=>none
theorem pv_s2b {old:Nat→Nat→Option Value} {fr:VFr} {H:VHp} {nx:Nat} (t:TypeId) (x:Operand):vpstep old fr H nx (.s2b t x)=op1 (s2bV nx t) (vev fr x):=by
 simp only[vpstep,op1]
 cases vev fr x with
 |none=>rfl
 |some v=>cases v<;>first|rfl|(rename_i c;cases c<;>rfl)
theorem s2bV_str (nx t:Nat) (l:List UInt8) (h:l.length≤1000000000):s2bV nx t (strV l)=some (.ref nx 0 l.length (big+l.length),some (.row t 1 true false (l.map Itp.bD)),[]):=by
 have h1:=mk_size l
 show (if Nat.ble (ByteArray.mk l.toArray).size room then _ else _)=_
 rw[if_pos (by rw[Nat.ble_eq,h1];unfold room;omega),h1]
 rfl
theorem bD8_dv (b:UInt8):dv (Itp.bD b)= .sc (.int .u8 b.toNat):=(rfl)
def placeG (l:List (List UInt8)) (x:List UInt8):Nat→Int
 |0=> -1
 |k+1=>if 0≤placeG l x k then placeG l x k else if l[k]! =x then k else -1
theorem placeG_range (l:List (List UInt8)) (x:List UInt8):∀ k,-1≤placeG l x k∧placeG l x k<k
 |0=>by simp[placeG]
 |k+1=>by
  have:=placeG_range l x k
  rw[placeG]
  split
  ·omega
  ·split<;>omega
theorem placeG_none {l:List (List UInt8)} {x:List UInt8}:∀ k,(∀ j,j<k→¬ l[j]! =x)→placeG l x k= -1
 |0,_=>rfl
 |k+1,h=>by rw[placeG,placeG_none k (fun j hj=>h j (by omega)),if_neg (by omega),if_neg (h k (by omega))]
theorem placeG_some {l:List (List UInt8)} {x:List UInt8} {i:Nat} (hi:l[i]! =x) (h:∀ j,j<i→¬ l[j]! =x):∀ k,i<k→placeG l x k=i
 |0,h=>by omega
 |k+1,hk=>by
  rw[placeG]
  by_cases e:i=k
  ·subst e;rw[placeG_none i h,if_neg (by omega),if_pos hi]
  ·rw[placeG_some hi h k (by omega),if_pos (by omega)]
section
variable (w:World) (n:Nat)
theorem word_p (s:List UInt8) (hs:s.length≤100000000):VSpec (EN w (n+1)) 59 [strV s] (.sc (.bool (wordS s))) ⟨[],0,0⟩:=by
 refine vspec_flat rfl rfl (fun _ _=>rfl) (Nat.le_of_ble_eq_true rfl) (oldVals w) rfl fun C hC h0=>?_
 have hsz:=mk_size s
 by_cases hl0:s.length=0
 ·have e:wordS s=false:=decide_eq_false (by omega)
  rw[e]
  simp (disch:=first|omega|assumption|exact bd (by with_unfolding_all rfl)|exact Or.inl rfl|exact Or.inl trivial|exact okL_map _ (fun _=>rfl) _|(simp only[VVlen]<;>omega)|fail) only[O1,WA,slotsL,opdsA,Nat.reduceEqDiff,Nat.reduceLT,Nat.reduceAdd,Nat.reduceBEq,Int.reduceAdd,Int.reduceSub,Int.reduceLT,Int.reduceLE,Int.reduceEq,Int.reduceNeg,↓reduceIte,reduceCtorEq,List.replicate,c59]
  all_goals try (exfalso;omega)
  exact weak_flat rfl h0 rfl
 by_cases hl4:40<s.length
 ·have e:wordS s=false:=decide_eq_false (by omega)
  rw[e]
  simp (disch:=first|omega|assumption|exact bd (by with_unfolding_all rfl)|exact Or.inl rfl|exact Or.inl trivial|exact okL_map _ (fun _=>rfl) _|(simp only[VVlen]<;>omega)|fail) only[O1,WA,slotsL,opdsA,Nat.reduceEqDiff,Nat.reduceLT,Nat.reduceAdd,Nat.reduceBEq,Int.reduceAdd,Int.reduceSub,Int.reduceLT,Int.reduceLE,Int.reduceEq,Int.reduceNeg,↓reduceIte,reduceCtorEq,List.replicate,c59]
  all_goals try (exfalso;omega)
  exact weak_flat rfl h0 rfl
 have hsb:=fun nx t=>s2bV_str nx t s (by omega)
 have hsm:(s.map Itp.bD).length=s.length:=by rw[List.length_map]
 simp (disch:=first|omega|assumption|exact bd (by with_unfolding_all rfl)|exact Or.inl rfl|exact Or.inl trivial|exact okL_map _ (fun _=>rfl) _|(simp only[VVlen]<;>omega)|fail) only[O1,WA,slotsL,opdsA,Nat.reduceEqDiff,Nat.reduceLT,Nat.reduceAdd,Nat.reduceBEq,Int.reduceAdd,Int.reduceSub,Int.reduceLT,Int.reduceLE,Int.reduceEq,Int.reduceNeg,↓reduceIte,reduceCtorEq,List.replicate,c59,pv_s2b,hsb]
 all_goals try (exfalso;omega)
 refine g_while (fun m fr st=>∃ k:Nat,m=s.length - k∧k≤s.length∧fr= [(14,.ref 0 0 s.length (big+s.length)),(15,.sc (.int .i64 s.length)),(16,.sc (.int .i64 k))]∧st=⟨[(0,.row 5 1 true false (s.map Itp.bD))],1,0⟩∧∀ j,j<k→wch s[j]! =true) s.length ?_ ⟨_,_,.refl _ _,0,by omega,Nat.zero_le _,rfl,rfl,by omega⟩ ?_
 ·rw[hC,callP_rounds];unfold many;omega
 rintro m fr st ⟨k,rfl,hk,rfl,rfl,hj⟩
 by_cases hlt:k<s.length
 ·have hd:=wch_def s[k]!
  by_cases hw:wch s[k]! =true
  ·have hj2:=lt_succ_cases hj hw
   have hd:=hd.1 hw
   generalize hB:s[k]! =B at*
   repeat' (first|(simp (disch:=first|omega|assumption|exact bd (by with_unfolding_all rfl)|exact Or.inl rfl|exact Or.inl trivial|exact okL_map _ (fun _=>rfl) _|(simp only[VVlen]<;>omega)|fail) only[O1,WA,slotsL,opdsA,Nat.reduceEqDiff,Nat.reduceLT,Nat.reduceAdd,Nat.reduceBEq,Int.reduceAdd,Int.reduceSub,Int.reduceLT,Int.reduceLE,Int.reduceEq,Int.reduceNeg,↓reduceIte,reduceCtorEq,List.replicate,c59l0,bD8_dv,hB])|apply gC_drawW|((first|apply gI_dec|apply gG_dec|apply gPG_dec|apply gI_var|apply gG_var|apply gPG_var)<;>intro _))
   all_goals try (exfalso;omega)
   all_goals exact ⟨_,_,_,by omega,.refl _ _,k+1,rfl,hlt,rfl,rfl,hj2⟩
  ·have e:wordS s=false:=decide_eq_false fun h=>hw (h.2.2 k hlt)
   have hd:=mt hd.2 hw
   rw[e]
   generalize hB:s[k]! =B at*
   repeat' (first|(simp (disch:=first|omega|assumption|exact bd (by with_unfolding_all rfl)|exact Or.inl rfl|exact Or.inl trivial|exact okL_map _ (fun _=>rfl) _|(simp only[VVlen]<;>omega)|fail) only[O1,WA,slotsL,opdsA,Nat.reduceEqDiff,Nat.reduceLT,Nat.reduceAdd,Nat.reduceBEq,Int.reduceAdd,Int.reduceSub,Int.reduceLT,Int.reduceLE,Int.reduceEq,Int.reduceNeg,↓reduceIte,reduceCtorEq,List.replicate,c59l0,bD8_dv,hB])|apply gC_drawW|((first|apply gI_dec|apply gG_dec|apply gPG_dec|apply gI_var|apply gG_var|apply gPG_var)<;>intro _))
   all_goals try (exfalso;omega)
   all_goals exact weak_flat rfl h0 rfl
 ·have:k=s.length:=by omega
  subst this
  have e:wordS s=true:=decide_eq_true ⟨by omega,by omega,hj⟩
  rw[e]
  simp (disch:=first|omega|assumption|exact bd (by with_unfolding_all rfl)|exact Or.inl rfl|exact Or.inl trivial|exact okL_map _ (fun _=>rfl) _|(simp only[VVlen]<;>omega)|fail) only[O1,WA,slotsL,opdsA,Nat.reduceEqDiff,Nat.reduceLT,Nat.reduceAdd,Nat.reduceBEq,Int.reduceAdd,Int.reduceSub,Int.reduceLT,Int.reduceLE,Int.reduceEq,Int.reduceNeg,↓reduceIte,reduceCtorEq,List.replicate,c59l0]
  exact weak_flat rfl h0 rfl
theorem rword_p (s:List UInt8) (hs:s.length≤100000000):VSpec (EN w (n+1)) 58 [strV s] (.sc (.bool (wordS s))) ⟨[],0,0⟩:=by
 refine vspec_flat rfl rfl (fun _ _=>rfl) (Nat.le_of_ble_eq_true rfl) (oldVals w) rfl fun C hC h0=>?_
 have hsz:=mk_size s
 simp (disch:=first|omega|assumption|exact bd (by with_unfolding_all rfl)|exact Or.inl rfl|exact Or.inl trivial|exact okL_map _ (fun _=>rfl) _|(simp only[VVlen]<;>omega)|fail) only[O1,WA,slotsL,opdsA,Nat.reduceEqDiff,Nat.reduceLT,Nat.reduceAdd,Nat.reduceBEq,Int.reduceAdd,Int.reduceSub,Int.reduceLT,Int.reduceLE,Int.reduceEq,Int.reduceNeg,↓reduceIte,reduceCtorEq,List.replicate,c58]
 refine g_while (fun m fr st=>∃ k:Nat,m=s.length - k∧k≤s.length∧fr= [(0,strV s),(3,.sc (.int .i64 k))]∧st=⟨[],0,0⟩∧∀ j,j<k→wch s[j]! =true) s.length ?_ ⟨_,_,.refl _ _,0,by omega,Nat.zero_le _,rfl,rfl,by omega⟩ ?_
 ·rw[hC,callP_rounds];unfold many;omega
 rintro m fr st ⟨k,rfl,hk,rfl,rfl,hj⟩
 by_cases hlt:k<s.length
 ·have hd:=wch_def s[k]!
  have hb:=idxStr_l s .i64 k (by omega) (by omega)
  rw[Int.toNat_natCast] at hb
  by_cases hw:wch s[k]! =true
  ·have hj2:=lt_succ_cases hj hw
   have hd:=hd.1 hw
   generalize s[k]!.toNat=b at*
   repeat' (first|(simp (disch:=first|omega|assumption|exact bd (by with_unfolding_all rfl)|exact Or.inl rfl|exact Or.inl trivial|exact okL_map _ (fun _=>rfl) _|(simp only[VVlen]<;>omega)|fail) only[O1,WA,slotsL,opdsA,Nat.reduceEqDiff,Nat.reduceLT,Nat.reduceAdd,Nat.reduceBEq,Int.reduceAdd,Int.reduceSub,Int.reduceLT,Int.reduceLE,Int.reduceEq,Int.reduceNeg,↓reduceIte,reduceCtorEq,List.replicate,c58l0,hb])|apply gC_drawW|((first|apply gI_dec|apply gG_dec|apply gPG_dec|apply gI_var|apply gG_var|apply gPG_var)<;>intro _))
   all_goals try (exfalso;omega)
   all_goals exact ⟨_,_,_,by omega,.refl _ _,k+1,rfl,hlt,rfl,rfl,hj2⟩
  ·have e:wordS s=false:=decide_eq_false fun h=>hw (h.2.2 k hlt)
   have hd:=mt hd.2 hw
   rw[e]
   generalize s[k]!.toNat=b at*
   repeat' (first|(simp (disch:=first|omega|assumption|exact bd (by with_unfolding_all rfl)|exact Or.inl rfl|exact Or.inl trivial|exact okL_map _ (fun _=>rfl) _|(simp only[VVlen]<;>omega)|fail) only[O1,WA,slotsL,opdsA,Nat.reduceEqDiff,Nat.reduceLT,Nat.reduceAdd,Nat.reduceBEq,Int.reduceAdd,Int.reduceSub,Int.reduceLT,Int.reduceLE,Int.reduceEq,Int.reduceNeg,↓reduceIte,reduceCtorEq,List.replicate,c58l0,hb])|apply gC_drawW|((first|apply gI_dec|apply gG_dec|apply gPG_dec|apply gI_var|apply gG_var|apply gPG_var)<;>intro _))
   all_goals try (exfalso;omega)
   all_goals exact weak_flat rfl h0 rfl
 ·have:k=s.length:=by omega
  subst this
  by_cases h1:1≤s.length∧s.length≤40
  ·have e:wordS s=true:=decide_eq_true ⟨h1.1,h1.2,hj⟩
   rw[e]
   simp (disch:=first|omega|assumption|exact bd (by with_unfolding_all rfl)|exact Or.inl rfl|exact Or.inl trivial|exact okL_map _ (fun _=>rfl) _|(simp only[VVlen]<;>omega)|fail) only[O1,WA,slotsL,opdsA,Nat.reduceEqDiff,Nat.reduceLT,Nat.reduceAdd,Nat.reduceBEq,Int.reduceAdd,Int.reduceSub,Int.reduceLT,Int.reduceLE,Int.reduceEq,Int.reduceNeg,↓reduceIte,reduceCtorEq,List.replicate,c58l0]
   all_goals try (exfalso;omega)
   exact weak_flat rfl h0 rfl
  ·have e:wordS s=false:=decide_eq_false fun h=>h1 ⟨h.1,h.2.1⟩
   rw[e]
   repeat' (first|(simp (disch:=first|omega|assumption|exact bd (by with_unfolding_all rfl)|exact Or.inl rfl|exact Or.inl trivial|exact okL_map _ (fun _=>rfl) _|(simp only[VVlen]<;>omega)|fail) only[O1,WA,slotsL,opdsA,Nat.reduceEqDiff,Nat.reduceLT,Nat.reduceAdd,Nat.reduceBEq,Int.reduceAdd,Int.reduceSub,Int.reduceLT,Int.reduceLE,Int.reduceEq,Int.reduceNeg,↓reduceIte,reduceCtorEq,List.replicate,c58l0])|apply gC_drawW|((first|apply gI_dec|apply gG_dec|apply gPG_dec|apply gI_var|apply gG_var|apply gPG_var)<;>intro _))
   all_goals try (exfalso;omega)
   all_goals exact weak_flat rfl h0 rfl
theorem gix_p (s:Nat) (l:List (List UInt8)) (x:List UInt8) (hl:l.length≤100000000):VSpec (EN w (n+1)) 48 [strs s l,strV x] (.sc (.int .i64 (placeG l x l.length))) ⟨[],0,0⟩:=by
 refine vspec_flat rfl rfl (fun _ _=>rfl) (Nat.le_of_ble_eq_true rfl) (oldVals w) rfl fun C hC h0=>?_
 simp (disch:=first|omega|assumption|exact bd (by with_unfolding_all rfl)|exact Or.inl rfl|exact Or.inl trivial|exact okL_map _ (fun _=>rfl) _|(simp only[VVlen]<;>omega)|fail) only[O1,WA,slotsL,opdsA,Nat.reduceEqDiff,Nat.reduceLT,Nat.reduceAdd,Nat.reduceBEq,Int.reduceAdd,Int.reduceSub,Int.reduceLT,Int.reduceLE,Int.reduceEq,Int.reduceNeg,↓reduceIte,reduceCtorEq,List.replicate,c48]
 refine g_while (fun m fr st=>∃ k:Nat,m=l.length - k∧k≤l.length∧fr= [(1,strV x),(7,strs s l),(8,.sc (.int .i64 l.length)),(9,.sc (.int .i64 k))]∧st=⟨[],0,0⟩∧∀ j,j<k→¬ l[j]! =x) l.length ?_ ⟨_,_,.refl _ _,0,by omega,Nat.zero_le _,rfl,rfl,by omega⟩ ?_
 ·rw[hC,callP_rounds];unfold many;omega
 rintro m fr st ⟨k,rfl,hk,rfl,rfl,hj⟩
 by_cases hlt:k<l.length
 ·by_cases hx:l[k]! =x
  ·rw[placeG_some hx hj l.length hlt]
   have hx2:x=l[k]! :=hx.symm
   simp (disch:=first|omega|assumption|exact bd (by with_unfolding_all rfl)|exact Or.inl rfl|exact Or.inl trivial|exact okL_map _ (fun _=>rfl) _|(simp only[VVlen]<;>omega)|fail) only[O1,WA,slotsL,opdsA,Nat.reduceEqDiff,Nat.reduceLT,Nat.reduceAdd,Nat.reduceBEq,Int.reduceAdd,Int.reduceSub,Int.reduceLT,Int.reduceLE,Int.reduceEq,Int.reduceNeg,↓reduceIte,reduceCtorEq,List.replicate,c48l0,sD_dv,mk_inj,hx]
   all_goals try (exfalso;omega)
   all_goals exact weak_flat rfl h0 rfl
  ·have hx2:¬ x=l[k]! :=fun h=>hx h.symm
   simp (disch:=first|omega|assumption|exact bd (by with_unfolding_all rfl)|exact Or.inl rfl|exact Or.inl trivial|exact okL_map _ (fun _=>rfl) _|(simp only[VVlen]<;>omega)|fail) only[O1,WA,slotsL,opdsA,Nat.reduceEqDiff,Nat.reduceLT,Nat.reduceAdd,Nat.reduceBEq,Int.reduceAdd,Int.reduceSub,Int.reduceLT,Int.reduceLE,Int.reduceEq,Int.reduceNeg,↓reduceIte,reduceCtorEq,List.replicate,c48l0,sD_dv,mk_inj,hx,hx2]
   all_goals try (exfalso;omega)
   all_goals exact ⟨_,_,_,by omega,.refl _ _,k+1,rfl,hlt,rfl,rfl,lt_succ_cases hj hx⟩
 ·have:k=l.length:=by omega
  subst this
  rw[placeG_none l.length hj]
  simp (disch:=first|omega|assumption|exact bd (by with_unfolding_all rfl)|exact Or.inl rfl|exact Or.inl trivial|exact okL_map _ (fun _=>rfl) _|(simp only[VVlen]<;>omega)|fail) only[O1,WA,slotsL,opdsA,Nat.reduceEqDiff,Nat.reduceLT,Nat.reduceAdd,Nat.reduceBEq,Int.reduceAdd,Int.reduceSub,Int.reduceLT,Int.reduceLE,Int.reduceEq,Int.reduceNeg,↓reduceIte,reduceCtorEq,List.replicate,c48l0]
  exact weak_flat rfl h0 rfl
theorem rindex_p (s:Nat) (l:List (List UInt8)) (x:List UInt8) (hl:l.length≤100000000):VSpec (EN w (n+1)) 24 [strs s l,strV x] (.sc (.int .i64 (placeG l x l.length))) ⟨[],0,0⟩:=by
 refine vspec_flat rfl rfl (fun _ _=>rfl) (Nat.le_of_ble_eq_true rfl) (oldVals w) rfl fun C hC h0=>?_
 simp (disch:=first|omega|assumption|exact bd (by with_unfolding_all rfl)|exact Or.inl rfl|exact Or.inl trivial|exact okL_map _ (fun _=>rfl) _|(simp only[VVlen]<;>omega)|fail) only[O1,WA,slotsL,opdsA,Nat.reduceEqDiff,Nat.reduceLT,Nat.reduceAdd,Nat.reduceBEq,Int.reduceAdd,Int.reduceSub,Int.reduceLT,Int.reduceLE,Int.reduceEq,Int.reduceNeg,↓reduceIte,reduceCtorEq,List.replicate,c24]
 refine g_while (fun m fr st=>∃ k:Nat,m=l.length - k∧k≤l.length∧fr= [(0,strs s l),(1,strV x),(5,.sc (.int .i64 k))]∧st=⟨[],0,0⟩∧∀ j,j<k→¬ l[j]! =x) l.length ?_ ⟨_,_,.refl _ _,0,by omega,Nat.zero_le _,rfl,rfl,by omega⟩ ?_
 ·rw[hC,callP_rounds];unfold many;omega
 rintro m fr st ⟨k,rfl,hk,rfl,rfl,hj⟩
 by_cases hlt:k<l.length
 ·by_cases hx:l[k]! =x
  ·rw[placeG_some hx hj l.length hlt]
   simp (disch:=first|omega|assumption|exact bd (by with_unfolding_all rfl)|exact Or.inl rfl|exact Or.inl trivial|exact okL_map _ (fun _=>rfl) _|(simp only[VVlen]<;>omega)|fail) only[O1,WA,slotsL,opdsA,Nat.reduceEqDiff,Nat.reduceLT,Nat.reduceAdd,Nat.reduceBEq,Int.reduceAdd,Int.reduceSub,Int.reduceLT,Int.reduceLE,Int.reduceEq,Int.reduceNeg,↓reduceIte,reduceCtorEq,List.replicate,c24l0,sD_dv,mk_inj,hx]
   all_goals try (exfalso;omega)
   all_goals exact weak_flat rfl h0 rfl
  ·have hx2:¬ x=l[k]! :=fun h=>hx h.symm
   simp (disch:=first|omega|assumption|exact bd (by with_unfolding_all rfl)|exact Or.inl rfl|exact Or.inl trivial|exact okL_map _ (fun _=>rfl) _|(simp only[VVlen]<;>omega)|fail) only[O1,WA,slotsL,opdsA,Nat.reduceEqDiff,Nat.reduceLT,Nat.reduceAdd,Nat.reduceBEq,Int.reduceAdd,Int.reduceSub,Int.reduceLT,Int.reduceLE,Int.reduceEq,Int.reduceNeg,↓reduceIte,reduceCtorEq,List.replicate,c24l0,sD_dv,mk_inj,hx,hx2]
   all_goals try (exfalso;omega)
   all_goals exact ⟨_,_,_,by omega,.refl _ _,k+1,rfl,hlt,rfl,rfl,lt_succ_cases hj hx⟩
 ·have:k=l.length:=by omega
  subst this
  rw[placeG_none l.length hj]
  simp (disch:=first|omega|assumption|exact bd (by with_unfolding_all rfl)|exact Or.inl rfl|exact Or.inl trivial|exact okL_map _ (fun _=>rfl) _|(simp only[VVlen]<;>omega)|fail) only[O1,WA,slotsL,opdsA,Nat.reduceEqDiff,Nat.reduceLT,Nat.reduceAdd,Nat.reduceBEq,Int.reduceAdd,Int.reduceSub,Int.reduceLT,Int.reduceLE,Int.reduceEq,Int.reduceNeg,↓reduceIte,reduceCtorEq,List.replicate,c24l0]
  exact weak_flat rfl h0 rfl
end
end Go.Proofs.YteibgbbfcjgjiaaDoor
namespace Go.Proofs.YteibgbbfcjgjiaaDoor
open Go Go.Itp
set_option maxRecDepth 100000
set_option maxHeartbeats 1000000
set_option linter.unusedSimpArgs false
set_option linter.unusedVariables false
def wF (l:List (List UInt8)):Nat→Bool
 |0=>decide (0<l.length)
 |k+1=>wF l k && wordS l[k]!
def tF (l:List (List UInt8)):Nat→Bool
 |0=>false
 |k+1=>tF l k||decide (placeG l l[k]! l.length<k)
def wordsS (l:List (List UInt8)):Bool:=wF l l.length
def twiceS (l:List (List UInt8)):Bool:=tF l l.length
theorem wF_iff (l:List (List UInt8)):∀ k,wF l k=true↔0<l.length∧∀ j,j<k→wordS l[j]! =true
 |0=>by simp[wF]
 |k+1=>by
  rw[wF,Bool.and_eq_true,wF_iff l k]
  constructor
  ·rintro ⟨⟨h1,h2⟩,h3⟩;exact ⟨h1,lt_succ_cases h2 h3⟩
  ·rintro ⟨h1,h2⟩;exact ⟨⟨h1,fun j hj=>h2 j (by omega)⟩,h2 k (by omega)⟩
theorem tF_iff (l:List (List UInt8)):∀ k,tF l k=true↔∃ j,j<k∧placeG l l[j]! l.length<j
 |0=>by simp[tF]
 |k+1=>by
  rw[tF,Bool.or_eq_true,tF_iff l k,decide_eq_true_eq]
  constructor
  ·rintro (⟨j,h1,h2⟩|h)
   ·exact ⟨j,by omega,h2⟩
   ·exact ⟨k,by omega,h⟩
  ·rintro ⟨j,h1,h2⟩
   by_cases e:j=k
   ·subst e;exact .inr h2
   ·exact .inl ⟨j,by omega,h2⟩
def rowTo (l:List Int) (k:Nat):Prop:=∀ j,j<k→0≤l[j]! ∧l[j]! ≤1000000∧(0<j→l[j - 1]! ≤l[j]!)
def rowS (l:List Int) (n:Nat):Bool:=decide (l.length=n∧∀ j,j<l.length→0≤l[j]! ∧l[j]! ≤1000000∧(0<j→l[j - 1]! ≤l[j]!))
abbrev intsV (s:Nat) (l:List Int):V:= .sl s l.length (l.map iD)
section
variable (w:World) (n:Nat)
theorem words_p (s:Nat) (l:List (List UInt8)) (hl:l.length≤100000000) (hs:∀ j,j<l.length→l[j]!.length≤100000000):VSpec (EN w (n+2)) 47 [strs s l] (.tup [.sc (.bool (wordsS l)),.sc (.bool (twiceS l))]) ⟨[],0,0⟩:=by
 refine vspec_flat rfl rfl (fun _ _=>rfl) (Nat.le_of_ble_eq_true rfl) (oldVals w) rfl fun C hC h0=>?_
 have h00:decide ((0:Int)<l.length)=wF l 0:=by rw[wF];congr 1;apply propext;omega
 simp (disch:=first|omega|assumption|exact bd (by with_unfolding_all rfl)|exact Or.inl rfl|exact Or.inl trivial|exact okL_map _ (fun _=>rfl) _|(simp only[VVlen]<;>omega)|fail) only[O1,WA,slotsL,opdsA,Nat.reduceEqDiff,Nat.reduceLT,Nat.reduceAdd,Nat.reduceBEq,Int.reduceAdd,Int.reduceSub,Int.reduceLT,Int.reduceLE,Int.reduceEq,Int.reduceNeg,↓reduceIte,reduceCtorEq,List.replicate,c47]
 all_goals try rw[h00]
 refine g_while (fun m fr st=>∃ k:Nat,m=l.length - k∧k≤l.length∧fr= [(0,strs s l),(2,.sc (.bool (wF l k))),(3,.sc (.bool (tF l k))),(9,strs s l),(10,.sc (.int .i64 l.length)),(11,.sc (.int .i64 k))]∧st=⟨[],0,0⟩) l.length ?_ ⟨_,_,.refl _ _,0,by omega,Nat.zero_le _,rfl,rfl⟩ ?_
 ·rw[hC,callP_rounds];unfold many;omega
 rintro m fr st ⟨k,rfl,hk,rfl,rfl⟩
 by_cases hlt:k<l.length
 ·have e1:wF l (k+1)=(wF l k && wordS l[k]!):=rfl
  have e2:tF l (k+1)=(tF l k||decide (placeG l l[k]! l.length<k)):=rfl
  have hw:=fun st=>(word_p w n l[k]! (hs k hlt)).of hC rfl st rfl
  have hi:=fun st=>(gix_p w n s l l[k]! hl).of hC rfl st rfl
  generalize hX:l[k]! =X at*
  generalize wordS X=b at*
  have hp:decide (placeG l X l.length<(k:Int))=decide (placeG l X l.length<k):=rfl
  generalize placeG l X l.length=p at*
  generalize wF l k=f at*
  generalize tF l k=g at*
  cases f<;>cases g
  ·simp (disch:=first|omega|assumption|exact bd (by with_unfolding_all rfl)|exact Or.inl rfl|exact Or.inl trivial|exact okL_map _ (fun _=>rfl) _|(simp only[VVlen]<;>omega)|fail) only[O1,WA,slotsL,opdsA,Nat.reduceEqDiff,Nat.reduceLT,Nat.reduceAdd,Nat.reduceBEq,Int.reduceAdd,Int.reduceSub,Int.reduceLT,Int.reduceLE,Int.reduceEq,Int.reduceNeg,↓reduceIte,reduceCtorEq,List.replicate,c47l0,sD_dv,hX]
   refine callV_flat (hi _) ?_
   simp (disch:=first|omega|assumption|exact bd (by with_unfolding_all rfl)|exact Or.inl rfl|exact Or.inl trivial|exact okL_map _ (fun _=>rfl) _|(simp only[VVlen]<;>omega)|fail) only[O1,WA,slotsL,opdsA,Nat.reduceEqDiff,Nat.reduceLT,Nat.reduceAdd,Nat.reduceBEq,Int.reduceAdd,Int.reduceSub,Int.reduceLT,Int.reduceLE,Int.reduceEq,Int.reduceNeg,↓reduceIte,reduceCtorEq,List.replicate]
   exact ⟨_,_,_,by omega,.refl _ _,k+1,rfl,hlt,by rw[e1,e2];rfl,rfl⟩
  ·simp (disch:=first|omega|assumption|exact bd (by with_unfolding_all rfl)|exact Or.inl rfl|exact Or.inl trivial|exact okL_map _ (fun _=>rfl) _|(simp only[VVlen]<;>omega)|fail) only[O1,WA,slotsL,opdsA,Nat.reduceEqDiff,Nat.reduceLT,Nat.reduceAdd,Nat.reduceBEq,Int.reduceAdd,Int.reduceSub,Int.reduceLT,Int.reduceLE,Int.reduceEq,Int.reduceNeg,↓reduceIte,reduceCtorEq,List.replicate,c47l0,sD_dv,hX]
   exact ⟨_,_,_,by omega,.refl _ _,k+1,rfl,hlt,by rw[e1,e2];rfl,rfl⟩
  ·simp (disch:=first|omega|assumption|exact bd (by with_unfolding_all rfl)|exact Or.inl rfl|exact Or.inl trivial|exact okL_map _ (fun _=>rfl) _|(simp only[VVlen]<;>omega)|fail) only[O1,WA,slotsL,opdsA,Nat.reduceEqDiff,Nat.reduceLT,Nat.reduceAdd,Nat.reduceBEq,Int.reduceAdd,Int.reduceSub,Int.reduceLT,Int.reduceLE,Int.reduceEq,Int.reduceNeg,↓reduceIte,reduceCtorEq,List.replicate,c47l0,sD_dv,hX]
   refine callV_flat (hw _) ?_
   repeat' (first|(simp (disch:=first|omega|assumption|exact bd (by with_unfolding_all rfl)|exact Or.inl rfl|exact Or.inl trivial|exact okL_map _ (fun _=>rfl) _|(simp only[VVlen]<;>omega)|fail) only[O1,WA,slotsL,opdsA,Nat.reduceEqDiff,Nat.reduceLT,Nat.reduceAdd,Nat.reduceBEq,Int.reduceAdd,Int.reduceSub,Int.reduceLT,Int.reduceLE,Int.reduceEq,Int.reduceNeg,↓reduceIte,reduceCtorEq,List.replicate])|apply gC_drawW|((first|apply gI_dec|apply gG_dec|apply gPG_dec|apply gI_var|apply gG_var|apply gPG_var)<;>intro _))
   refine callV_flat (hi _) ?_
   simp (disch:=first|omega|assumption|exact bd (by with_unfolding_all rfl)|exact Or.inl rfl|exact Or.inl trivial|exact okL_map _ (fun _=>rfl) _|(simp only[VVlen]<;>omega)|fail) only[O1,WA,slotsL,opdsA,Nat.reduceEqDiff,Nat.reduceLT,Nat.reduceAdd,Nat.reduceBEq,Int.reduceAdd,Int.reduceSub,Int.reduceLT,Int.reduceLE,Int.reduceEq,Int.reduceNeg,↓reduceIte,reduceCtorEq,List.replicate]
   exact ⟨_,_,_,by omega,.refl _ _,k+1,rfl,hlt,by rw[e1,e2];rfl,rfl⟩
  ·simp (disch:=first|omega|assumption|exact bd (by with_unfolding_all rfl)|exact Or.inl rfl|exact Or.inl trivial|exact okL_map _ (fun _=>rfl) _|(simp only[VVlen]<;>omega)|fail) only[O1,WA,slotsL,opdsA,Nat.reduceEqDiff,Nat.reduceLT,Nat.reduceAdd,Nat.reduceBEq,Int.reduceAdd,Int.reduceSub,Int.reduceLT,Int.reduceLE,Int.reduceEq,Int.reduceNeg,↓reduceIte,reduceCtorEq,List.replicate,c47l0,sD_dv,hX]
   refine callV_flat (hw _) ?_
   repeat' (first|(simp (disch:=first|omega|assumption|exact bd (by with_unfolding_all rfl)|exact Or.inl rfl|exact Or.inl trivial|exact okL_map _ (fun _=>rfl) _|(simp only[VVlen]<;>omega)|fail) only[O1,WA,slotsL,opdsA,Nat.reduceEqDiff,Nat.reduceLT,Nat.reduceAdd,Nat.reduceBEq,Int.reduceAdd,Int.reduceSub,Int.reduceLT,Int.reduceLE,Int.reduceEq,Int.reduceNeg,↓reduceIte,reduceCtorEq,List.replicate])|apply gC_drawW|((first|apply gI_dec|apply gG_dec|apply gPG_dec|apply gI_var|apply gG_var|apply gPG_var)<;>intro _))
   exact ⟨_,_,_,by omega,.refl _ _,k+1,rfl,hlt,by rw[e1,e2];rfl,rfl⟩
 ·have:k=l.length:=by omega
  subst this
  simp (disch:=first|omega|assumption|exact bd (by with_unfolding_all rfl)|exact Or.inl rfl|exact Or.inl trivial|exact okL_map _ (fun _=>rfl) _|(simp only[VVlen]<;>omega)|fail) only[O1,WA,slotsL,opdsA,Nat.reduceEqDiff,Nat.reduceLT,Nat.reduceAdd,Nat.reduceBEq,Int.reduceAdd,Int.reduceSub,Int.reduceLT,Int.reduceLE,Int.reduceEq,Int.reduceNeg,↓reduceIte,reduceCtorEq,List.replicate,c47l0]
  exact weak_flat rfl h0 rfl
theorem rwords_p (s:Nat) (l:List (List UInt8)) (hl:l.length≤100000000) (hs:∀ j,j<l.length→l[j]!.length≤100000000):VSpec (EN w (n+2)) 42 [strs s l] (.sc (.bool (wordsS l))) ⟨[],0,0⟩:=by
 refine vspec_flat rfl rfl (fun _ _=>rfl) (Nat.le_of_ble_eq_true rfl) (oldVals w) rfl fun C hC h0=>?_
 simp (disch:=first|omega|assumption|exact bd (by with_unfolding_all rfl)|exact Or.inl rfl|exact Or.inl trivial|exact okL_map _ (fun _=>rfl) _|(simp only[VVlen]<;>omega)|fail) only[O1,WA,slotsL,opdsA,Nat.reduceEqDiff,Nat.reduceLT,Nat.reduceAdd,Nat.reduceBEq,Int.reduceAdd,Int.reduceSub,Int.reduceLT,Int.reduceLE,Int.reduceEq,Int.reduceNeg,↓reduceIte,reduceCtorEq,List.replicate,c42]
 refine g_while (fun m fr st=>∃ k:Nat,m=l.length - k∧k≤l.length∧fr= [(0,strs s l),(3,.sc (.int .i64 k))]∧st=⟨[],0,0⟩∧∀ j,j<k→wordS l[j]! =true) l.length ?_ ⟨_,_,.refl _ _,0,by omega,Nat.zero_le _,rfl,rfl,by omega⟩ ?_
 ·rw[hC,callP_rounds];unfold many;omega
 rintro m fr st ⟨k,rfl,hk,rfl,rfl,hj⟩
 by_cases hlt:k<l.length
 ·have hw:=fun st=>(rword_p w n l[k]! (hs k hlt)).of hC rfl st rfl
  cases hb:wordS l[k]! with
  |true=>
   have hj2:=lt_succ_cases hj hb
   rw[hb] at hw
   generalize hX:l[k]! =X at*
   simp (disch:=first|omega|assumption|exact bd (by with_unfolding_all rfl)|exact Or.inl rfl|exact Or.inl trivial|exact okL_map _ (fun _=>rfl) _|(simp only[VVlen]<;>omega)|fail) only[O1,WA,slotsL,opdsA,Nat.reduceEqDiff,Nat.reduceLT,Nat.reduceAdd,Nat.reduceBEq,Int.reduceAdd,Int.reduceSub,Int.reduceLT,Int.reduceLE,Int.reduceEq,Int.reduceNeg,↓reduceIte,reduceCtorEq,List.replicate,c42l0,sD_dv,hX]
   refine callV_flat (hw _) ?_
   simp (disch:=first|omega|assumption|exact bd (by with_unfolding_all rfl)|exact Or.inl rfl|exact Or.inl trivial|exact okL_map _ (fun _=>rfl) _|(simp only[VVlen]<;>omega)|fail) only[O1,WA,slotsL,opdsA,Nat.reduceEqDiff,Nat.reduceLT,Nat.reduceAdd,Nat.reduceBEq,Int.reduceAdd,Int.reduceSub,Int.reduceLT,Int.reduceLE,Int.reduceEq,Int.reduceNeg,↓reduceIte,reduceCtorEq,List.replicate]
   exact ⟨_,_,_,by omega,.refl _ _,k+1,rfl,hlt,rfl,rfl,hj2⟩
  |false=>
   have e:wordsS l=false:=Bool.eq_false_iff.2 fun h=>by
    have:=((wF_iff l l.length).1 h).2 k hlt
    rw[hb] at this;cases this
   rw[e]
   rw[hb] at hw
   generalize hX:l[k]! =X at*
   simp (disch:=first|omega|assumption|exact bd (by with_unfolding_all rfl)|exact Or.inl rfl|exact Or.inl trivial|exact okL_map _ (fun _=>rfl) _|(simp only[VVlen]<;>omega)|fail) only[O1,WA,slotsL,opdsA,Nat.reduceEqDiff,Nat.reduceLT,Nat.reduceAdd,Nat.reduceBEq,Int.reduceAdd,Int.reduceSub,Int.reduceLT,Int.reduceLE,Int.reduceEq,Int.reduceNeg,↓reduceIte,reduceCtorEq,List.replicate,c42l0,sD_dv,hX]
   refine callV_flat (hw _) ?_
   simp (disch:=first|omega|assumption|exact bd (by with_unfolding_all rfl)|exact Or.inl rfl|exact Or.inl trivial|exact okL_map _ (fun _=>rfl) _|(simp only[VVlen]<;>omega)|fail) only[O1,WA,slotsL,opdsA,Nat.reduceEqDiff,Nat.reduceLT,Nat.reduceAdd,Nat.reduceBEq,Int.reduceAdd,Int.reduceSub,Int.reduceLT,Int.reduceLE,Int.reduceEq,Int.reduceNeg,↓reduceIte,reduceCtorEq,List.replicate]
   exact weak_flat rfl h0 rfl
 ·have:k=l.length:=by omega
  subst this
  have e:wordsS l=decide ((0:Int)<l.length):=by
   rw[Bool.eq_iff_iff,decide_eq_true_eq]
   exact (wF_iff l l.length).trans ⟨fun h=>by have:=h.1;omega,fun h=>⟨by omega,hj⟩⟩
  rw[e]
  simp (disch:=first|omega|assumption|exact bd (by with_unfolding_all rfl)|exact Or.inl rfl|exact Or.inl trivial|exact okL_map _ (fun _=>rfl) _|(simp only[VVlen]<;>omega)|fail) only[O1,WA,slotsL,opdsA,Nat.reduceEqDiff,Nat.reduceLT,Nat.reduceAdd,Nat.reduceBEq,Int.reduceAdd,Int.reduceSub,Int.reduceLT,Int.reduceLE,Int.reduceEq,Int.reduceNeg,↓reduceIte,reduceCtorEq,List.replicate,c42l0]
  exact weak_flat rfl h0 rfl
theorem twice_p (s:Nat) (l:List (List UInt8)) (hl:l.length≤100000000):VSpec (EN w (n+2)) 44 [strs s l] (.sc (.bool (twiceS l))) ⟨[],0,0⟩:=by
 refine vspec_flat rfl rfl (fun _ _=>rfl) (Nat.le_of_ble_eq_true rfl) (oldVals w) rfl fun C hC h0=>?_
 simp (disch:=first|omega|assumption|exact bd (by with_unfolding_all rfl)|exact Or.inl rfl|exact Or.inl trivial|exact okL_map _ (fun _=>rfl) _|(simp only[VVlen]<;>omega)|fail) only[O1,WA,slotsL,opdsA,Nat.reduceEqDiff,Nat.reduceLT,Nat.reduceAdd,Nat.reduceBEq,Int.reduceAdd,Int.reduceSub,Int.reduceLT,Int.reduceLE,Int.reduceEq,Int.reduceNeg,↓reduceIte,reduceCtorEq,List.replicate,c44]
 refine g_while (fun m fr st=>∃ k:Nat,m=l.length - k∧k≤l.length∧fr= [(0,strs s l),(3,.sc (.int .i64 k))]∧st=⟨[],0,0⟩∧∀ j,j<k→¬ placeG l l[j]! l.length<j) l.length ?_ ⟨_,_,.refl _ _,0,by omega,Nat.zero_le _,rfl,rfl,by omega⟩ ?_
 ·rw[hC,callP_rounds];unfold many;omega
 rintro m fr st ⟨k,rfl,hk,rfl,rfl,hj⟩
 by_cases hlt:k<l.length
 ·have hi:=fun st=>(rindex_p w n s l l[k]! hl).of hC rfl st rfl
  by_cases hp:placeG l l[k]! l.length<k
  ·have e:twiceS l=true:=(tF_iff l l.length).2 ⟨k,hlt,hp⟩
   rw[e]
   generalize hX:l[k]! =X at*
   generalize placeG l X l.length=p at*
   simp (disch:=first|omega|assumption|exact bd (by with_unfolding_all rfl)|exact Or.inl rfl|exact Or.inl trivial|exact okL_map _ (fun _=>rfl) _|(simp only[VVlen]<;>omega)|fail) only[O1,WA,slotsL,opdsA,Nat.reduceEqDiff,Nat.reduceLT,Nat.reduceAdd,Nat.reduceBEq,Int.reduceAdd,Int.reduceSub,Int.reduceLT,Int.reduceLE,Int.reduceEq,Int.reduceNeg,↓reduceIte,reduceCtorEq,List.replicate,c44l0,sD_dv,hX]
   refine callV_flat (hi _) ?_
   simp (disch:=first|omega|assumption|exact bd (by with_unfolding_all rfl)|exact Or.inl rfl|exact Or.inl trivial|exact okL_map _ (fun _=>rfl) _|(simp only[VVlen]<;>omega)|fail) only[O1,WA,slotsL,opdsA,Nat.reduceEqDiff,Nat.reduceLT,Nat.reduceAdd,Nat.reduceBEq,Int.reduceAdd,Int.reduceSub,Int.reduceLT,Int.reduceLE,Int.reduceEq,Int.reduceNeg,↓reduceIte,reduceCtorEq,List.replicate]
   all_goals try (exfalso;omega)
   exact weak_flat rfl h0 rfl
  ·have hj2:=lt_succ_cases hj hp
   generalize hX:l[k]! =X at*
   generalize placeG l X l.length=p at*
   simp (disch:=first|omega|assumption|exact bd (by with_unfolding_all rfl)|exact Or.inl rfl|exact Or.inl trivial|exact okL_map _ (fun _=>rfl) _|(simp only[VVlen]<;>omega)|fail) only[O1,WA,slotsL,opdsA,Nat.reduceEqDiff,Nat.reduceLT,Nat.reduceAdd,Nat.reduceBEq,Int.reduceAdd,Int.reduceSub,Int.reduceLT,Int.reduceLE,Int.reduceEq,Int.reduceNeg,↓reduceIte,reduceCtorEq,List.replicate,c44l0,sD_dv,hX]
   refine callV_flat (hi _) ?_
   simp (disch:=first|omega|assumption|exact bd (by with_unfolding_all rfl)|exact Or.inl rfl|exact Or.inl trivial|exact okL_map _ (fun _=>rfl) _|(simp only[VVlen]<;>omega)|fail) only[O1,WA,slotsL,opdsA,Nat.reduceEqDiff,Nat.reduceLT,Nat.reduceAdd,Nat.reduceBEq,Int.reduceAdd,Int.reduceSub,Int.reduceLT,Int.reduceLE,Int.reduceEq,Int.reduceNeg,↓reduceIte,reduceCtorEq,List.replicate]
   all_goals try (exfalso;omega)
   exact ⟨_,_,_,by omega,.refl _ _,k+1,rfl,hlt,rfl,rfl,hj2⟩
 ·have:k=l.length:=by omega
  subst this
  have e:twiceS l=false:=Bool.eq_false_iff.2 fun h=>by
   obtain ⟨j,h1,h2⟩:=(tF_iff l l.length).1 h
   exact hj j h1 h2
  rw[e]
  simp (disch:=first|omega|assumption|exact bd (by with_unfolding_all rfl)|exact Or.inl rfl|exact Or.inl trivial|exact okL_map _ (fun _=>rfl) _|(simp only[VVlen]<;>omega)|fail) only[O1,WA,slotsL,opdsA,Nat.reduceEqDiff,Nat.reduceLT,Nat.reduceAdd,Nat.reduceBEq,Int.reduceAdd,Int.reduceSub,Int.reduceLT,Int.reduceLE,Int.reduceEq,Int.reduceNeg,↓reduceIte,reduceCtorEq,List.replicate,c44l0]
  exact weak_flat rfl h0 rfl
theorem row_p (s:Nat) (l:List Int) (hl:l.length≤100000000) (q:Nat) (hq:q≤100000000):VSpec (EN w (n+1)) 43 [intsV s l,.sc (.int .i64 q)] (.sc (.bool (rowS l q))) ⟨[],0,0⟩:=by
 refine vspec_flat rfl rfl (fun _ _=>rfl) (Nat.le_of_ble_eq_true rfl) (oldVals w) rfl fun C hC h0=>?_
 simp (disch:=first|omega|assumption|exact bd (by with_unfolding_all rfl)|exact Or.inl rfl|exact Or.inl trivial|exact okL_map _ (fun _=>rfl) _|(simp only[VVlen]<;>omega)|fail) only[O1,WA,slotsL,opdsA,Nat.reduceEqDiff,Nat.reduceLT,Nat.reduceAdd,Nat.reduceBEq,Int.reduceAdd,Int.reduceSub,Int.reduceLT,Int.reduceLE,Int.reduceEq,Int.reduceNeg,↓reduceIte,reduceCtorEq,List.replicate,c43]
 refine g_while (fun m fr st=>∃ k:Nat,m=l.length - k∧k≤l.length∧fr= [(0,intsV s l),(1,.sc (.int .i64 q)),(5,.sc (.int .i64 k))]∧st=⟨[],0,0⟩∧rowTo l k) l.length ?_ ⟨_,_,.refl _ _,0,by omega,Nat.zero_le _,rfl,rfl,fun j hj=>by omega⟩ ?_
 ·rw[hC,callP_rounds];unfold many;omega
 rintro m fr st ⟨k,rfl,hk,rfl,rfl,hj⟩
 by_cases hlt:k<l.length
 ·have hk1:((k:Int) - 1).toNat=k - 1:=by omega
  have e0:rowS l q=true→0≤l[k]! ∧l[k]! ≤1000000∧(0<k→l[k - 1]! ≤l[k]!):=fun hh=>(of_decide_eq_true hh).2 k hlt
  by_cases hok:0≤l[k]! ∧l[k]! ≤1000000∧(0<k→l[k - 1]! ≤l[k]!)
  ·have hj2:rowTo l (k+1):=lt_succ_cases hj hok
   obtain ⟨a1,a2,a3⟩:=hok
   generalize hY:l[k - 1]! =Y at*
   generalize hX:l[k]! =X at*
   repeat' (first|(simp (disch:=first|omega|assumption|exact bd (by with_unfolding_all rfl)|exact Or.inl rfl|exact Or.inl trivial|exact okL_map _ (fun _=>rfl) _|(simp only[VVlen]<;>omega)|fail) only[O1,WA,slotsL,opdsA,Nat.reduceEqDiff,Nat.reduceLT,Nat.reduceAdd,Nat.reduceBEq,Int.reduceAdd,Int.reduceSub,Int.reduceLT,Int.reduceLE,Int.reduceEq,Int.reduceNeg,↓reduceIte,reduceCtorEq,List.replicate,c43l0,iD_dv,hX,hY,hk1])|apply gC_drawW|((first|apply gI_dec|apply gG_dec|apply gPG_dec|apply gI_var|apply gG_var|apply gPG_var)<;>intro _))
   all_goals try (exfalso;omega)
   all_goals exact ⟨_,_,_,by omega,.refl _ _,k+1,rfl,hlt,rfl,rfl,hj2⟩
  ·have e:rowS l q=false:=Bool.eq_false_iff.2 fun h=>hok (e0 h)
   rw[e]
   generalize hY:l[k - 1]! =Y at*
   generalize hX:l[k]! =X at*
   have hok2:X<0∨1000000<X∨(0<k∧X<Y):=by
    by_cases a1:X<0
    ·exact .inl a1
    by_cases a2:1000000<X
    ·exact .inr (.inl a2)
    ·refine .inr (.inr ?_)
     by_cases a3:0<k
     ·exact ⟨a3,by by_cases a4:X<Y;exact a4;exact absurd ⟨by omega,by omega,fun _=>by omega⟩ hok⟩
     ·exact absurd ⟨by omega,by omega,fun h=>absurd h a3⟩ hok
   by_cases a1:X<0
   ·simp (disch:=first|omega|assumption|exact bd (by with_unfolding_all rfl)|exact Or.inl rfl|exact Or.inl trivial|exact okL_map _ (fun _=>rfl) _|(simp only[VVlen]<;>omega)|fail) only[O1,WA,slotsL,opdsA,Nat.reduceEqDiff,Nat.reduceLT,Nat.reduceAdd,Nat.reduceBEq,Int.reduceAdd,Int.reduceSub,Int.reduceLT,Int.reduceLE,Int.reduceEq,Int.reduceNeg,↓reduceIte,reduceCtorEq,List.replicate,c43l0,iD_dv,hX,hY,hk1]
    all_goals try (exfalso;omega)
    all_goals exact weak_flat rfl h0 rfl
   by_cases a2:1000000<X
   ·simp (disch:=first|omega|assumption|exact bd (by with_unfolding_all rfl)|exact Or.inl rfl|exact Or.inl trivial|exact okL_map _ (fun _=>rfl) _|(simp only[VVlen]<;>omega)|fail) only[O1,WA,slotsL,opdsA,Nat.reduceEqDiff,Nat.reduceLT,Nat.reduceAdd,Nat.reduceBEq,Int.reduceAdd,Int.reduceSub,Int.reduceLT,Int.reduceLE,Int.reduceEq,Int.reduceNeg,↓reduceIte,reduceCtorEq,List.replicate,c43l0,iD_dv,hX,hY,hk1]
    all_goals try (exfalso;omega)
    all_goals exact weak_flat rfl h0 rfl
   ·have a3:0<k∧X<Y:=by omega
    obtain ⟨a3,a4⟩:=a3
    simp (disch:=first|omega|assumption|exact bd (by with_unfolding_all rfl)|exact Or.inl rfl|exact Or.inl trivial|exact okL_map _ (fun _=>rfl) _|(simp only[VVlen]<;>omega)|fail) only[O1,WA,slotsL,opdsA,Nat.reduceEqDiff,Nat.reduceLT,Nat.reduceAdd,Nat.reduceBEq,Int.reduceAdd,Int.reduceSub,Int.reduceLT,Int.reduceLE,Int.reduceEq,Int.reduceNeg,↓reduceIte,reduceCtorEq,List.replicate,c43l0,iD_dv,hX,hY,hk1]
    all_goals try (exfalso;omega)
    all_goals exact weak_flat rfl h0 rfl
 ·have:k=l.length:=by omega
  subst this
  by_cases hq':(l.length:Int)=q
  ·have e:rowS l q=true:=decide_eq_true ⟨by omega,hj⟩
   rw[e]
   simp (disch:=first|omega|assumption|exact bd (by with_unfolding_all rfl)|exact Or.inl rfl|exact Or.inl trivial|exact okL_map _ (fun _=>rfl) _|(simp only[VVlen]<;>omega)|fail) only[O1,WA,slotsL,opdsA,Nat.reduceEqDiff,Nat.reduceLT,Nat.reduceAdd,Nat.reduceBEq,Int.reduceAdd,Int.reduceSub,Int.reduceLT,Int.reduceLE,Int.reduceEq,Int.reduceNeg,↓reduceIte,reduceCtorEq,List.replicate,c43l0]
   all_goals try (exfalso;omega)
   all_goals exact weak_flat rfl h0 rfl
  ·have e:rowS l q=false:=decide_eq_false fun h=>by have:=h.1;omega
   rw[e]
   simp (disch:=first|omega|assumption|exact bd (by with_unfolding_all rfl)|exact Or.inl rfl|exact Or.inl trivial|exact okL_map _ (fun _=>rfl) _|(simp only[VVlen]<;>omega)|fail) only[O1,WA,slotsL,opdsA,Nat.reduceEqDiff,Nat.reduceLT,Nat.reduceAdd,Nat.reduceBEq,Int.reduceAdd,Int.reduceSub,Int.reduceLT,Int.reduceLE,Int.reduceEq,Int.reduceNeg,↓reduceIte,reduceCtorEq,List.replicate,c43l0]
   all_goals try (exfalso;omega)
   all_goals exact weak_flat rfl h0 rfl
end
end Go.Proofs.YteibgbbfcjgjiaaDoor
namespace Go.Proofs.YteibgbbfcjgjiaaDoor
open Go Go.Itp
set_option maxRecDepth 100000
set_option maxHeartbeats 2000000
set_option linter.unusedSimpArgs false
set_option linter.unusedVariables false
abbrev rowsV (u r:Nat) (M:List (List Int)):V:= .sl u M.length (M.map (rowI r))
abbrev tableV (s t u r:Nat) (S N:List (List UInt8)) (M:List (List Int)):V:= .agg [strs s S,strs t N,rowsV u r M]
abbrev tabO (s t u r:Nat) (S N:List (List UInt8)) (M:List (List Int)):Itp.Obj:= .box 25 1 [strs s S,strs t N,rowsV u r M]
def sizeL:List UInt8:= [115,105,122,101]
def checkS (S N:List (List UInt8)) (M:List (List Int)):Int:=
 if 20<S.length∨30<N.length then 4
 else if ¬ wordsS S=true∨¬ wordsS N=true∨0≤placeG N sizeL N.length∨¬ M.length=N.length then 8
 else if ∀ k,k<M.length→rowS M[k]! S.length=true then (if twiceS S=true∨twiceS N=true then 14 else 0)
 else 8
structure Mod (S N:List (List UInt8)) (M:List (List Int)):Prop where
 s:S.length≤100000000
 n:N.length≤100000000
 m:M.length≤100000000
 zs:∀ j,j<S.length→S[j]!.length≤100000000
 zn:∀ j,j<N.length→N[j]!.length≤100000000
 zm:∀ j,j<M.length→M[j]!.length≤100000000
section
variable (w:World) (n:Nat)
theorem check_p (s t u r:Nat) (S N:List (List UInt8)) (M:List (List Int)) (hm:Mod S N M):VSpec (EN w (n+3)) 19 [tableV s t u r S N M] (.sc (.int .i64 (checkS S N M))) ⟨[],0,0⟩:=by
 refine vspec_flat rfl rfl (fun _ _=>rfl) (Nat.le_of_ble_eq_true rfl) (oldVals w) rfl fun C hC h0=>?_
 obtain ⟨m1,m2,m3,m4,m5,m6⟩:=hm
 by_cases h1:20<S.length∨30<N.length
 ·have e:checkS S N M=4:=if_pos h1
  rw[e]
  repeat' (first|(simp (disch:=first|omega|assumption|exact bd (by with_unfolding_all rfl)|exact Or.inl rfl|exact Or.inl trivial|exact okL_map _ (fun _=>rfl) _|(simp only[VVlen]<;>omega)|fail) only[O1,WA,slotsL,opdsA,Nat.reduceEqDiff,Nat.reduceLT,Nat.reduceAdd,Nat.reduceBEq,Int.reduceAdd,Int.reduceSub,Int.reduceLT,Int.reduceLE,Int.reduceEq,Int.reduceNeg,↓reduceIte,reduceCtorEq,List.replicate,c19])|apply gC_drawW|((first|apply gI_dec|apply gG_dec|apply gPG_dec|apply gI_var|apply gG_var|apply gPG_var)<;>intro _))
  all_goals try (exfalso;omega)
  all_goals exact weak_flat rfl h0 rfl
 have w1:=words_p w n s S m1 m4
 have w2:=words_p w n t N m2 m5
 have ix:=gix_p w (n+1) t N sizeL m2
 by_cases hbad:(¬ wordsS S=true∨¬ wordsS N=true∨0≤placeG N sizeL N.length∨¬ M.length=N.length)
 ·have e:checkS S N M=8:=by unfold checkS;rw[if_neg h1,if_pos hbad]
  rw[e]
  generalize wordsS S=a at*
  generalize wordsS N=b at*
  generalize placeG N sizeL N.length=p at*
  generalize twiceS S=c at*
  generalize twiceS N=d at*
  cases a
  ·simp (disch:=first|omega|assumption|exact bd (by with_unfolding_all rfl)|exact Or.inl rfl|exact Or.inl trivial|exact okL_map _ (fun _=>rfl) _|(simp only[VVlen]<;>omega)|fail) only[O1,WA,slotsL,opdsA,Nat.reduceEqDiff,Nat.reduceLT,Nat.reduceAdd,Nat.reduceBEq,Int.reduceAdd,Int.reduceSub,Int.reduceLT,Int.reduceLE,Int.reduceEq,Int.reduceNeg,↓reduceIte,reduceCtorEq,List.replicate,c19]
   all_goals try (exfalso;omega)
   refine callV_flat (by rw[hC];exact w1.flat rfl rfl) ?_
   simp (disch:=first|omega|assumption|exact bd (by with_unfolding_all rfl)|exact Or.inl rfl|exact Or.inl trivial|exact okL_map _ (fun _=>rfl) _|(simp only[VVlen]<;>omega)|fail) only[O1,WA,slotsL,opdsA,Nat.reduceEqDiff,Nat.reduceLT,Nat.reduceAdd,Nat.reduceBEq,Int.reduceAdd,Int.reduceSub,Int.reduceLT,Int.reduceLE,Int.reduceEq,Int.reduceNeg,↓reduceIte,reduceCtorEq,List.replicate]
   refine callV_flat (by rw[hC];exact w2.flat rfl rfl) ?_
   simp (disch:=first|omega|assumption|exact bd (by with_unfolding_all rfl)|exact Or.inl rfl|exact Or.inl trivial|exact okL_map _ (fun _=>rfl) _|(simp only[VVlen]<;>omega)|fail) only[O1,WA,slotsL,opdsA,Nat.reduceEqDiff,Nat.reduceLT,Nat.reduceAdd,Nat.reduceBEq,Int.reduceAdd,Int.reduceSub,Int.reduceLT,Int.reduceLE,Int.reduceEq,Int.reduceNeg,↓reduceIte,reduceCtorEq,List.replicate]
   exact weak_flat rfl h0 rfl
  cases b
  ·simp (disch:=first|omega|assumption|exact bd (by with_unfolding_all rfl)|exact Or.inl rfl|exact Or.inl trivial|exact okL_map _ (fun _=>rfl) _|(simp only[VVlen]<;>omega)|fail) only[O1,WA,slotsL,opdsA,Nat.reduceEqDiff,Nat.reduceLT,Nat.reduceAdd,Nat.reduceBEq,Int.reduceAdd,Int.reduceSub,Int.reduceLT,Int.reduceLE,Int.reduceEq,Int.reduceNeg,↓reduceIte,reduceCtorEq,List.replicate,c19]
   all_goals try (exfalso;omega)
   refine callV_flat (by rw[hC];exact w1.flat rfl rfl) ?_
   simp (disch:=first|omega|assumption|exact bd (by with_unfolding_all rfl)|exact Or.inl rfl|exact Or.inl trivial|exact okL_map _ (fun _=>rfl) _|(simp only[VVlen]<;>omega)|fail) only[O1,WA,slotsL,opdsA,Nat.reduceEqDiff,Nat.reduceLT,Nat.reduceAdd,Nat.reduceBEq,Int.reduceAdd,Int.reduceSub,Int.reduceLT,Int.reduceLE,Int.reduceEq,Int.reduceNeg,↓reduceIte,reduceCtorEq,List.replicate]
   refine callV_flat (by rw[hC];exact w2.flat rfl rfl) ?_
   simp (disch:=first|omega|assumption|exact bd (by with_unfolding_all rfl)|exact Or.inl rfl|exact Or.inl trivial|exact okL_map _ (fun _=>rfl) _|(simp only[VVlen]<;>omega)|fail) only[O1,WA,slotsL,opdsA,Nat.reduceEqDiff,Nat.reduceLT,Nat.reduceAdd,Nat.reduceBEq,Int.reduceAdd,Int.reduceSub,Int.reduceLT,Int.reduceLE,Int.reduceEq,Int.reduceNeg,↓reduceIte,reduceCtorEq,List.replicate]
   exact weak_flat rfl h0 rfl
  have hb2:0≤p∨¬ M.length=N.length:=by simpa using hbad
  simp (disch:=first|omega|assumption|exact bd (by with_unfolding_all rfl)|exact Or.inl rfl|exact Or.inl trivial|exact okL_map _ (fun _=>rfl) _|(simp only[VVlen]<;>omega)|fail) only[O1,WA,slotsL,opdsA,Nat.reduceEqDiff,Nat.reduceLT,Nat.reduceAdd,Nat.reduceBEq,Int.reduceAdd,Int.reduceSub,Int.reduceLT,Int.reduceLE,Int.reduceEq,Int.reduceNeg,↓reduceIte,reduceCtorEq,List.replicate,c19]
  all_goals try (exfalso;omega)
  refine callV_flat (by rw[hC];exact w1.flat rfl rfl) ?_
  simp (disch:=first|omega|assumption|exact bd (by with_unfolding_all rfl)|exact Or.inl rfl|exact Or.inl trivial|exact okL_map _ (fun _=>rfl) _|(simp only[VVlen]<;>omega)|fail) only[O1,WA,slotsL,opdsA,Nat.reduceEqDiff,Nat.reduceLT,Nat.reduceAdd,Nat.reduceBEq,Int.reduceAdd,Int.reduceSub,Int.reduceLT,Int.reduceLE,Int.reduceEq,Int.reduceNeg,↓reduceIte,reduceCtorEq,List.replicate]
  refine callV_flat (by rw[hC];exact w2.flat rfl rfl) ?_
  simp (disch:=first|omega|assumption|exact bd (by with_unfolding_all rfl)|exact Or.inl rfl|exact Or.inl trivial|exact okL_map _ (fun _=>rfl) _|(simp only[VVlen]<;>omega)|fail) only[O1,WA,slotsL,opdsA,Nat.reduceEqDiff,Nat.reduceLT,Nat.reduceAdd,Nat.reduceBEq,Int.reduceAdd,Int.reduceSub,Int.reduceLT,Int.reduceLE,Int.reduceEq,Int.reduceNeg,↓reduceIte,reduceCtorEq,List.replicate]
  refine callV_flat (by rw[hC];exact ix.flat rfl rfl) ?_
  repeat' (first|(simp (disch:=first|omega|assumption|exact bd (by with_unfolding_all rfl)|exact Or.inl rfl|exact Or.inl trivial|exact okL_map _ (fun _=>rfl) _|(simp only[VVlen]<;>omega)|fail) only[O1,WA,slotsL,opdsA,Nat.reduceEqDiff,Nat.reduceLT,Nat.reduceAdd,Nat.reduceBEq,Int.reduceAdd,Int.reduceSub,Int.reduceLT,Int.reduceLE,Int.reduceEq,Int.reduceNeg,↓reduceIte,reduceCtorEq,List.replicate])|apply gC_drawW|((first|apply gI_dec|apply gG_dec|apply gPG_dec|apply gI_var|apply gG_var|apply gPG_var)<;>intro _))
  all_goals try (exfalso;omega)
  all_goals exact weak_flat rfl h0 rfl
 have g3:wordsS S=true:=Decidable.byContradiction fun h=>hbad (.inl h)
 have g4:wordsS N=true:=Decidable.byContradiction fun h=>hbad (.inr (.inl h))
 have g5:¬ 0≤placeG N sizeL N.length:=fun h=>hbad (.inr (.inr (.inl h)))
 have g6:M.length=N.length:=Decidable.byContradiction fun h=>hbad (.inr (.inr (.inr h)))
 have echk:checkS S N M=if ∀ k,k<M.length→rowS M[k]! S.length=true then (if twiceS S=true∨twiceS N=true then 14 else 0) else 8:=by unfold checkS;rw[if_neg h1,if_neg hbad]
 rw[echk]
 rw[g3] at w1
 rw[g4] at w2
 clear hbad echk g3 g4
 generalize placeG N sizeL N.length=p at*
 generalize twiceS S=c at*
 generalize twiceS N=d at*
 simp (disch:=first|omega|assumption|exact bd (by with_unfolding_all rfl)|exact Or.inl rfl|exact Or.inl trivial|exact okL_map _ (fun _=>rfl) _|(simp only[VVlen]<;>omega)|fail) only[O1,WA,slotsL,opdsA,Nat.reduceEqDiff,Nat.reduceLT,Nat.reduceAdd,Nat.reduceBEq,Int.reduceAdd,Int.reduceSub,Int.reduceLT,Int.reduceLE,Int.reduceEq,Int.reduceNeg,↓reduceIte,reduceCtorEq,List.replicate,c19]
 all_goals try (exfalso;omega)
 refine callV_flat (by rw[hC];exact w1.flat rfl rfl) ?_
 simp (disch:=first|omega|assumption|exact bd (by with_unfolding_all rfl)|exact Or.inl rfl|exact Or.inl trivial|exact okL_map _ (fun _=>rfl) _|(simp only[VVlen]<;>omega)|fail) only[O1,WA,slotsL,opdsA,Nat.reduceEqDiff,Nat.reduceLT,Nat.reduceAdd,Nat.reduceBEq,Int.reduceAdd,Int.reduceSub,Int.reduceLT,Int.reduceLE,Int.reduceEq,Int.reduceNeg,↓reduceIte,reduceCtorEq,List.replicate]
 refine callV_flat (by rw[hC];exact w2.flat rfl rfl) ?_
 simp (disch:=first|omega|assumption|exact bd (by with_unfolding_all rfl)|exact Or.inl rfl|exact Or.inl trivial|exact okL_map _ (fun _=>rfl) _|(simp only[VVlen]<;>omega)|fail) only[O1,WA,slotsL,opdsA,Nat.reduceEqDiff,Nat.reduceLT,Nat.reduceAdd,Nat.reduceBEq,Int.reduceAdd,Int.reduceSub,Int.reduceLT,Int.reduceLE,Int.reduceEq,Int.reduceNeg,↓reduceIte,reduceCtorEq,List.replicate]
 refine callV_flat (by rw[hC];exact ix.flat rfl rfl) ?_
 simp (disch:=first|omega|assumption|exact bd (by with_unfolding_all rfl)|exact Or.inl rfl|exact Or.inl trivial|exact okL_map _ (fun _=>rfl) _|(simp only[VVlen]<;>omega)|fail) only[O1,WA,slotsL,opdsA,Nat.reduceEqDiff,Nat.reduceLT,Nat.reduceAdd,Nat.reduceBEq,Int.reduceAdd,Int.reduceSub,Int.reduceLT,Int.reduceLE,Int.reduceEq,Int.reduceNeg,↓reduceIte,reduceCtorEq,List.replicate]
 all_goals try (exfalso;omega)
 refine g_while (fun m fr st=>∃ k:Nat,m=M.length - k∧k≤M.length∧fr= [(1,.ptr 0 0),(4,.sc (.bool c)),(6,.sc (.bool d)),(56,rowsV u r M),(57,.sc (.int .i64 M.length)),(58,.sc (.int .i64 k))]∧st=⟨[(0,tabO s t u r S N M)],1,0⟩∧∀ j,j<k→rowS M[j]! S.length=true) M.length ?_ ⟨_,_,.refl _ _,0,by omega,Nat.zero_le _,rfl,rfl,by omega⟩ ?_
 ·rw[hC,callP_rounds];unfold many;omega
 rintro m fr st ⟨k,rfl,hk,rfl,rfl,hj⟩
 by_cases hlt:k<M.length
 case neg=>
  have:k=M.length:=by omega
  subst this
  rw[if_pos hj]
  cases c<;>cases d
  all_goals
   repeat' (first|(simp (disch:=first|omega|assumption|exact bd (by with_unfolding_all rfl)|exact Or.inl rfl|exact Or.inl trivial|exact okL_map _ (fun _=>rfl) _|(simp only[VVlen]<;>omega)|fail) only[O1,WA,slotsL,opdsA,Nat.reduceEqDiff,Nat.reduceLT,Nat.reduceAdd,Nat.reduceBEq,Int.reduceAdd,Int.reduceSub,Int.reduceLT,Int.reduceLE,Int.reduceEq,Int.reduceNeg,↓reduceIte,reduceCtorEq,List.replicate,c19l1])|apply gC_drawW|((first|apply gI_dec|apply gG_dec|apply gPG_dec|apply gI_var|apply gG_var|apply gPG_var)<;>intro _))
   exact weak_flat rfl h0 rfl
 have hgo:=fun h=>lt_succ_cases hj (k:=k) h
 have hrow:rowS M[k]! S.length=true↔M[k]!.length=S.length∧rowTo M[k]! M[k]!.length:=by simp[rowS,rowTo]
 have fail:¬ rowS M[k]! S.length=true→(if ∀ k,k<M.length→rowS M[k]! S.length=true then (if c=true∨d=true then (14:Int) else 0) else 8)=8:=fun hw=>if_neg fun hh=>hw (hh k hlt)
 have hzl:=m6 k hlt
 by_cases hn:M[k]!.length=S.length
 case neg=>
  rw[fail (fun h=>hn (hrow.1 h).1)]
  generalize hX:M[k]! =X at*
  simp (disch:=first|omega|assumption|exact bd (by with_unfolding_all rfl)|exact Or.inl rfl|exact Or.inl trivial|exact okL_map _ (fun _=>rfl) _|(simp only[VVlen]<;>omega)|fail) only[O1,WA,slotsL,opdsA,Nat.reduceEqDiff,Nat.reduceLT,Nat.reduceAdd,Nat.reduceBEq,Int.reduceAdd,Int.reduceSub,Int.reduceLT,Int.reduceLE,Int.reduceEq,Int.reduceNeg,↓reduceIte,reduceCtorEq,List.replicate,c19l1,rowI_dv,hX]
  all_goals try (exfalso;omega)
  exact weak_flat rfl h0 rfl
 generalize hX:M[k]! =X at*
 simp (disch:=first|omega|assumption|exact bd (by with_unfolding_all rfl)|exact Or.inl rfl|exact Or.inl trivial|exact okL_map _ (fun _=>rfl) _|(simp only[VVlen]<;>omega)|fail) only[O1,WA,slotsL,opdsA,Nat.reduceEqDiff,Nat.reduceLT,Nat.reduceAdd,Nat.reduceBEq,Int.reduceAdd,Int.reduceSub,Int.reduceLT,Int.reduceLE,Int.reduceEq,Int.reduceNeg,↓reduceIte,reduceCtorEq,List.replicate,c19l1,rowI_dv,hX]
 all_goals try (exfalso;omega)
 refine g_while (fun m fr st=>∃ (i:Nat) (last:Int),m=X.length - i∧i≤X.length∧fr= [(1,.ptr 0 0),(4,.sc (.bool c)),(6,.sc (.bool d)),(9,.sc (.int .i64 last)),(56,rowsV u r M),(57,.sc (.int .i64 M.length)),(58,.sc (.int .i64 k)),(68,intsV r X),(69,.sc (.int .i64 X.length)),(70,.sc (.int .i64 i))]∧st=⟨[(0,tabO s t u r S N M)],1,0⟩∧rowTo X i∧last=if i=0 then 0 else X[i - 1]!) X.length ?_ ⟨_,_,.refl _ _,0,0,by omega,Nat.zero_le _,rfl,rfl,fun j hj=>absurd hj (Nat.not_lt_zero _),rfl⟩ ?_
 ·rw[hC,callP_rounds];unfold many;omega
 rintro m fr st ⟨i,last,rfl,hi,rfl,rfl,hrt,hla⟩
 by_cases hil:i<X.length
 ·have hlast:last=if i=0 then 0 else X[i - 1]! :=hla
  have hnx:X[i]! =if i+1=0 then 0 else X[i+1 - 1]! :=by rw[if_neg (by omega)];rfl
  by_cases hok:last≤X[i]! ∧X[i]! ≤1000000
  ·obtain ⟨ha,hb⟩:=hok
   have hrt2:rowTo X (i+1):=lt_succ_cases hrt ⟨by
    by_cases h0:i=0
    ·rw[if_pos h0] at hlast;omega
    ·rw[if_neg h0] at hlast
     have:=(hrt (i - 1) (by omega)).1
     omega,hb,fun h0=>by rw[if_neg (by omega)] at hlast;omega⟩
   clear hla
   generalize hY:X[i]! =Y at*
   simp (disch:=first|omega|assumption|exact bd (by with_unfolding_all rfl)|exact Or.inl rfl|exact Or.inl trivial|exact okL_map _ (fun _=>rfl) _|(simp only[VVlen]<;>omega)|fail) only[O1,WA,slotsL,opdsA,Nat.reduceEqDiff,Nat.reduceLT,Nat.reduceAdd,Nat.reduceBEq,Int.reduceAdd,Int.reduceSub,Int.reduceLT,Int.reduceLE,Int.reduceEq,Int.reduceNeg,↓reduceIte,reduceCtorEq,List.replicate,c19l0,iD_dv,hY]
   all_goals try (exfalso;omega)
   exact ⟨_,_,_,by omega,.refl _ _,i+1,Y,rfl,hil,rfl,rfl,hrt2,hnx⟩
  ·have hbad8:¬ rowS X S.length=true:=fun hh=>by
    have:=(hrow.1 hh).2 i hil
    apply hok
    by_cases h0:i=0
    ·rw[if_pos h0] at hlast;omega
    ·rw[if_neg h0] at hlast;have:=this.2.2 (by omega);omega
   rw[fail hbad8]
   generalize hY:X[i]! =Y at*
   by_cases ha:Y<last
   ·simp (disch:=first|omega|assumption|exact bd (by with_unfolding_all rfl)|exact Or.inl rfl|exact Or.inl trivial|exact okL_map _ (fun _=>rfl) _|(simp only[VVlen]<;>omega)|fail) only[O1,WA,slotsL,opdsA,Nat.reduceEqDiff,Nat.reduceLT,Nat.reduceAdd,Nat.reduceBEq,Int.reduceAdd,Int.reduceSub,Int.reduceLT,Int.reduceLE,Int.reduceEq,Int.reduceNeg,↓reduceIte,reduceCtorEq,List.replicate,c19l0,iD_dv,hY]
    all_goals try (exfalso;omega)
    all_goals exact weak_flat rfl h0 rfl
   ·have hb:1000000<Y:=by omega
    simp (disch:=first|omega|assumption|exact bd (by with_unfolding_all rfl)|exact Or.inl rfl|exact Or.inl trivial|exact okL_map _ (fun _=>rfl) _|(simp only[VVlen]<;>omega)|fail) only[O1,WA,slotsL,opdsA,Nat.reduceEqDiff,Nat.reduceLT,Nat.reduceAdd,Nat.reduceBEq,Int.reduceAdd,Int.reduceSub,Int.reduceLT,Int.reduceLE,Int.reduceEq,Int.reduceNeg,↓reduceIte,reduceCtorEq,List.replicate,c19l0,iD_dv,hY]
    all_goals try (exfalso;omega)
    all_goals exact weak_flat rfl h0 rfl
 ·have:i=X.length:=by omega
  subst this
  simp (disch:=first|omega|assumption|exact bd (by with_unfolding_all rfl)|exact Or.inl rfl|exact Or.inl trivial|exact okL_map _ (fun _=>rfl) _|(simp only[VVlen]<;>omega)|fail) only[O1,WA,slotsL,opdsA,Nat.reduceEqDiff,Nat.reduceLT,Nat.reduceAdd,Nat.reduceBEq,Int.reduceAdd,Int.reduceSub,Int.reduceLT,Int.reduceLE,Int.reduceEq,Int.reduceNeg,↓reduceIte,reduceCtorEq,List.replicate,c19l0,iD_dv]
  exact ⟨_,_,_,by omega,.refl _ _,k+1,rfl,hlt,rfl,rfl,hgo (hrow.2 ⟨hn,hrt⟩)⟩
theorem rcheck_p (s t u r:Nat) (S N:List (List UInt8)) (M:List (List Int)) (hm:Mod S N M):VSpec (EN w (n+3)) 16 [tableV s t u r S N M] (.sc (.int .i64 (checkS S N M))) ⟨[],0,0⟩:=by
 refine vspec_flat rfl rfl (fun _ _=>rfl) (Nat.le_of_ble_eq_true rfl) (oldVals w) rfl fun C hC h0=>?_
 obtain ⟨m1,m2,m3,m4,m5,m6⟩:=hm
 by_cases h1:20<S.length∨30<N.length
 ·have e:checkS S N M=4:=if_pos h1
  rw[e]
  repeat' (first|(simp (disch:=first|omega|assumption|exact bd (by with_unfolding_all rfl)|exact Or.inl rfl|exact Or.inl trivial|exact okL_map _ (fun _=>rfl) _|(simp only[VVlen]<;>omega)|fail) only[O1,WA,slotsL,opdsA,Nat.reduceEqDiff,Nat.reduceLT,Nat.reduceAdd,Nat.reduceBEq,Int.reduceAdd,Int.reduceSub,Int.reduceLT,Int.reduceLE,Int.reduceEq,Int.reduceNeg,↓reduceIte,reduceCtorEq,List.replicate,c16])|apply gC_drawW|((first|apply gI_dec|apply gG_dec|apply gPG_dec|apply gI_var|apply gG_var|apply gPG_var)<;>intro _))
  all_goals try (exfalso;omega)
  all_goals exact weak_flat rfl h0 rfl
 have w1:=rwords_p w n s S m1 m4
 have w2:=rwords_p w n t N m2 m5
 have ix:=rindex_p w (n+1) t N sizeL m2
 by_cases hbad:(¬ wordsS S=true∨¬ wordsS N=true∨0≤placeG N sizeL N.length∨¬ M.length=N.length)
 ·have e:checkS S N M=8:=by unfold checkS;rw[if_neg h1,if_pos hbad]
  rw[e]
  generalize wordsS S=a at*
  generalize wordsS N=b at*
  generalize placeG N sizeL N.length=p at*
  cases a
  ·simp (disch:=first|omega|assumption|exact bd (by with_unfolding_all rfl)|exact Or.inl rfl|exact Or.inl trivial|exact okL_map _ (fun _=>rfl) _|(simp only[VVlen]<;>omega)|fail) only[O1,WA,slotsL,opdsA,Nat.reduceEqDiff,Nat.reduceLT,Nat.reduceAdd,Nat.reduceBEq,Int.reduceAdd,Int.reduceSub,Int.reduceLT,Int.reduceLE,Int.reduceEq,Int.reduceNeg,↓reduceIte,reduceCtorEq,List.replicate,c16]
   all_goals try (exfalso;omega)
   refine callV_flat (by rw[hC];exact w1.flat rfl rfl) ?_
   simp (disch:=first|omega|assumption|exact bd (by with_unfolding_all rfl)|exact Or.inl rfl|exact Or.inl trivial|exact okL_map _ (fun _=>rfl) _|(simp only[VVlen]<;>omega)|fail) only[O1,WA,slotsL,opdsA,Nat.reduceEqDiff,Nat.reduceLT,Nat.reduceAdd,Nat.reduceBEq,Int.reduceAdd,Int.reduceSub,Int.reduceLT,Int.reduceLE,Int.reduceEq,Int.reduceNeg,↓reduceIte,reduceCtorEq,List.replicate]
   exact weak_flat rfl h0 rfl
  cases b
  ·simp (disch:=first|omega|assumption|exact bd (by with_unfolding_all rfl)|exact Or.inl rfl|exact Or.inl trivial|exact okL_map _ (fun _=>rfl) _|(simp only[VVlen]<;>omega)|fail) only[O1,WA,slotsL,opdsA,Nat.reduceEqDiff,Nat.reduceLT,Nat.reduceAdd,Nat.reduceBEq,Int.reduceAdd,Int.reduceSub,Int.reduceLT,Int.reduceLE,Int.reduceEq,Int.reduceNeg,↓reduceIte,reduceCtorEq,List.replicate,c16]
   all_goals try (exfalso;omega)
   refine callV_flat (by rw[hC];exact w1.flat rfl rfl) ?_
   simp (disch:=first|omega|assumption|exact bd (by with_unfolding_all rfl)|exact Or.inl rfl|exact Or.inl trivial|exact okL_map _ (fun _=>rfl) _|(simp only[VVlen]<;>omega)|fail) only[O1,WA,slotsL,opdsA,Nat.reduceEqDiff,Nat.reduceLT,Nat.reduceAdd,Nat.reduceBEq,Int.reduceAdd,Int.reduceSub,Int.reduceLT,Int.reduceLE,Int.reduceEq,Int.reduceNeg,↓reduceIte,reduceCtorEq,List.replicate]
   refine callV_flat (by rw[hC];exact w2.flat rfl rfl) ?_
   simp (disch:=first|omega|assumption|exact bd (by with_unfolding_all rfl)|exact Or.inl rfl|exact Or.inl trivial|exact okL_map _ (fun _=>rfl) _|(simp only[VVlen]<;>omega)|fail) only[O1,WA,slotsL,opdsA,Nat.reduceEqDiff,Nat.reduceLT,Nat.reduceAdd,Nat.reduceBEq,Int.reduceAdd,Int.reduceSub,Int.reduceLT,Int.reduceLE,Int.reduceEq,Int.reduceNeg,↓reduceIte,reduceCtorEq,List.replicate]
   exact weak_flat rfl h0 rfl
  have hb2:0≤p∨¬ M.length=N.length:=by simpa using hbad
  simp (disch:=first|omega|assumption|exact bd (by with_unfolding_all rfl)|exact Or.inl rfl|exact Or.inl trivial|exact okL_map _ (fun _=>rfl) _|(simp only[VVlen]<;>omega)|fail) only[O1,WA,slotsL,opdsA,Nat.reduceEqDiff,Nat.reduceLT,Nat.reduceAdd,Nat.reduceBEq,Int.reduceAdd,Int.reduceSub,Int.reduceLT,Int.reduceLE,Int.reduceEq,Int.reduceNeg,↓reduceIte,reduceCtorEq,List.replicate,c16]
  all_goals try (exfalso;omega)
  refine callV_flat (by rw[hC];exact w1.flat rfl rfl) ?_
  simp (disch:=first|omega|assumption|exact bd (by with_unfolding_all rfl)|exact Or.inl rfl|exact Or.inl trivial|exact okL_map _ (fun _=>rfl) _|(simp only[VVlen]<;>omega)|fail) only[O1,WA,slotsL,opdsA,Nat.reduceEqDiff,Nat.reduceLT,Nat.reduceAdd,Nat.reduceBEq,Int.reduceAdd,Int.reduceSub,Int.reduceLT,Int.reduceLE,Int.reduceEq,Int.reduceNeg,↓reduceIte,reduceCtorEq,List.replicate]
  refine callV_flat (by rw[hC];exact w2.flat rfl rfl) ?_
  simp (disch:=first|omega|assumption|exact bd (by with_unfolding_all rfl)|exact Or.inl rfl|exact Or.inl trivial|exact okL_map _ (fun _=>rfl) _|(simp only[VVlen]<;>omega)|fail) only[O1,WA,slotsL,opdsA,Nat.reduceEqDiff,Nat.reduceLT,Nat.reduceAdd,Nat.reduceBEq,Int.reduceAdd,Int.reduceSub,Int.reduceLT,Int.reduceLE,Int.reduceEq,Int.reduceNeg,↓reduceIte,reduceCtorEq,List.replicate]
  refine callV_flat (by rw[hC];exact ix.flat rfl rfl) ?_
  repeat' (first|(simp (disch:=first|omega|assumption|exact bd (by with_unfolding_all rfl)|exact Or.inl rfl|exact Or.inl trivial|exact okL_map _ (fun _=>rfl) _|(simp only[VVlen]<;>omega)|fail) only[O1,WA,slotsL,opdsA,Nat.reduceEqDiff,Nat.reduceLT,Nat.reduceAdd,Nat.reduceBEq,Int.reduceAdd,Int.reduceSub,Int.reduceLT,Int.reduceLE,Int.reduceEq,Int.reduceNeg,↓reduceIte,reduceCtorEq,List.replicate])|apply gC_drawW|((first|apply gI_dec|apply gG_dec|apply gPG_dec|apply gI_var|apply gG_var|apply gPG_var)<;>intro _))
  all_goals try (exfalso;omega)
  all_goals exact weak_flat rfl h0 rfl
 have g3:wordsS S=true:=Decidable.byContradiction fun h=>hbad (.inl h)
 have g4:wordsS N=true:=Decidable.byContradiction fun h=>hbad (.inr (.inl h))
 have g5:¬ 0≤placeG N sizeL N.length:=fun h=>hbad (.inr (.inr (.inl h)))
 have g6:M.length=N.length:=Decidable.byContradiction fun h=>hbad (.inr (.inr (.inr h)))
 have echk:checkS S N M=if ∀ k,k<M.length→rowS M[k]! S.length=true then (if twiceS S=true∨twiceS N=true then 14 else 0) else 8:=by unfold checkS;rw[if_neg h1,if_neg hbad]
 rw[echk]
 rw[g3] at w1
 rw[g4] at w2
 have t1:=fun st=>(twice_p w n s S m1).of hC rfl st rfl
 have t2:=fun st=>(twice_p w n t N m2).of hC rfl st rfl
 clear hbad echk g3 g4
 generalize placeG N sizeL N.length=p at*
 generalize twiceS S=c at*
 generalize twiceS N=d at*
 simp (disch:=first|omega|assumption|exact bd (by with_unfolding_all rfl)|exact Or.inl rfl|exact Or.inl trivial|exact okL_map _ (fun _=>rfl) _|(simp only[VVlen]<;>omega)|fail) only[O1,WA,slotsL,opdsA,Nat.reduceEqDiff,Nat.reduceLT,Nat.reduceAdd,Nat.reduceBEq,Int.reduceAdd,Int.reduceSub,Int.reduceLT,Int.reduceLE,Int.reduceEq,Int.reduceNeg,↓reduceIte,reduceCtorEq,List.replicate,c16]
 all_goals try (exfalso;omega)
 refine callV_flat (by rw[hC];exact w1.flat rfl rfl) ?_
 simp (disch:=first|omega|assumption|exact bd (by with_unfolding_all rfl)|exact Or.inl rfl|exact Or.inl trivial|exact okL_map _ (fun _=>rfl) _|(simp only[VVlen]<;>omega)|fail) only[O1,WA,slotsL,opdsA,Nat.reduceEqDiff,Nat.reduceLT,Nat.reduceAdd,Nat.reduceBEq,Int.reduceAdd,Int.reduceSub,Int.reduceLT,Int.reduceLE,Int.reduceEq,Int.reduceNeg,↓reduceIte,reduceCtorEq,List.replicate]
 refine callV_flat (by rw[hC];exact w2.flat rfl rfl) ?_
 simp (disch:=first|omega|assumption|exact bd (by with_unfolding_all rfl)|exact Or.inl rfl|exact Or.inl trivial|exact okL_map _ (fun _=>rfl) _|(simp only[VVlen]<;>omega)|fail) only[O1,WA,slotsL,opdsA,Nat.reduceEqDiff,Nat.reduceLT,Nat.reduceAdd,Nat.reduceBEq,Int.reduceAdd,Int.reduceSub,Int.reduceLT,Int.reduceLE,Int.reduceEq,Int.reduceNeg,↓reduceIte,reduceCtorEq,List.replicate]
 refine callV_flat (by rw[hC];exact ix.flat rfl rfl) ?_
 simp (disch:=first|omega|assumption|exact bd (by with_unfolding_all rfl)|exact Or.inl rfl|exact Or.inl trivial|exact okL_map _ (fun _=>rfl) _|(simp only[VVlen]<;>omega)|fail) only[O1,WA,slotsL,opdsA,Nat.reduceEqDiff,Nat.reduceLT,Nat.reduceAdd,Nat.reduceBEq,Int.reduceAdd,Int.reduceSub,Int.reduceLT,Int.reduceLE,Int.reduceEq,Int.reduceNeg,↓reduceIte,reduceCtorEq,List.replicate]
 all_goals try (exfalso;omega)
 refine g_while (fun m fr st=>∃ k:Nat,m=M.length - k∧k≤M.length∧fr= [(1,.ptr 0 0),(3,.sc (.int .i64 k))]∧st=⟨[(0,tabO s t u r S N M)],1,0⟩∧∀ j,j<k→rowS M[j]! S.length=true) M.length ?_ ⟨_,_,.refl _ _,0,by omega,Nat.zero_le _,rfl,rfl,by omega⟩ ?_
 ·rw[hC,callP_rounds];unfold many;omega
 rintro m fr st ⟨k,rfl,hk,rfl,rfl,hj⟩
 by_cases hlt:k<M.length
 case neg=>
  have:k=M.length:=by omega
  subst this
  rw[if_pos hj]
  cases c
  ·simp (disch:=first|omega|assumption|exact bd (by with_unfolding_all rfl)|exact Or.inl rfl|exact Or.inl trivial|exact okL_map _ (fun _=>rfl) _|(simp only[VVlen]<;>omega)|fail) only[O1,WA,slotsL,opdsA,Nat.reduceEqDiff,Nat.reduceLT,Nat.reduceAdd,Nat.reduceBEq,Int.reduceAdd,Int.reduceSub,Int.reduceLT,Int.reduceLE,Int.reduceEq,Int.reduceNeg,↓reduceIte,reduceCtorEq,List.replicate,c16l0]
   refine callV_flat (t1 _) ?_
   simp (disch:=first|omega|assumption|exact bd (by with_unfolding_all rfl)|exact Or.inl rfl|exact Or.inl trivial|exact okL_map _ (fun _=>rfl) _|(simp only[VVlen]<;>omega)|fail) only[O1,WA,slotsL,opdsA,Nat.reduceEqDiff,Nat.reduceLT,Nat.reduceAdd,Nat.reduceBEq,Int.reduceAdd,Int.reduceSub,Int.reduceLT,Int.reduceLE,Int.reduceEq,Int.reduceNeg,↓reduceIte,reduceCtorEq,List.replicate]
   refine callV_flat (t2 _) ?_
   cases d
   all_goals
    repeat' (first|(simp (disch:=first|omega|assumption|exact bd (by with_unfolding_all rfl)|exact Or.inl rfl|exact Or.inl trivial|exact okL_map _ (fun _=>rfl) _|(simp only[VVlen]<;>omega)|fail) only[O1,WA,slotsL,opdsA,Nat.reduceEqDiff,Nat.reduceLT,Nat.reduceAdd,Nat.reduceBEq,Int.reduceAdd,Int.reduceSub,Int.reduceLT,Int.reduceLE,Int.reduceEq,Int.reduceNeg,↓reduceIte,reduceCtorEq,List.replicate])|apply gC_drawW|((first|apply gI_dec|apply gG_dec|apply gPG_dec|apply gI_var|apply gG_var|apply gPG_var)<;>intro _))
    exact weak_flat rfl h0 rfl
  ·simp (disch:=first|omega|assumption|exact bd (by with_unfolding_all rfl)|exact Or.inl rfl|exact Or.inl trivial|exact okL_map _ (fun _=>rfl) _|(simp only[VVlen]<;>omega)|fail) only[O1,WA,slotsL,opdsA,Nat.reduceEqDiff,Nat.reduceLT,Nat.reduceAdd,Nat.reduceBEq,Int.reduceAdd,Int.reduceSub,Int.reduceLT,Int.reduceLE,Int.reduceEq,Int.reduceNeg,↓reduceIte,reduceCtorEq,List.replicate,c16l0]
   refine callV_flat (t1 _) ?_
   simp (disch:=first|omega|assumption|exact bd (by with_unfolding_all rfl)|exact Or.inl rfl|exact Or.inl trivial|exact okL_map _ (fun _=>rfl) _|(simp only[VVlen]<;>omega)|fail) only[O1,WA,slotsL,opdsA,Nat.reduceEqDiff,Nat.reduceLT,Nat.reduceAdd,Nat.reduceBEq,Int.reduceAdd,Int.reduceSub,Int.reduceLT,Int.reduceLE,Int.reduceEq,Int.reduceNeg,↓reduceIte,reduceCtorEq,List.replicate]
   exact weak_flat rfl h0 rfl
 have hgo:=fun h=>lt_succ_cases hj (k:=k) h
 have hzl:=m6 k hlt
 have hrw:=fun st=>(row_p w (n+1) r M[k]! hzl S.length m1).of hC rfl st rfl
 cases hw:rowS M[k]! S.length with
 |false=>
  rw[if_neg fun hh=>by rw[hh k hlt] at hw;cases hw]
  rw[hw] at hrw
  generalize hX:M[k]! =X at*
  simp (disch:=first|omega|assumption|exact bd (by with_unfolding_all rfl)|exact Or.inl rfl|exact Or.inl trivial|exact okL_map _ (fun _=>rfl) _|(simp only[VVlen]<;>omega)|fail) only[O1,WA,slotsL,opdsA,Nat.reduceEqDiff,Nat.reduceLT,Nat.reduceAdd,Nat.reduceBEq,Int.reduceAdd,Int.reduceSub,Int.reduceLT,Int.reduceLE,Int.reduceEq,Int.reduceNeg,↓reduceIte,reduceCtorEq,List.replicate,c16l0,rowI_dv,hX]
  refine callV_flat (hrw _) ?_
  simp (disch:=first|omega|assumption|exact bd (by with_unfolding_all rfl)|exact Or.inl rfl|exact Or.inl trivial|exact okL_map _ (fun _=>rfl) _|(simp only[VVlen]<;>omega)|fail) only[O1,WA,slotsL,opdsA,Nat.reduceEqDiff,Nat.reduceLT,Nat.reduceAdd,Nat.reduceBEq,Int.reduceAdd,Int.reduceSub,Int.reduceLT,Int.reduceLE,Int.reduceEq,Int.reduceNeg,↓reduceIte,reduceCtorEq,List.replicate]
  exact weak_flat rfl h0 rfl
 |true=>
  have hgo2:=hgo hw
  rw[hw] at hrw
  generalize hX:M[k]! =X at*
  simp (disch:=first|omega|assumption|exact bd (by with_unfolding_all rfl)|exact Or.inl rfl|exact Or.inl trivial|exact okL_map _ (fun _=>rfl) _|(simp only[VVlen]<;>omega)|fail) only[O1,WA,slotsL,opdsA,Nat.reduceEqDiff,Nat.reduceLT,Nat.reduceAdd,Nat.reduceBEq,Int.reduceAdd,Int.reduceSub,Int.reduceLT,Int.reduceLE,Int.reduceEq,Int.reduceNeg,↓reduceIte,reduceCtorEq,List.replicate,c16l0,rowI_dv,hX]
  refine callV_flat (hrw _) ?_
  simp (disch:=first|omega|assumption|exact bd (by with_unfolding_all rfl)|exact Or.inl rfl|exact Or.inl trivial|exact okL_map _ (fun _=>rfl) _|(simp only[VVlen]<;>omega)|fail) only[O1,WA,slotsL,opdsA,Nat.reduceEqDiff,Nat.reduceLT,Nat.reduceAdd,Nat.reduceBEq,Int.reduceAdd,Int.reduceSub,Int.reduceLT,Int.reduceLE,Int.reduceEq,Int.reduceNeg,↓reduceIte,reduceCtorEq,List.replicate]
  exact ⟨_,_,_,by omega,.refl _ _,k+1,rfl,hlt,rfl,rfl,hgo2⟩
end
end Go.Proofs.YteibgbbfcjgjiaaDoor
namespace Go.Proofs.YteibgbbfcjgjiaaDoor
open Go Go.Itp
set_option maxRecDepth 100000
set_option maxHeartbeats 2000000
set_option linter.unusedSimpArgs false
set_option linter.unusedVariables false
def greatS (S N:List (List UInt8)) (M:List (List Int)):Bool:=
 decide (30<S.length∨40<N.length∨40<M.length∨(∃ j,j<S.length∧60<S[j]!.length)∨(∃ j,j<N.length∧60<N[j]!.length)∨∃ j,j<M.length∧40<M[j]!.length)
section
variable (w:World) (n:Nat)
theorem great_p (s t u r:Nat) (S N:List (List UInt8)) (M:List (List Int)) (hm:S.length≤140737488351232∧N.length≤140737488351232∧M.length≤140737488351232) (zs:∀ j,j<S.length→S[j]!.length≤140737488351232) (zn:∀ j,j<N.length→N[j]!.length≤140737488351232) (zm:∀ j,j<M.length→M[j]!.length≤140737488351232):VSpec (EN w (n+1)) 9 [tableV s t u r S N M] (.sc (.bool (greatS S N M))) ⟨[],0,0⟩:=by
 refine vspec_flat rfl rfl (fun _ _=>rfl) (Nat.le_of_ble_eq_true rfl) (oldVals w) rfl fun C hC h0=>?_
 have yes:(30<S.length∨40<N.length∨40<M.length∨(∃ j,j<S.length∧60<S[j]!.length)∨(∃ j,j<N.length∧60<N[j]!.length)∨∃ j,j<M.length∧40<M[j]!.length)→greatS S N M=true:=fun h=>decide_eq_true h
 by_cases h1:30<S.length∨40<N.length∨40<M.length
 ·rw[yes (by omega)]
  repeat' (first|(simp (disch:=first|omega|assumption|exact bd (by with_unfolding_all rfl)|exact Or.inl rfl|exact Or.inl trivial|exact okL_map _ (fun _=>rfl) _|(simp only[VVlen]<;>omega)|fail) only[O1,WA,slotsL,opdsA,Nat.reduceEqDiff,Nat.reduceLT,Nat.reduceAdd,Nat.reduceBEq,Int.reduceAdd,Int.reduceSub,Int.reduceLT,Int.reduceLE,Int.reduceEq,Int.reduceNeg,↓reduceIte,reduceCtorEq,List.replicate,c9])|apply gC_drawW|((first|apply gI_dec|apply gG_dec|apply gPG_dec|apply gI_var|apply gG_var|apply gPG_var)<;>intro _))
  all_goals try (exfalso;omega)
  all_goals exact weak_flat rfl h0 rfl
 simp (disch:=first|omega|assumption|exact bd (by with_unfolding_all rfl)|exact Or.inl rfl|exact Or.inl trivial|exact okL_map _ (fun _=>rfl) _|(simp only[VVlen]<;>omega)|fail) only[O1,WA,slotsL,opdsA,Nat.reduceEqDiff,Nat.reduceLT,Nat.reduceAdd,Nat.reduceBEq,Int.reduceAdd,Int.reduceSub,Int.reduceLT,Int.reduceLE,Int.reduceEq,Int.reduceNeg,↓reduceIte,reduceCtorEq,List.replicate,c9]
 all_goals try (exfalso;omega)
 refine g_while (fun m fr st=>∃ k:Nat,m=S.length - k∧k≤S.length∧fr= [(1,.ptr 0 0),(3,.sc (.int .i64 k))]∧st=⟨[(0,tabO s t u r S N M)],1,0⟩∧∀ j,j<k→¬ 60<S[j]!.length) S.length ?_ ⟨_,_,.refl _ _,0,by omega,Nat.zero_le _,rfl,rfl,by omega⟩ ?_
 ·rw[hC,callP_rounds];unfold many;omega
 rintro m fr st ⟨k,rfl,hk,rfl,rfl,hj⟩
 by_cases hlt:k<S.length
 ·have hz:=zs k hlt
  have hsz:=mk_size S[k]!
  by_cases hb:60<S[k]!.length
  ·rw[yes (.inr (.inr (.inr (.inl ⟨k,hlt,hb⟩))))]
   generalize hX:S[k]! =X at*
   simp (disch:=first|omega|assumption|exact bd (by with_unfolding_all rfl)|exact Or.inl rfl|exact Or.inl trivial|exact okL_map _ (fun _=>rfl) _|(simp only[VVlen]<;>omega)|fail) only[O1,WA,slotsL,opdsA,Nat.reduceEqDiff,Nat.reduceLT,Nat.reduceAdd,Nat.reduceBEq,Int.reduceAdd,Int.reduceSub,Int.reduceLT,Int.reduceLE,Int.reduceEq,Int.reduceNeg,↓reduceIte,reduceCtorEq,List.replicate,c9l2,sD_dv,hX]
   all_goals try (exfalso;omega)
   exact weak_flat rfl h0 rfl
  ·have hj:=lt_succ_cases hj hb
   generalize hX:S[k]! =X at*
   simp (disch:=first|omega|assumption|exact bd (by with_unfolding_all rfl)|exact Or.inl rfl|exact Or.inl trivial|exact okL_map _ (fun _=>rfl) _|(simp only[VVlen]<;>omega)|fail) only[O1,WA,slotsL,opdsA,Nat.reduceEqDiff,Nat.reduceLT,Nat.reduceAdd,Nat.reduceBEq,Int.reduceAdd,Int.reduceSub,Int.reduceLT,Int.reduceLE,Int.reduceEq,Int.reduceNeg,↓reduceIte,reduceCtorEq,List.replicate,c9l2,sD_dv,hX]
   all_goals try (exfalso;omega)
   exact ⟨_,_,_,by omega,.refl _ _,k+1,rfl,hlt,rfl,rfl,hj⟩
 have:k=S.length:=by omega
 subst this
 simp (disch:=first|omega|assumption|exact bd (by with_unfolding_all rfl)|exact Or.inl rfl|exact Or.inl trivial|exact okL_map _ (fun _=>rfl) _|(simp only[VVlen]<;>omega)|fail) only[O1,WA,slotsL,opdsA,Nat.reduceEqDiff,Nat.reduceLT,Nat.reduceAdd,Nat.reduceBEq,Int.reduceAdd,Int.reduceSub,Int.reduceLT,Int.reduceLE,Int.reduceEq,Int.reduceNeg,↓reduceIte,reduceCtorEq,List.replicate,c9l2]
 all_goals try (exfalso;omega)
 refine g_while (fun m fr st=>∃ k:Nat,m=N.length - k∧k≤N.length∧fr= [(1,.ptr 0 0),(4,.sc (.int .i64 k))]∧st=⟨[(0,tabO s t u r S N M)],1,0⟩∧∀ j,j<k→¬ 60<N[j]!.length) N.length ?_ ⟨_,_,.refl _ _,0,by omega,Nat.zero_le _,rfl,rfl,by omega⟩ ?_
 ·rw[hC,callP_rounds];unfold many;omega
 rintro m fr st ⟨k,rfl,hk,rfl,rfl,hj2⟩
 by_cases hlt:k<N.length
 ·have hz:=zn k hlt
  have hsz:=mk_size N[k]!
  by_cases hb:60<N[k]!.length
  ·rw[yes (.inr (.inr (.inr (.inr (.inl ⟨k,hlt,hb⟩)))))]
   generalize hX:N[k]! =X at*
   simp (disch:=first|omega|assumption|exact bd (by with_unfolding_all rfl)|exact Or.inl rfl|exact Or.inl trivial|exact okL_map _ (fun _=>rfl) _|(simp only[VVlen]<;>omega)|fail) only[O1,WA,slotsL,opdsA,Nat.reduceEqDiff,Nat.reduceLT,Nat.reduceAdd,Nat.reduceBEq,Int.reduceAdd,Int.reduceSub,Int.reduceLT,Int.reduceLE,Int.reduceEq,Int.reduceNeg,↓reduceIte,reduceCtorEq,List.replicate,c9l1,sD_dv,hX]
   all_goals try (exfalso;omega)
   exact weak_flat rfl h0 rfl
  ·have hj:=lt_succ_cases hj2 hb
   generalize hX:N[k]! =X at*
   simp (disch:=first|omega|assumption|exact bd (by with_unfolding_all rfl)|exact Or.inl rfl|exact Or.inl trivial|exact okL_map _ (fun _=>rfl) _|(simp only[VVlen]<;>omega)|fail) only[O1,WA,slotsL,opdsA,Nat.reduceEqDiff,Nat.reduceLT,Nat.reduceAdd,Nat.reduceBEq,Int.reduceAdd,Int.reduceSub,Int.reduceLT,Int.reduceLE,Int.reduceEq,Int.reduceNeg,↓reduceIte,reduceCtorEq,List.replicate,c9l1,sD_dv,hX]
   all_goals try (exfalso;omega)
   exact ⟨_,_,_,by omega,.refl _ _,k+1,rfl,hlt,rfl,rfl,hj⟩
 have:k=N.length:=by omega
 subst this
 simp (disch:=first|omega|assumption|exact bd (by with_unfolding_all rfl)|exact Or.inl rfl|exact Or.inl trivial|exact okL_map _ (fun _=>rfl) _|(simp only[VVlen]<;>omega)|fail) only[O1,WA,slotsL,opdsA,Nat.reduceEqDiff,Nat.reduceLT,Nat.reduceAdd,Nat.reduceBEq,Int.reduceAdd,Int.reduceSub,Int.reduceLT,Int.reduceLE,Int.reduceEq,Int.reduceNeg,↓reduceIte,reduceCtorEq,List.replicate,c9l1]
 all_goals try (exfalso;omega)
 refine g_while (fun m fr st=>∃ k:Nat,m=M.length - k∧k≤M.length∧fr= [(1,.ptr 0 0),(5,.sc (.int .i64 k))]∧st=⟨[(0,tabO s t u r S N M)],1,0⟩∧∀ j,j<k→¬ 40<M[j]!.length) M.length ?_ ⟨_,_,.refl _ _,0,by omega,Nat.zero_le _,rfl,rfl,by omega⟩ ?_
 ·rw[hC,callP_rounds];unfold many;omega
 rintro m fr st ⟨k,rfl,hk,rfl,rfl,hj3⟩
 by_cases hlt:k<M.length
 ·have hz:=zm k hlt
  by_cases hb:40<M[k]!.length
  ·rw[yes (.inr (.inr (.inr (.inr (.inr ⟨k,hlt,hb⟩)))))]
   generalize hX:M[k]! =X at*
   simp (disch:=first|omega|assumption|exact bd (by with_unfolding_all rfl)|exact Or.inl rfl|exact Or.inl trivial|exact okL_map _ (fun _=>rfl) _|(simp only[VVlen]<;>omega)|fail) only[O1,WA,slotsL,opdsA,Nat.reduceEqDiff,Nat.reduceLT,Nat.reduceAdd,Nat.reduceBEq,Int.reduceAdd,Int.reduceSub,Int.reduceLT,Int.reduceLE,Int.reduceEq,Int.reduceNeg,↓reduceIte,reduceCtorEq,List.replicate,c9l0,rowI_dv,hX]
   all_goals try (exfalso;omega)
   exact weak_flat rfl h0 rfl
  ·have hj:=lt_succ_cases hj3 hb
   generalize hX:M[k]! =X at*
   simp (disch:=first|omega|assumption|exact bd (by with_unfolding_all rfl)|exact Or.inl rfl|exact Or.inl trivial|exact okL_map _ (fun _=>rfl) _|(simp only[VVlen]<;>omega)|fail) only[O1,WA,slotsL,opdsA,Nat.reduceEqDiff,Nat.reduceLT,Nat.reduceAdd,Nat.reduceBEq,Int.reduceAdd,Int.reduceSub,Int.reduceLT,Int.reduceLE,Int.reduceEq,Int.reduceNeg,↓reduceIte,reduceCtorEq,List.replicate,c9l0,rowI_dv,hX]
   all_goals try (exfalso;omega)
   exact ⟨_,_,_,by omega,.refl _ _,k+1,rfl,hlt,rfl,rfl,hj⟩
 have:k=M.length:=by omega
 subst this
 have e:greatS S N M=false:=decide_eq_false (by
  rintro (h|h|h|⟨j,h,h'⟩|⟨j,h,h'⟩|⟨j,h,h'⟩)
  ·omega
  ·omega
  ·omega
  ·exact hj j h h'
  ·exact hj2 j h h'
  ·exact hj3 j h h')
 rw[e]
 simp (disch:=first|omega|assumption|exact bd (by with_unfolding_all rfl)|exact Or.inl rfl|exact Or.inl trivial|exact okL_map _ (fun _=>rfl) _|(simp only[VVlen]<;>omega)|fail) only[O1,WA,slotsL,opdsA,Nat.reduceEqDiff,Nat.reduceLT,Nat.reduceAdd,Nat.reduceBEq,Int.reduceAdd,Int.reduceSub,Int.reduceLT,Int.reduceLE,Int.reduceEq,Int.reduceNeg,↓reduceIte,reduceCtorEq,List.replicate,c9l0]
 all_goals try (exfalso;omega)
 exact weak_flat rfl h0 rfl
end
end Go.Proofs.YteibgbbfcjgjiaaDoor
namespace Go.Proofs.YteibgbbfcjgjiaaDoor
open Go Go.Itp
set_option maxRecDepth 100000
set_option linter.unusedSimpArgs false
set_option linter.unusedVariables false
abbrev Tb:=List (List UInt8) × List (List UInt8) × List (List Int)
def spT (l:List (List UInt8)):List UInt8:=(l.map (32::·)).flatten
def fed (ls:List (List UInt8)):List UInt8:=(ls.map (· ++ [10])).flatten
def headT (S:List (List UInt8)):List UInt8:=sizeL++spT S
def rowT (name:List UInt8) (l:List Int):List UInt8:=name++spT (l.map Lib.itoa)
def rowsT:List (List UInt8)→List (List Int)→List (List UInt8)
 |x::N,l::M=>rowT x l::rowsT N M
 |_,_=> []
def textT (t:Tb):List UInt8:=fed (headT t.1::rowsT t.2.1 t.2.2)
def textF (t:Tb):List UInt8 × Int:=if checkS t.1 t.2.1 t.2.2 ≠ 0 then ([],checkS t.1 t.2.1 t.2.2) else if 8000<(textT t).length then ([],4) else (textT t,0)
def numA (l:List UInt8):Option Int:=match Lib.atoiAll l with
 | .ok v=>some v
 |_=>none
theorem numA_ok {l:List UInt8} {v:Int} (h:numA l=some v):Lib.atoiAll l= .ok v:=by
 unfold numA at h
 split at h
 ·rename_i u hu;cases h;exact hu
 ·cases h
theorem numA_none {l:List UInt8} (h:numA l=none) (v:Int):Lib.atoiAll l ≠ .ok v:=by
 intro e
 unfold numA at h
 rw[e] at h
 cases h
def numR (l:List UInt8):Option Int:=if l ≠ []∧l.length≤7∧(1<l.length→l[0]! ≠ 48)∧l.all isDig=true then some (((Lib.decFrom 0 l).getD 0:Nat):Int) else none
def allN (f:List UInt8→Option Int):List (List UInt8)→Option (List Int)
 | []=>some []
 |x::r=>(f x).bind fun v=>(allN f r).map (v::·)
def rowL (f:List UInt8→Option Int):List (List UInt8)→Option (List (List UInt8) × List (List Int))
 | []=>some ([],[])
 |x::r=>(allN f (words 32 x).tail).bind fun l=>(rowL f r).map fun p=>((words 32 x)[0]! ::p.1,l::p.2)
def trimS (s:List UInt8):List UInt8:=if s.getLast? =some 10 then s.dropLast else s
def rawP (s:List UInt8):Option Tb:=(rowL numA (words 10 (trimS s)).tail).map fun p=>((words 32 (words 10 (trimS s))[0]!).tail,p.1,p.2)
def rawR (s:List UInt8):Option Tb:=if s.getLast? =some 10∧(words 32 (words 10 s.dropLast)[0]!)[0]! =sizeL then (rowL numR (words 10 s.dropLast).tail).map fun p=>((words 32 (words 10 s.dropLast)[0]!).tail,p.1,p.2) else none
def accF (raw:Option Tb) (s:List UInt8):Option Tb:=raw.bind fun t=>if s.length≤8000∧textF t=(s,0) then some t else none
theorem sp_join:∀ (x:List UInt8) (l:List (List UInt8)),x++spT l=join 32 (x::l)
 |x,[]=>by simp[spT,join]
 |x,y::l=>by
  rw[join,← sp_join y l]
  simp[spT]
theorem words_sp {x:List UInt8} {l:List (List UInt8)} (hx:(32:UInt8) ∉ x) (hl:∀ y ∈ l,(32:UInt8) ∉ y):words 32 (x++spT l)=x::l:=by
 rw[sp_join]
 exact words_join (by simp) fun y hy=>by
  rcases List.mem_cons.1 hy with rfl|hy
  ·exact hx
  ·exact hl y hy
theorem fed_join:∀ (ls:List (List UInt8)),ls ≠ []→fed ls=join 10 ls++ [10]
 | [],h=>absurd rfl h
 | [x],_=>by simp[fed,join]
 |x::y::ls,_=>by
  have:=fed_join (y::ls) (by simp)
  rw[join]
  simp only[fed,List.map_cons,List.flatten_cons,List.append_assoc,List.cons_append,List.nil_append] at this ⊢
  rw[this]
theorem words_fed {ls:List (List UInt8)} (hne:ls ≠ []) (hl:∀ x ∈ ls,(10:UInt8) ∉ x):words 10 (fed ls).dropLast=ls∧(fed ls).getLast? =some 10:=by
 rw[fed_join ls hne]
 exact ⟨by rw[List.dropLast_concat];exact words_join hne hl,by simp⟩
theorem wch_no {b:UInt8} (h:wch b=true):b ≠ 10∧b ≠ 32:=by
 constructor
 ·rintro rfl;revert h;decide
 ·rintro rfl;revert h;decide
theorem word_no {s:List UInt8} (h:wordS s=true):(10:UInt8) ∉ s∧(32:UInt8) ∉ s:=by
 have h2:=(of_decide_eq_true h).2.2
 have:∀ b ∈ s,wch b=true:=fun b hb=>by
  obtain ⟨i,hi,rfl⟩:=List.getElem_of_mem hb
  have:=h2 i hi
  rw[getElem!_pos s i hi] at this
  exact this
 exact ⟨fun hm=>(wch_no (this _ hm)).1 rfl,fun hm=>(wch_no (this _ hm)).2 rfl⟩
theorem itoa_no {v:Int} (h:0≤v):(10:UInt8) ∉ Lib.itoa v∧(32:UInt8) ∉ Lib.itoa v:=by
 constructor
 ·intro hm;have:=itoa_dig h _ hm;revert this;decide
 ·intro hm;have:=itoa_dig h _ hm;revert this;decide
theorem words_mem_of {l:List (List UInt8)} (h:wordsS l=true):∀ x ∈ l,wordS x=true:=fun x hx=>by
 obtain ⟨i,hi,rfl⟩:=List.getElem_of_mem hx
 have:=((wF_iff l l.length).1 h).2 i hi
 rw[getElem!_pos l i hi] at this
 exact this
theorem row_mem {l:List Int} {n:Nat} (h:rowS l n=true):∀ v ∈ l,0≤v∧v≤1000000:=fun v hv=>by
 obtain ⟨i,hi,rfl⟩:=List.getElem_of_mem hv
 have:=(of_decide_eq_true h).2 i hi
 rw[getElem!_pos l i hi] at this
 exact ⟨this.1,this.2.1⟩
structure Good (S N:List (List UInt8)) (M:List (List Int)):Prop where
 s:S.length≤20
 n:N.length≤30
 m:M.length=N.length
 ws:∀ x ∈ S,wordS x=true
 wn:∀ x ∈ N,wordS x=true
 r:∀ l ∈ M,∀ v ∈ l,0≤v∧v≤1000000
 rl:∀ l ∈ M,l.length=S.length
 s1:0<S.length
theorem check_good {S N:List (List UInt8)} {M:List (List Int)} (h:checkS S N M=0):Good S N M:=by
 unfold checkS at h
 split at h
 ·omega
 ·rename_i h1
  split at h
  ·omega
  ·rename_i h2
   split at h
   ·rename_i h3
    have g1:wordsS S=true:=Decidable.byContradiction fun hh=>h2 (.inl hh)
    have g2:wordsS N=true:=Decidable.byContradiction fun hh=>h2 (.inr (.inl hh))
    have hr:∀ l ∈ M,rowS l S.length=true:=fun l hl=>by
     obtain ⟨i,hi,rfl⟩:=List.getElem_of_mem hl
     have:=h3 i hi
     rw[getElem!_pos M i hi] at this
     exact this
    exact ⟨by omega,by omega,Decidable.byContradiction fun hh=>h2 (.inr (.inr (.inr hh))),words_mem_of g1,words_mem_of g2,fun l hl=>row_mem (hr l hl),fun l hl=>(of_decide_eq_true (hr l hl)).1,((wF_iff S S.length).1 g1).1⟩
   ·omega
theorem numA_itoa {v:Int} (h:0≤v∧v≤1000000):numA (Lib.itoa v)=some v:=by
 unfold numA
 rw[atoi_itoa h.1 (by omega)]
theorem allN_itoa {f:List UInt8→Option Int} (hf:∀ v:Int,0≤v∧v≤1000000→f (Lib.itoa v)=some v):∀ l:List Int,(∀ v ∈ l,0≤v∧v≤1000000)→allN f (l.map Lib.itoa)=some l
 | [],_=>rfl
 |v::l,h=>by rw[List.map_cons,allN,hf v (h v (by simp)),Option.bind_some,allN_itoa hf l fun u hu=>h u (List.mem_cons_of_mem _ hu)];rfl
theorem words_row {x:List UInt8} {l:List Int} (hx:wordS x=true) (hl:∀ v ∈ l,0≤v∧v≤1000000):words 32 (rowT x l)=x::l.map Lib.itoa:=
 words_sp (word_no hx).2 fun y hy=>by
  obtain ⟨v,hv,rfl⟩:=List.mem_map.1 hy
  exact (itoa_no (hl v hv).1).2
theorem rowL_rows {f:List UInt8→Option Int} (hf:∀ v:Int,0≤v∧v≤1000000→f (Lib.itoa v)=some v):∀ (N:List (List UInt8)) (M:List (List Int)),M.length=N.length→(∀ x ∈ N,wordS x=true)→(∀ l ∈ M,∀ v ∈ l,0≤v∧v≤1000000)→rowL f (rowsT N M)=some (N,M)
 | [],[],_,_,_=>rfl
 | [],_::_,h,_,_=>by simp at h
 |_::_,[],h,_,_=>by simp at h
 |x::N,l::M,h,h1,h2=>by
  rw[rowsT,rowL,words_row (h1 x (by simp)) (h2 l (by simp)),List.tail_cons,allN_itoa hf l (h2 l (by simp)),Option.bind_some,rowL_rows hf N M (by simpa using h) (fun y hy=>h1 y (List.mem_cons_of_mem _ hy)) fun y hy=>h2 y (List.mem_cons_of_mem _ hy)]
  rfl
theorem sp_no {c:UInt8} (hc:c ≠ 32) {l:List (List UInt8)} (h:∀ x ∈ l,c ∉ x):c ∉ spT l:=by
 intro hm
 unfold spT at hm
 obtain ⟨y,hy,hm⟩:=List.mem_flatten.1 hm
 obtain ⟨x,hx,rfl⟩:=List.mem_map.1 hy
 rcases List.mem_cons.1 hm with e|hm
 ·exact hc e
 ·exact h x hx hm
theorem rows_no {N:List (List UInt8)} {M:List (List Int)} (h1:∀ x ∈ N,wordS x=true) (h2:∀ l ∈ M,∀ v ∈ l,0≤v∧v≤1000000):∀ x ∈ rowsT N M,(10:UInt8) ∉ x:=by
 induction N generalizing M with
 |nil=>intro x hx;cases M<;>cases hx
 |cons a N ih=>
  cases M with
  |nil=>intro x hx;cases hx
  |cons l M=>
   intro x hx
   rw[rowsT] at hx
   rcases List.mem_cons.1 hx with rfl|hx
   ·unfold rowT
    rw[List.mem_append]
    rintro (h|h)
    ·exact (word_no (h1 a (by simp))).1 h
    ·exact sp_no (by decide) (fun y hy=>by
      obtain ⟨v,hv,rfl⟩:=List.mem_map.1 hy
      exact (itoa_no (h2 l (by simp) v hv).1).1) h
   ·exact ih (fun y hy=>h1 y (List.mem_cons_of_mem _ hy)) (fun y hy=>h2 y (List.mem_cons_of_mem _ hy)) x hx
theorem raw_lines {t:Tb} (g:Good t.1 t.2.1 t.2.2):words 10 (textT t).dropLast=headT t.1::rowsT t.2.1 t.2.2∧(textT t).getLast? =some 10∧words 32 (headT t.1)=sizeL::t.1:=by
 have h1:∀ x ∈ headT t.1::rowsT t.2.1 t.2.2,(10:UInt8) ∉ x:=fun x hx=>by
  rcases List.mem_cons.1 hx with rfl|hx
  ·unfold headT
   rw[List.mem_append]
   rintro (h|h)
   ·revert h;decide
   ·exact sp_no (by decide) (fun y hy=>(word_no (g.ws y hy)).1) h
  ·exact rows_no g.wn g.r x hx
 obtain ⟨h2,h3⟩:=words_fed (by simp) h1
 exact ⟨h2,h3,words_sp (by decide) fun y hy=>(word_no (g.ws y hy)).2⟩
theorem textF_good {t:Tb} {s:List UInt8} (h:textF t=(s,0)):Good t.1 t.2.1 t.2.2∧textT t=s∧s.length≤8000:=by
 unfold textF at h
 split at h
 ·rename_i h1
  simp only[Prod.mk.injEq] at h
  exact absurd h.2 h1
 ·rename_i h1
  split at h
  ·simp at h
  ·rename_i h2
   simp only[Prod.mk.injEq,and_true] at h
   refine ⟨check_good (Decidable.byContradiction h1),h,?_⟩
   rw[← h];omega
theorem raw_back {t:Tb} {s:List UInt8} (hR:∀ v:Int,0≤v∧v≤1000000→numR (Lib.itoa v)=some v) (h:textF t=(s,0)):rawP s=some t∧rawR s=some t:=by
 obtain ⟨g,rfl,_⟩:=textF_good h
 obtain ⟨h1,h2,h3⟩:=raw_lines g
 have e:∀ (x:List UInt8) (l:List (List UInt8)),(x::l)[0]! =x:=fun x l=>rfl
 constructor
 ·unfold rawP trimS
  rw[if_pos h2,h1,List.tail_cons,rowL_rows (fun v hv=>numA_itoa hv) _ _ g.m g.wn g.r,Option.map_some,e,h3,List.tail_cons]
 ·unfold rawR
  rw[h1,e,h3,e,if_pos ⟨h2,rfl⟩]
  simp only[List.tail_cons]
  rw[rowL_rows hR _ _ g.m g.wn g.r]
  rfl
theorem acc_eq (hR:∀ v:Int,0≤v∧v≤1000000→numR (Lib.itoa v)=some v) (s:List UInt8):accF (rawP s) s=accF (rawR s) s:=by
 have key:∀ {raw:Option Tb} {t:Tb},accF raw s=some t↔raw=some t∧s.length≤8000∧textF t=(s,0):=fun {raw t}=>by
  unfold accF
  cases raw with
  |none=>simp
  |some u=>
   rw[Option.bind_some]
   split
   ·rename_i h
    constructor
    ·intro e;cases e;exact ⟨rfl,h.1,h.2⟩
    ·rintro ⟨e,_⟩;exact e
   ·rename_i h
    constructor
    ·intro e;cases e
    ·rintro ⟨e,h2⟩;cases e;exact absurd h2 h
 cases h1:accF (rawP s) s with
 |some t=>
  obtain ⟨_,a2,a3⟩:=key.1 h1
  exact (key.2 ⟨(raw_back hR a3).2,a2,a3⟩).symm
 |none=>
  cases h2:accF (rawR s) s with
  |none=>rfl
  |some t=>
   obtain ⟨_,a2,a3⟩:=key.1 h2
   rw[key.2 ⟨(raw_back hR a3).1,a2,a3⟩] at h1
   cases h1
theorem dd_head:∀ (n u:Nat),u≤n→0<u→(Lib.decDigits u)[0]! ≠ 48
 |0,u,h,h2=>by omega
 |n+1,u,h,h2=>by
  rw[Lib.decDigits]
  split
  ·rename_i h3
   show UInt8.ofNat (48+u) ≠ 48
   intro e
   have:=congrArg UInt8.toNat e
   rw[UInt8.toNat_ofNat'] at this
   have e2:(48:UInt8).toNat=48:=rfl
   rw[e2] at this
   omega
  ·rename_i h3
   have ih:=dd_head n (u / 10) (by omega) (by omega)
   have hne:=decDigits_ne (u / 10)
   obtain ⟨a,r,hr⟩:∃ a r,Lib.decDigits (u / 10)=a::r:=by
    cases h4:Lib.decDigits (u / 10) with
    |nil=>exact absurd h4 hne
    |cons a r=>exact ⟨a,r,rfl⟩
   rw[hr] at ih ⊢
   exact ih
theorem numR_itoa (v:Int) (h:0≤v∧v≤1000000):numR (Lib.itoa v)=some v:=by
 obtain ⟨u,rfl⟩:=Int.eq_ofNat_of_zero_le h.1
 have hd:=itoa_dig h.1
 rw[Lib.itoa_nonneg] at hd ⊢
 have h1:=decDigits_len 6 u (by omega)
 have h2:=decDigits_ne u
 have h3:=decFrom_digits u u (Nat.le_refl _)
 have h4:1<(Lib.decDigits u).length→(Lib.decDigits u)[0]! ≠ 48:=fun hl=>by
  refine dd_head u u (Nat.le_refl _) (Nat.pos_of_ne_zero fun h0=>?_)
  subst h0
  rw[Lib.decDigits,dif_pos (by omega)] at hl
  simp at hl
 unfold numR
 rw[if_pos ⟨h2,h1,h4,List.all_eq_true.2 hd⟩,h3]
 rfl
end Go.Proofs.YteibgbbfcjgjiaaDoor
namespace Go.Proofs.YteibgbbfcjgjiaaDoor
open Go Go.Itp
set_option maxRecDepth 100000
set_option maxHeartbeats 1000000
set_option linter.unusedSimpArgs false
section
variable (w:World) (n:Nat)
def selfP (b:Nat) (p:V):Prop:=p= .sc (.pointer none)∨p= .ptr b 0
theorem copyCheck_w {C:Ctx} {st:VSt} {Q:V→VSt→Prop} (hC:C.E=EN w (n+2)) (b e:Nat) (p g:V) (hb:aget st.own b=some (.box 61 e [p,g])) (hp:selfP b p) (hro:st.ro≤b)
  (hq:Q (.tup []) ⟨aset st.own b (.box 61 e [.ptr b 0,g]),st.next,st.ro⟩):CallV C 51 [.ptr b 0] st Q:=by
 refine callV_w hC rfl rfl (fun _ _=>rfl) (Nat.le_of_ble_eq_true rfl) hq fun C' hC' hn=>?_
 obtain ⟨H,nx,ro⟩:=st
 have h2:(2:Nat)≤ [p,g].length:=Nat.le_refl _
 rcases hp with rfl|rfl
 ·simp (disch:=first|omega|assumption|exact bd (by with_unfolding_all rfl)|exact Or.inl rfl|exact Or.inl trivial|exact okL_map _ (fun _=>rfl) _|(simp only[VVlen]<;>omega)|fail) only[O1,WA,slotsL,opdsA,Nat.reduceEqDiff,Nat.reduceLT,Nat.reduceAdd,Nat.reduceBEq,Int.reduceAdd,Int.reduceSub,Int.reduceLT,Int.reduceLE,Int.reduceEq,Int.reduceNeg,↓reduceIte,reduceCtorEq,List.replicate,c51,hb,eqNilP_ptr,eqNilP_nil]
  refine callV_same hC' (fun x s=>?_) ?_
  ·show PR w _ [x] s=some (x,[])
   rfl
  simp (disch:=first|omega|assumption|exact bd (by with_unfolding_all rfl)|exact Or.inl rfl|exact Or.inl trivial|exact okL_map _ (fun _=>rfl) _|(simp only[VVlen]<;>omega)|fail) only[O1,WA,slotsL,opdsA,Nat.reduceEqDiff,Nat.reduceLT,Nat.reduceAdd,Nat.reduceBEq,Int.reduceAdd,Int.reduceSub,Int.reduceLT,Int.reduceLE,Int.reduceEq,Int.reduceNeg,↓reduceIte,reduceCtorEq,List.replicate,hb,eqNilP_ptr]
  exact .refl _ _
 ·have hs:aset H b (.box 61 e [.ptr b 0,g])=H:=aset_self _ _ _ hb
  simp (disch:=first|omega|assumption|exact bd (by with_unfolding_all rfl)|exact Or.inl rfl|exact Or.inl trivial|exact okL_map _ (fun _=>rfl) _|(simp only[VVlen]<;>omega)|fail) only[O1,WA,slotsL,opdsA,Nat.reduceEqDiff,Nat.reduceLT,Nat.reduceAdd,Nat.reduceBEq,Int.reduceAdd,Int.reduceSub,Int.reduceLT,Int.reduceLE,Int.reduceEq,Int.reduceNeg,↓reduceIte,reduceCtorEq,List.replicate,c51,hb,eqPtrV_same,eqNilP_ptr,eqNilP_nil]
  rw[hs]
  exact .refl _ _
theorem writeString_w {C:Ctx} {st:VSt} {Q:V→VSt→Prop} (hC:C.E=EN w (n+3)) (b r:Nat) (p:V) (acc s:ByteArray) (hb:aget st.own b=some (.box 61 1 [p,.gr 2 r acc.size])) (hr:aget st.own r=some (.gro 5 1 false (strD acc))) (hp:selfP b p) (hro:st.ro≤b) (hro2:st.ro≤r) (hrb:r ≠ b) (hlt:b ≠ st.next)
  (hsz:acc.size+s.size≤1099511627776) (hq:Q (.tup [.sc (.int .i64 s.size),.sc .nilIface]) ⟨(st.next,.gro 5 1 false (strD (acc++s)))::aset (adel r st.own) b (.box 61 1 [.ptr b 0,.gr 2 st.next (acc.size+s.size)]),st.next+1,st.ro⟩):
  CallV C 29 [.ptr b 0,.sc (.string s)] st Q:=by
 refine callV_w hC rfl rfl (fun _ _=>rfl) (Nat.le_of_ble_eq_true rfl) hq fun C' hC' hn=>?_
 obtain ⟨H,nx,ro⟩:=st
 have h1:=strD_len acc
 have h2:=strD_ok s
 have a1:aget (aset H b (.box 61 1 [.ptr b 0,.gr 2 r acc.size])) b=some (.box 61 1 [.ptr b 0,.gr 2 r acc.size]):=aget_aset_eq hb
 have a2:aget (aset H b (.box 61 1 [.ptr b 0,.gr 2 r acc.size])) r=some (.gro 5 1 false (strD acc)):=by rw[aget_aset _ _ _ _ _ hb,if_neg hrb];exact hr
 have hbr:¬ b=r:=fun e=>hrb e.symm
 have a3:aget (adel r (aset H b (.box 61 1 [.ptr b 0,.gr 2 r acc.size]))) b=some (.box 61 1 [.ptr b 0,.gr 2 r acc.size]):=by rw[aget_adel,if_neg hbr];exact a1
 simp (disch:=first|omega|assumption|exact bd (by with_unfolding_all rfl)|exact Or.inl rfl|exact Or.inl trivial|exact okL_map _ (fun _=>rfl) _|(simp only[VVlen]<;>omega)|fail) only[O1,WA,slotsL,opdsA,Nat.reduceEqDiff,Nat.reduceLT,Nat.reduceAdd,Nat.reduceBEq,Int.reduceAdd,Int.reduceSub,Int.reduceLT,Int.reduceLE,Int.reduceEq,Int.reduceNeg,↓reduceIte,reduceCtorEq,List.replicate,c29]
 refine copyCheck_w w n hC' b 1 p _ hb hp hro ?_
 simp (disch:=first|omega|assumption|exact bd (by with_unfolding_all rfl)|exact Or.inl rfl|exact Or.inl trivial|exact okL_map _ (fun _=>rfl) _|(simp only[VVlen]<;>omega)|fail) only[O1,WA,slotsL,opdsA,Nat.reduceEqDiff,Nat.reduceLT,Nat.reduceAdd,Nat.reduceBEq,Int.reduceAdd,Int.reduceSub,Int.reduceLT,Int.reduceLE,Int.reduceEq,Int.reduceNeg,↓reduceIte,reduceCtorEq,List.replicate,a1,a2,a3,srcOf_str,strD_eq,hbr,hlt,strD_append,frozA_none]
 rw[adel_aset _ _ _ _ hrb,aset_aset]
 exact .refl _ _
theorem string_w {C:Ctx} {st:VSt} {Q:V→VSt→Prop} (hC:C.E=EN w (n+1)) (b r:Nat) (p:V) (acc:ByteArray) (hb:aget st.own b=some (.box 61 1 [p,.gr 2 r acc.size])) (hr:aget st.own r=some (.gro 5 1 false (strD acc))) (hro:st.ro≤b) (hro2:st.ro≤r)
  (hsz:acc.size≤1099511627776) (hq:∀ st',st'.ro=st.ro→Q (.sc (.string acc)) st'):CallV C 34 [.ptr b 0] st Q:=by
 obtain ⟨H,nx,ro⟩:=st
 by_cases h0:acc.size=0
 ·rw[h0] at hb
  have hs:acc=ByteArray.empty:=by
   apply ByteArray.ext;apply Array.ext'
   rw[List.eq_nil_of_length_eq_zero (show acc.data.toList.length=0 by simpa using h0)]
   rfl
  refine callV_wW (st':=⟨aset H b (.box 61 1 [p,.sc (.slice none 0 0)]),nx,ro⟩) hC rfl rfl (fun _ _=>rfl) (Nat.le_of_ble_eq_true rfl) (hq ⟨aset H b (.box 61 1 [p,.sc (.slice none 0 0)]),nx,ro⟩ rfl) (fun C' hn=>?_) fun C' hC' hn=>?_
  ·exact weak_cell (C:=C') (st:=⟨H,nx,ro⟩) (k:=1) hb rfl same_gr0
  have a1:aget (aset H b (.box 61 1 [p,.sc (.slice none 0 0)])) b=some (.box 61 1 [p,.sc (.slice none 0 0)]):=aget_aset_eq hb
  rw[hs]
  simp (disch:=first|omega|assumption|exact bd (by with_unfolding_all rfl)|exact Or.inl rfl|exact Or.inl trivial|exact okL_map _ (fun _=>rfl) _|(simp only[VVlen]<;>omega)|fail) only[O1,WA,slotsL,opdsA,Nat.reduceEqDiff,Nat.reduceLT,Nat.reduceAdd,Nat.reduceBEq,Int.reduceAdd,Int.reduceSub,Int.reduceLT,Int.reduceLE,Int.reduceEq,Int.reduceNeg,↓reduceIte,reduceCtorEq,List.replicate,c34,a1,vustr_nil]
  exact .refl _ _
 ·refine callV_w hC rfl rfl (fun _ _=>rfl) (Nat.le_of_ble_eq_true rfl) (hq ⟨adel r H,nx,ro⟩ rfl) fun C' hC' hn=>?_
  have hv:=vustr_gro ⟨H,nx,ro⟩ 5 1 r acc hr hro2 (by omega) hsz
  simp (disch:=first|omega|assumption|exact bd (by with_unfolding_all rfl)|exact Or.inl rfl|exact Or.inl trivial|exact okL_map _ (fun _=>rfl) _|(simp only[VVlen]<;>omega)|fail) only[O1,WA,slotsL,opdsA,Nat.reduceEqDiff,Nat.reduceLT,Nat.reduceAdd,Nat.reduceBEq,Int.reduceAdd,Int.reduceSub,Int.reduceLT,Int.reduceLE,Int.reduceEq,Int.reduceNeg,↓reduceIte,reduceCtorEq,List.replicate,c34,hb,h0,hv]
  exact .refl _ _
end
end Go.Proofs.YteibgbbfcjgjiaaDoor
namespace Go.Proofs.YteibgbbfcjgjiaaDoor
open Go Go.Itp
set_option maxRecDepth 100000
set_option maxHeartbeats 1000000
set_option linter.unusedSimpArgs false
section
variable (w:World) (n:Nat)
theorem indexByteString_o (st:VSt) (l:List UInt8) (c:UInt8):VSpecO (EN w (n+1)) 101 st [strV l,.sc (.int .u8 c.toNat)] (.sc (.int .i64 (idxB c l))):=by
 refine prim_o (ys:= [.string ⟨l.toArray⟩,.int .u8 c.toNat]) (fun s=>?_) rfl
 refine orElse_left ?_
 show primA .indexByte 0 [.string ⟨l.toArray⟩,.int .u8 c.toNat] s=_
 unfold primA
 simp only[Int.toNat_natCast]
 rw[show c.toNat.toUInt8=c by simp,firstIdxA_l]
theorem indexByte_p (l:List UInt8) (c:UInt8):VSpec (EN w (n+2)) 93 [strV l,.sc (.int .u8 c.toNat)] (.sc (.int .i64 (idxB c l))) ⟨[],0,0⟩:=by
 refine vspec_flat rfl rfl (fun _ _=>rfl) (Nat.le_of_ble_eq_true rfl) (oldVals w) rfl fun C hC h0=>?_
 simp (disch:=first|omega|assumption|exact bd (by with_unfolding_all rfl)|exact Or.inl rfl|exact Or.inl trivial|exact okL_map _ (fun _=>rfl) _|(simp only[VVlen]<;>omega)|fail) only[O1,WA,slotsL,opdsA,Nat.reduceEqDiff,Nat.reduceLT,Nat.reduceAdd,Nat.reduceBEq,Int.reduceAdd,Int.reduceSub,Int.reduceLT,Int.reduceLE,Int.reduceEq,Int.reduceNeg,↓reduceIte,reduceCtorEq,List.replicate,c93]
 refine callV_flat (by rw[hC];exact indexByteString_o w n _ l c) ?_
 repeat' (first|(simp (disch:=first|omega|assumption|exact bd (by with_unfolding_all rfl)|exact Or.inl rfl|exact Or.inl trivial|exact okL_map _ (fun _=>rfl) _|(simp only[VVlen]<;>omega)|fail) only[O1,WA,slotsL,opdsA,Nat.reduceEqDiff,Nat.reduceLT,Nat.reduceAdd,Nat.reduceBEq,Int.reduceAdd,Int.reduceSub,Int.reduceLT,Int.reduceLE,Int.reduceEq,Int.reduceNeg,↓reduceIte,reduceCtorEq,List.replicate])|apply gC_drawW|((first|apply gI_dec|apply gG_dec|apply gPG_dec|apply gI_var|apply gG_var|apply gPG_var)<;>intro _))
 exact weak_flat rfl h0 rfl
theorem index1_p (l:List UInt8) (c:UInt8) (hl:l.length≤1000000000):VSpec (EN w (n+3)) 83 [strV l,strV [c]] (.sc (.int .i64 (idxB c l))) ⟨[],0,0⟩:=by
 refine vspec_flat rfl rfl (fun _ _=>rfl) (Nat.le_of_ble_eq_true rfl) (oldVals w) rfl fun C hC h0=>?_
 have h1:(ByteArray.mk [c].toArray).size=1:=rfl
 have hlc:((ByteArray.mk [c].toArray)=ByteArray.mk l.toArray)↔l= [c]:=by
  constructor
  ·intro h
   have:=congrArg (fun b:ByteArray=>b.data.toList) h
   simpa using this.symm
  ·rintro rfl;rfl
 by_cases hc:l= [c]
 ·subst hc
  have hi:idxB c [c]=0:=idxB_app (a:= []) [] (by simp)
  rw[hi]
  simp (disch:=first|omega|assumption|exact bd (by with_unfolding_all rfl)|exact Or.inl rfl|exact Or.inl trivial|exact okL_map _ (fun _=>rfl) _|(simp only[VVlen]<;>omega)|fail) only[O1,WA,slotsL,opdsA,Nat.reduceEqDiff,Nat.reduceLT,Nat.reduceAdd,Nat.reduceBEq,Int.reduceAdd,Int.reduceSub,Int.reduceLT,Int.reduceLE,Int.reduceEq,Int.reduceNeg,↓reduceIte,reduceCtorEq,List.replicate,c83,h1]
  exact weak_flat rfl h0 rfl
 ·have hb:idxStrV (strV [c]) (.sc (.int .i64 0))=some (.sc (.int .u8 c.toNat)):=by
   rw[idxStr_l _ _ _ (by omega) (by simp)]
   rfl
  simp (disch:=first|omega|assumption|exact bd (by with_unfolding_all rfl)|exact Or.inl rfl|exact Or.inl trivial|exact okL_map _ (fun _=>rfl) _|(simp only[VVlen]<;>omega)|fail) only[O1,WA,slotsL,opdsA,Nat.reduceEqDiff,Nat.reduceLT,Nat.reduceAdd,Nat.reduceBEq,Int.reduceAdd,Int.reduceSub,Int.reduceLT,Int.reduceLE,Int.reduceEq,Int.reduceNeg,↓reduceIte,reduceCtorEq,List.replicate,c83,h1,hlc,hc,hb]
  refine callV_flat ((indexByte_p w n l c).of hC rfl _ rfl) ?_
  repeat' (first|(simp (disch:=first|omega|assumption|exact bd (by with_unfolding_all rfl)|exact Or.inl rfl|exact Or.inl trivial|exact okL_map _ (fun _=>rfl) _|(simp only[VVlen]<;>omega)|fail) only[O1,WA,slotsL,opdsA,Nat.reduceEqDiff,Nat.reduceLT,Nat.reduceAdd,Nat.reduceBEq,Int.reduceAdd,Int.reduceSub,Int.reduceLT,Int.reduceLE,Int.reduceEq,Int.reduceNeg,↓reduceIte,reduceCtorEq,List.replicate])|apply gC_drawW|((first|apply gI_dec|apply gG_dec|apply gPG_dec|apply gI_var|apply gG_var|apply gPG_var)<;>intro _))
  exact weak_flat rfl h0 rfl
theorem index_p (l:List UInt8) (c:UInt8) (hl:l.length≤1000000000):VSpec (EN w (n+4)) 68 [strV l,strV [c]] (.sc (.int .i64 (idxB c l))) ⟨[],0,0⟩:=by
 refine vspec_flat rfl rfl (fun _ _=>rfl) (Nat.le_of_ble_eq_true rfl) (oldVals w) rfl fun C hC h0=>?_
 simp (disch:=first|omega|assumption|exact bd (by with_unfolding_all rfl)|exact Or.inl rfl|exact Or.inl trivial|exact okL_map _ (fun _=>rfl) _|(simp only[VVlen]<;>omega)|fail) only[O1,WA,slotsL,opdsA,Nat.reduceEqDiff,Nat.reduceLT,Nat.reduceAdd,Nat.reduceBEq,Int.reduceAdd,Int.reduceSub,Int.reduceLT,Int.reduceLE,Int.reduceEq,Int.reduceNeg,↓reduceIte,reduceCtorEq,List.replicate,c68]
 refine callV_flat ((index1_p w n l c hl).of hC rfl _ rfl) ?_
 repeat' (first|(simp (disch:=first|omega|assumption|exact bd (by with_unfolding_all rfl)|exact Or.inl rfl|exact Or.inl trivial|exact okL_map _ (fun _=>rfl) _|(simp only[VVlen]<;>omega)|fail) only[O1,WA,slotsL,opdsA,Nat.reduceEqDiff,Nat.reduceLT,Nat.reduceAdd,Nat.reduceBEq,Int.reduceAdd,Int.reduceSub,Int.reduceLT,Int.reduceLE,Int.reduceEq,Int.reduceNeg,↓reduceIte,reduceCtorEq,List.replicate])|apply gC_drawW|((first|apply gI_dec|apply gG_dec|apply gPG_dec|apply gI_var|apply gG_var|apply gPG_var)<;>intro _))
 exact weak_flat rfl h0 rfl
end
end Go.Proofs.YteibgbbfcjgjiaaDoor
namespace Go.Proofs.YteibgbbfcjgjiaaDoor
open Go Go.Itp
set_option maxRecDepth 100000
set_option maxHeartbeats 1000000
set_option linter.unusedSimpArgs false
set_option linter.unusedVariables false
theorem count_words (c:UInt8):∀ (m:Nat) (l:List UInt8),l.length≤m→(words c l).length=Lib.countByte l c+1
 |m,l,hm=>by
  rcases byte_split c l with h|⟨a,r,rfl,h⟩
  ·rw[words_free h]
   unfold Lib.countByte
   rw[List.count_eq_zero_of_not_mem h]
   rfl
  ·rw[words_app r h]
   cases m with
   |zero=>simp at hm
   |succ m=>
    have ih:=count_words c m r (by simp at hm;omega)
    unfold Lib.countByte at ih ⊢
    rw[List.length_cons,ih,List.count_append,List.count_eq_zero_of_not_mem h,List.count_cons_self]
    omega
theorem vslc_hiR (e o k n c:Nat) (j:IntKind) (b:Int) (h0:0≤b) (h1:b≤c) (hc:c<1000000000000) (hc0:c ≠ 0):vslc e none (some (.int j b)) none (.ref o k n c)=some (.ref o k b.toNat c):=by
 have h2:Nat.blt c big=true:=by rw[Nat.blt_eq];unfold big;omega
 have h3:Nat.beq c 0=false:=nbf.2 hc0
 have h4:slcN n c none (some (.int j b)) none=some (0,b.toNat,c,false):=by
  simp only[slcN,knownCap,h2,if_true,bndNat]
  rw[if_pos ⟨h0,h1⟩]
  simp[h3,h2]
 simp only[vslc,h4,Option.map_some]
 simp
def fillS (dn:List (List UInt8)) (N:Nat):List D:=dn.map sD++List.replicate (N - dn.length) (sD [])
theorem fillS_len (dn:List (List UInt8)) (N:Nat) (h:dn.length≤N):(fillS dn N).length=N:=by simp[fillS];omega
theorem fillS_set (dn:List (List UInt8)) (x:List UInt8) (N:Nat) (h:dn.length<N):(fillS dn N).set dn.length (sD x)=fillS (dn++ [x]) N:=by
 unfold fillS
 rw[List.set_append_right _ _ (by simp),List.length_map,Nat.sub_self,show N - dn.length=(N - (dn.length+1))+1 by omega,List.replicate_succ,List.length_append]
 simp
theorem fillS_all (dn:List (List UInt8)) (N:Nat) (h:dn.length=N):fillS dn N=dn.map sD:=by simp[fillS,h]
section
variable (w:World) (n:Nat)
theorem countString_o (st:VSt) (l:List UInt8) (c:UInt8):VSpecO (EN w (n+1)) 82 st [strV l,.sc (.int .u8 c.toNat)] (.sc (.int .i64 (Lib.countByte l c))):=by
 refine prim_o (ys:= [.string ⟨l.toArray⟩,.int .u8 c.toNat]) (fun s=>?_) rfl
 refine orElse_left ?_
 show primA .count 0 [.string ⟨l.toArray⟩,.int .u8 c.toNat] s=_
 unfold primA
 simp only[Int.toNat_natCast]
 have e:c.toNat.toUInt8=c:=by simp
 rw[Lib.foldl_data,Lib.count_foldl,e]
 simp
theorem count_p (l:List UInt8) (c:UInt8) (hl:l.length≤1000000000):VSpec (EN w (n+2)) 67 [strV l,strV [c]] (.sc (.int .i64 (Lib.countByte l c))) ⟨[],0,0⟩:=by
 refine vspec_flat rfl rfl (fun _ _=>rfl) (Nat.le_of_ble_eq_true rfl) (oldVals w) rfl fun C hC h0=>?_
 have h1:(ByteArray.mk [c].toArray).size=1:=rfl
 have hb:idxStrV (strV [c]) (.sc (.int .i64 0))=some (.sc (.int .u8 c.toNat)):=by
  rw[idxStr_l _ _ _ (by omega) (by simp)]
  rfl
 simp (disch:=first|omega|assumption|exact bd (by with_unfolding_all rfl)|exact Or.inl rfl|exact Or.inl trivial|exact okL_map _ (fun _=>rfl) _|(simp only[VVlen]<;>omega)|fail) only[O1,WA,slotsL,opdsA,Nat.reduceEqDiff,Nat.reduceLT,Nat.reduceAdd,Nat.reduceBEq,Int.reduceAdd,Int.reduceSub,Int.reduceLT,Int.reduceLE,Int.reduceEq,Int.reduceNeg,↓reduceIte,reduceCtorEq,List.replicate,c67,h1,hb]
 refine callV_flat (by rw[hC];exact countString_o w n _ l c) ?_
 repeat' (first|(simp (disch:=first|omega|assumption|exact bd (by with_unfolding_all rfl)|exact Or.inl rfl|exact Or.inl trivial|exact okL_map _ (fun _=>rfl) _|(simp only[VVlen]<;>omega)|fail) only[O1,WA,slotsL,opdsA,Nat.reduceEqDiff,Nat.reduceLT,Nat.reduceAdd,Nat.reduceBEq,Int.reduceAdd,Int.reduceSub,Int.reduceLT,Int.reduceLE,Int.reduceEq,Int.reduceNeg,↓reduceIte,reduceCtorEq,List.replicate])|apply gC_drawW|((first|apply gI_dec|apply gG_dec|apply gPG_dec|apply gI_var|apply gG_var|apply gPG_var)<;>intro _))
 exact weak_flat rfl h0 rfl
theorem gsplit_p (l:List UInt8) (c:UInt8) (hl:l.length≤1000000):VSpec (EN w (n+5)) 54 [strV l,strV [c],.sc (.int .i64 0),.sc (.int .i64 (-1))] (.ref 0 0 (words c l).length (words c l).length) ⟨[(0,.row 9 1 false false ((words c l).map sD))],1,0⟩:=by
 refine vspec_g rfl rfl (fun _ _=>rfl) (Nat.le_of_ble_eq_true rfl) (oldVals w) retOK_ref rfl fun C hC h0=>?_
 have h1:(ByteArray.mk [c].toArray).size=1:=rfl
 have hne:¬ (ByteArray.mk [c].toArray=ByteArray.mk #[]):=fun h=>by
  have:=congrArg (fun b:ByteArray=>b.data.toList) h
  simp at this
 have hsz:=mk_size l
 have hcw:=count_words c l.length l (Nat.le_refl _)
 have hwl:=(words_len (c:=c) l.length (s:=l) (Nat.le_refl _)).1
 simp (disch:=first|omega|assumption|exact bd (by with_unfolding_all rfl)|exact Or.inl rfl|exact Or.inl trivial|exact okL_map _ (fun _=>rfl) _|(simp only[VVlen]<;>omega)|fail) only[O1,WA,slotsL,opdsA,Nat.reduceEqDiff,Nat.reduceLT,Nat.reduceAdd,Nat.reduceBEq,Int.reduceAdd,Int.reduceSub,Int.reduceLT,Int.reduceLE,Int.reduceEq,Int.reduceNeg,↓reduceIte,reduceCtorEq,List.replicate,c54,hne]
 refine callV_flat ((count_p w (n+2) l c (by omega)).of hC rfl _ rfl) ?_
 generalize hN:Lib.countByte l c=N at*
 have hmin:min ((N:Int)+1) (((ByteArray.mk l.toArray).size:Int)+1)=((N+1:Nat):Int):=by rw[hsz];omega
 have hNs:((N+1:Nat):Int) - 1=(N:Int):=by omega
 have hN1:(((N+1:Nat):Int)).toNat=N+1:=by omega
 have hr0:D.sc (Value.string ⟨#[]⟩)::List.replicate N (D.sc (Value.string ⟨#[]⟩))=fillS [] (N+1):=by simp[fillS,sD,List.replicate_succ]
 simp (disch:=first|omega|assumption|exact bd (by with_unfolding_all rfl)|exact Or.inl rfl|exact Or.inl trivial|exact okL_map _ (fun _=>rfl) _|(simp only[VVlen]<;>omega)|fail) only[O1,WA,slotsL,opdsA,Nat.reduceEqDiff,Nat.reduceLT,Nat.reduceAdd,Nat.reduceBEq,Int.reduceAdd,Int.reduceSub,Int.reduceLT,Int.reduceLE,Int.reduceEq,Int.reduceNeg,↓reduceIte,reduceCtorEq,List.replicate,mmV_min,hmin,hN1,hNs]
 rw[hr0]
 refine g_while (fun m fr st=>∃ (dn:List (List UInt8)) (r:List UInt8),m=r.length∧r.length≤1000000∧words c l=dn++words c r∧fr= [(0,strV r),(1,strV [c]),(2,.sc (.int .i64 0)),(3,.sc (.int .i64 N)),(9,.ref 0 0 (N+1) (N+1)),(10,.sc (.int .i64 dn.length))]∧st=⟨[(0,.row 9 1 false false (fillS dn (N+1)))],1,0⟩) l.length ?_ ⟨_,_,.refl _ _,[],l,rfl,hl,rfl,?_,rfl⟩ ?_
 ·rw[hC,callP_rounds];unfold many;omega
 ·simp
 rintro m fr st ⟨dn,r,rfl,hrl,hw,rfl,rfl⟩
 have hdl:dn.length+(words c r).length=N+1:=by rw[← hcw,hw,List.length_append]
 have hfl:=fillS_len dn (N+1) (by omega)
 have hfs:=fillS_set dn r (N+1) (by have:=List.length_pos_iff.2 (words_ne c r);omega)
 rcases byte_split c r with hf|⟨x,r',rfl,hf⟩
 ·have hwr:=words_free hf
  rw[hwr] at hw hdl
  have hd:dn.length=N:=by simpa using hdl
  have hcw':(dn++ [r]).length=N+1:=by simp[hd]
  simp (disch:=first|omega|assumption|exact bd (by with_unfolding_all rfl)|exact Or.inl rfl|exact Or.inl trivial|exact okL_map _ (fun _=>rfl) _|(simp only[VVlen]<;>omega)|fail) only[O1,WA,slotsL,opdsA,Nat.reduceEqDiff,Nat.reduceLT,Nat.reduceAdd,Nat.reduceBEq,Int.reduceAdd,Int.reduceSub,Int.reduceLT,Int.reduceLE,Int.reduceEq,Int.reduceNeg,↓reduceIte,reduceCtorEq,List.replicate,c54l0]
  all_goals try (exfalso;omega)
  have hv:=vslc_hiR 1 0 0 (N+1) (N+1) .i64 ((dn.length:Int)+1) (by omega) (by omega) (by omega) (by omega)
  have hvN:((dn.length:Int)+1).toNat=N+1:=by omega
  rw[hvN] at hv
  simp (disch:=first|omega|assumption|exact bd (by with_unfolding_all rfl)|exact Or.inl rfl|exact Or.inl trivial|exact okL_map _ (fun _=>rfl) _|(simp only[VVlen]<;>omega)|fail) only[O1,WA,slotsL,opdsA,Nat.reduceEqDiff,Nat.reduceLT,Nat.reduceAdd,Nat.reduceBEq,Int.reduceAdd,Int.reduceSub,Int.reduceLT,Int.reduceLE,Int.reduceEq,Int.reduceNeg,↓reduceIte,reduceCtorEq,List.replicate,hv]
  rw[show D.sc (Value.string ⟨r.toArray⟩)=sD r from rfl,hfs,fillS_all _ _ (by simp;omega),hw,hcw']
  exact .refl _ _
 ·have hi:=idxB_app r' hf
  have hwr:=words_app r' hf
  have hlen:(x++c::r').length=x.length+r'.length+1:=by simp;omega
  have hwp:=List.length_pos_iff.2 (words_ne c r')
  have hdN:dn.length<N:=by rw[hwr] at hdl;simp at hdl;omega
  have e1:=slcS_hi (x++c::r') .i64 x.length (by omega) (by rw[hlen];omega)
  have e2:=slcS_lo (x++c::r') .i64 ((x.length:Int)+1) (by omega) (by rw[hlen];omega)
  rw[Int.toNat_natCast,List.take_left] at e1
  rw[show ((x.length:Int)+1).toNat=x.length+1 by omega,show (x++c::r').drop (x.length+1)=r' by rw[← List.drop_drop];simp] at e2
  have h1i:((1:Nat):Int)=1:=rfl
  have hfx:=fillS_set dn x (N+1) (by omega)
  simp (disch:=first|omega|assumption|exact bd (by with_unfolding_all rfl)|exact Or.inl rfl|exact Or.inl trivial|exact okL_map _ (fun _=>rfl) _|(simp only[VVlen]<;>omega)|fail) only[O1,WA,slotsL,opdsA,Nat.reduceEqDiff,Nat.reduceLT,Nat.reduceAdd,Nat.reduceBEq,Int.reduceAdd,Int.reduceSub,Int.reduceLT,Int.reduceLE,Int.reduceEq,Int.reduceNeg,↓reduceIte,reduceCtorEq,List.replicate,c54l0]
  refine callV_flat ((index_p w n _ c (by omega)).of hC rfl _ rfl) ?_
  rw[hi]
  simp (disch:=first|omega|assumption|exact bd (by with_unfolding_all rfl)|exact Or.inl rfl|exact Or.inl trivial|exact okL_map _ (fun _=>rfl) _|(simp only[VVlen]<;>omega)|fail) only[O1,WA,slotsL,opdsA,Nat.reduceEqDiff,Nat.reduceLT,Nat.reduceAdd,Nat.reduceBEq,Int.reduceAdd,Int.reduceSub,Int.reduceLT,Int.reduceLE,Int.reduceEq,Int.reduceNeg,↓reduceIte,reduceCtorEq,List.replicate,h1,h1i,e1,e2,Int.add_zero]
  all_goals try (exfalso;omega)
  refine ⟨_,_,_,?_,.refl _ _,dn++ [x],r',rfl,by omega,?_,?_,?_⟩
  ·rw[hlen];omega
  ·rw[hw,hwr];simp
  ·simp
  ·rw[← hfx];rfl
theorem split_p (l:List UInt8) (c:UInt8) (hl:l.length≤1000000):VSpec (EN w (n+6)) 36 [strV l,strV [c]] (.ref 0 0 (words c l).length (words c l).length) ⟨[(0,.row 9 1 false false ((words c l).map sD))],1,0⟩:=by
 refine vspec_g rfl rfl (fun _ _=>rfl) (Nat.le_of_ble_eq_true rfl) (oldVals w) retOK_ref rfl fun C hC h0=>?_
 simp (disch:=first|omega|assumption|exact bd (by with_unfolding_all rfl)|exact Or.inl rfl|exact Or.inl trivial|exact okL_map _ (fun _=>rfl) _|(simp only[VVlen]<;>omega)|fail) only[O1,WA,slotsL,opdsA,Nat.reduceEqDiff,Nat.reduceLT,Nat.reduceAdd,Nat.reduceBEq,Int.reduceAdd,Int.reduceSub,Int.reduceLT,Int.reduceLE,Int.reduceEq,Int.reduceNeg,↓reduceIte,reduceCtorEq,List.replicate,c36]
 refine callV_of (by rw[hC];exact gsplit_p w n l c hl) rfl rfl rfl ?_
 simp (disch:=first|omega|assumption|exact bd (by with_unfolding_all rfl)|exact Or.inl rfl|exact Or.inl trivial|exact okL_map _ (fun _=>rfl) _|(simp only[VVlen]<;>omega)|fail) only[O1,WA,slotsL,opdsA,Nat.reduceEqDiff,Nat.reduceLT,Nat.reduceAdd,Nat.reduceBEq,Int.reduceAdd,Int.reduceSub,Int.reduceLT,Int.reduceLE,Int.reduceEq,Int.reduceNeg,↓reduceIte,reduceCtorEq,List.replicate,vsh,vshL,shH,shO,fzSL,fzS]
 exact weak_to [(0,0)] 1 h0 rfl rfl rfl rfl
theorem hasSuf_p (l:List UInt8) (c:UInt8) (hl:l.length≤1000000):VSpec (EN w (n+1)) 69 [strV l,strV [c]] (.sc (.bool (decide (l.getLast? =some c)))) ⟨[],0,0⟩:=by
 refine vspec_flat rfl rfl (fun _ _=>rfl) (Nat.le_of_ble_eq_true rfl) (oldVals w) rfl fun C hC h0=>?_
 have h1:(ByteArray.mk [c].toArray).size=1:=rfl
 have h1i:((1:Nat):Int)=1:=rfl
 have hsz:=mk_size l
 by_cases hn:l= []
 ·subst hn
  have h2:(ByteArray.mk ([]:List UInt8).toArray).size=0:=rfl
  simp (disch:=first|omega|assumption|exact bd (by with_unfolding_all rfl)|exact Or.inl rfl|exact Or.inl trivial|exact okL_map _ (fun _=>rfl) _|(simp only[VVlen]<;>omega)|fail) only[O1,WA,slotsL,opdsA,Nat.reduceEqDiff,Nat.reduceLT,Nat.reduceAdd,Nat.reduceBEq,Int.reduceAdd,Int.reduceSub,Int.reduceLT,Int.reduceLE,Int.reduceEq,Int.reduceNeg,↓reduceIte,reduceCtorEq,List.replicate,c69,h1,h1i,h2]
  all_goals try (exfalso;omega)
  exact weak_flat rfl h0 rfl
 ·obtain ⟨S,b,rfl⟩:∃ S p,l=S++ [p]:=⟨l.dropLast,l.getLast hn,(List.dropLast_concat_getLast hn).symm⟩
  have hsl:(S++ [b]).length=S.length+1:=by simp
  have e2:=slcS_lo (S++ [b]) .i64 (S.length:Int) (by omega) (by rw[hsl];omega)
  rw[Int.toNat_natCast,List.drop_left] at e2
  have e3:(((ByteArray.mk (S++ [b]).toArray).size:Nat):Int) - 1=(S.length:Int):=by rw[hsz,hsl];omega
  have e4:((S++ [b]).getLast? =some c)=([b]= [c]):=by simp
  rw[show decide ((S++ [b]).getLast? =some c)=decide ([b]= [c]) by congr 1]
  simp (disch:=first|omega|assumption|exact bd (by with_unfolding_all rfl)|exact Or.inl rfl|exact Or.inl trivial|exact okL_map _ (fun _=>rfl) _|(simp only[VVlen]<;>omega)|fail) only[O1,WA,slotsL,opdsA,Nat.reduceEqDiff,Nat.reduceLT,Nat.reduceAdd,Nat.reduceBEq,Int.reduceAdd,Int.reduceSub,Int.reduceLT,Int.reduceLE,Int.reduceEq,Int.reduceNeg,↓reduceIte,reduceCtorEq,List.replicate,c69,h1,h1i,e3,e2,mk_inj]
  all_goals try (exfalso;omega)
  exact weak_flat rfl h0 rfl
end
end Go.Proofs.YteibgbbfcjgjiaaDoor
namespace Go.Proofs.YteibgbbfcjgjiaaDoor
open Go Go.Itp
set_option maxRecDepth 100000
set_option maxHeartbeats 2000000
set_option linter.unusedSimpArgs false
set_option linter.unusedVariables false
theorem strD_push (l:List UInt8) (c:UInt8):strD ⟨(l++ [c]).toArray⟩=strD ⟨l.toArray⟩++ [.sc (.int .u8 c.toNat)]:=by simp[strD,Itp.bD]
section
variable (w:World) (n:Nat)
theorem writeByte_w {C:Ctx} {st:VSt} {Q:V→VSt→Prop} (hC:C.E=EN w (n+3)) (b r:Nat) (p:V) (l:List UInt8) (c:Nat) (hc:c<256) (hb:aget st.own b=some (.box 61 1 [p,.gr 2 r l.length])) (hr:aget st.own r=some (.gro 5 1 false (strD ⟨l.toArray⟩))) (hp:selfP b p) (hro:st.ro≤b) (hro2:st.ro≤r) (hrb:r ≠ b) (hlt:b ≠ st.next) (hlt2:r ≠ st.next) (hlt3:b ≠ st.next+1)
  (hsz:l.length≤1000000000) (hq:Q (.sc .nilIface) ⟨(st.next+1,.gro 5 1 false (strD ⟨(l++ [UInt8.ofNat c]).toArray⟩))::(st.next,.row 5 1 false false [.sc (.int .u8 c)])::aset (adel r st.own) b (.box 61 1 [.ptr b 0,.gr 2 (st.next+1) (l.length+1)]),st.next+2,st.ro⟩):
  CallV C 31 [.ptr b 0,.sc (.int .u8 c)] st Q:=by
 refine callV_w hC rfl rfl (fun _ _=>rfl) (Nat.le_of_ble_eq_true rfl) hq fun C' hC' hn=>?_
 obtain ⟨H,nx,ro⟩:=st
 have h1:(strD ⟨l.toArray⟩).length=l.length:=by rw[strD_len];exact mk_size l
 have hpush:=strD_push l (UInt8.ofNat c)
 have hcc:(UInt8.ofNat c).toNat=c:=by rw[UInt8.toNat_ofNat'];omega
 rw[hcc] at hpush
 have a1:aget (aset H b (.box 61 1 [.ptr b 0,.gr 2 r l.length])) b=some (.box 61 1 [.ptr b 0,.gr 2 r l.length]):=aget_aset_eq hb
 have a2:aget (aset H b (.box 61 1 [.ptr b 0,.gr 2 r l.length])) r=some (.gro 5 1 false (strD ⟨l.toArray⟩)):=by rw[aget_aset _ _ _ _ _ hb,if_neg hrb];exact hr
 have hbr:¬ b=r:=fun e=>hrb e.symm
 simp (disch:=first|omega|assumption|exact bd (by with_unfolding_all rfl)|exact Or.inl rfl|exact Or.inl trivial|exact okL_map _ (fun _=>rfl) _|(simp only[VVlen]<;>omega)|fail) only[O1,WA,slotsL,opdsA,Nat.reduceEqDiff,Nat.reduceLT,Nat.reduceAdd,Nat.reduceBEq,Int.reduceAdd,Int.reduceSub,Int.reduceLT,Int.reduceLE,Int.reduceEq,Int.reduceNeg,↓reduceIte,reduceCtorEq,List.replicate,c31]
 refine copyCheck_w w n hC' b 1 p _ hb hp hro ?_
 have a3:aget (adel r (aset H b (.box 61 1 [.ptr b 0,.gr 2 r l.length]))) b=some (.box 61 1 [.ptr b 0,.gr 2 r l.length]):=by rw[aget_adel,if_neg hbr];exact a1
 have hlt':¬ nx=b:=fun e=>hlt e.symm
 have hlt2':¬ nx=r:=fun e=>hlt2 e.symm
 have hlt3':¬ nx+1=b:=fun e=>hlt3 e.symm
 simp (disch:=first|omega|assumption|exact bd (by with_unfolding_all rfl)|exact Or.inl rfl|exact Or.inl trivial|exact okL_map _ (fun _=>rfl) _|(simp only[VVlen]<;>omega)|fail) only[O1,WA,slotsL,opdsA,Nat.reduceEqDiff,Nat.reduceLT,Nat.reduceAdd,Nat.reduceBEq,Int.reduceAdd,Int.reduceSub,Int.reduceLT,Int.reduceLE,Int.reduceEq,Int.reduceNeg,↓reduceIte,reduceCtorEq,List.replicate,a1,a2,a3,hbr,hrb,hlt,hlt2,hlt3,hlt',hlt2',hlt3',frozA_none]
 rw[adel_aset _ _ _ _ hrb,aset_aset,← hpush]
 exact .refl _ _
end
end Go.Proofs.YteibgbbfcjgjiaaDoor
namespace Go.Proofs.YteibgbbfcjgjiaaDoor
open Go Go.Itp
set_option maxRecDepth 100000
set_option maxHeartbeats 2000000
set_option linter.unusedSimpArgs false
set_option linter.unusedVariables false
theorem dd_split (x:Nat):Lib.decDigits x=(if x / 10=0 then [] else Lib.decDigits (x / 10))++ [UInt8.ofNat (48+x % 10)]:=by
 by_cases h:x<10
 ·rw[Lib.decDigits,dif_pos h,if_pos (by omega),show x % 10=x by omega];rfl
 ·rw[Lib.decDigits,dif_neg h,if_neg (by omega)]
def tlT (rs:List (List UInt8)):List UInt8:=(rs.map (10::·)).flatten
theorem fed_tl:∀ (h:List UInt8) (rs:List (List UInt8)),fed (h::rs)=h++tlT rs++ [10]
 |h,[]=>by simp[fed,tlT]
 |h,r::rs=>by
  have:=fed_tl r rs
  simp only[fed,tlT,List.map_cons,List.flatten_cons,List.append_assoc,List.cons_append,List.nil_append] at this ⊢
  rw[this]
theorem tlT_snoc (rs:List (List UInt8)) (r:List UInt8):tlT (rs++ [r])=tlT rs++10::r:=by simp[tlT]
theorem spT_snoc (l:List (List UInt8)) (x:List UInt8):spT (l++ [x])=spT l++32::x:=by simp[spT]
theorem rowsT_take:∀ (N:List (List UInt8)) (M:List (List Int)) (k:Nat),k<N.length→k<M.length→rowsT (N.take (k+1)) (M.take (k+1))=rowsT (N.take k) (M.take k)++ [rowT N[k]! M[k]!]
 | [],_,k,h,_=>by simp at h
 |_::_,[],k,_,h=>by simp at h
 |x::N,l::M,0,_,_=>by simp[rowsT]
 |x::N,l::M,k+1,h1,h2=>by
  have:=rowsT_take N M k (by simpa using h1) (by simpa using h2)
  simp only[List.take_succ_cons,rowsT,List.cons_append]
  rw[this]
  rfl
theorem sp_len (m:Nat):∀ l:List (List UInt8),(∀ x ∈ l,x.length≤m)→(spT l).length≤l.length*(m+1)
 | [],_=>by simp[spT]
 |x::l,h=>by
  have h1:=sp_len m l fun y hy=>h y (List.mem_cons_of_mem _ hy)
  have h2:=h x (by simp)
  have e:spT (x::l)=32::x++spT l:=by simp[spT]
  rw[e,List.length_append,List.length_cons,List.length_cons,Nat.succ_mul]
  omega
theorem word_len {s:List UInt8} (h:wordS s=true):s.length≤40:=(of_decide_eq_true h).2.1
theorem itoas_len {l:List Int} (h:∀ v ∈ l,0≤v∧v≤1000000) (k:Nat):(spT ((l.take k).map Lib.itoa)).length≤l.length*22:=by
 have h1:=sp_len 21 ((l.take k).map Lib.itoa) fun y hy=>by
  obtain ⟨v,hv,rfl⟩:=List.mem_map.1 hy
  have:=h v (List.mem_of_mem_take hv)
  exact Lib.itoa_length_le v (by omega) (by omega)
 rw[List.length_map,List.length_take] at h1
 have:min k l.length*22≤l.length*22:=Nat.mul_le_mul_right _ (by omega)
 omega
theorem heads_len {S:List (List UInt8)} (h:∀ x ∈ S,wordS x=true) (k:Nat):(sizeL++spT (S.take k)).length≤4+S.length*41:=by
 have h1:=sp_len 40 (S.take k) fun y hy=>word_len (h y (List.mem_of_mem_take hy))
 rw[List.length_take] at h1
 have:min k S.length*41≤S.length*41:=Nat.mul_le_mul_right _ (by omega)
 rw[List.length_append]
 have e:sizeL.length=4:=rfl
 omega
theorem row_len {S:Nat} {x:List UInt8} {l:List Int} (hx:wordS x=true) (hl:∀ v ∈ l,0≤v∧v≤1000000) (hs:l.length=S) (h20:S≤20):(rowT x l).length≤480:=by
 have h1:=itoas_len hl l.length
 rw[List.take_length] at h1
 have h2:=word_len hx
 have:l.length*22≤20*22:=Nat.mul_le_mul_right _ (by omega)
 unfold rowT
 rw[List.length_append]
 omega
theorem tl_len {S N:List (List UInt8)} {M:List (List Int)} (g:Good S N M):∀ k,k≤N.length→(tlT (rowsT (N.take k) (M.take k))).length≤k*500
 |0,_=>by simp[rowsT,tlT]
 |k+1,hk=>by
  have ih:=tl_len g k (by omega)
  have hM:k<M.length:=by rw[g.m];omega
  have hl:M[k]! ∈ M:=by rw[getElem!_pos M k hM];exact List.getElem_mem hM
  have hx:N[k]! ∈ N:=by rw[getElem!_pos N k (by omega)];exact List.getElem_mem (by omega)
  have:=row_len (g.wn _ hx) (g.r _ hl) (g.rl _ hl) g.s
  rw[rowsT_take N M k (by omega) hM,tlT_snoc,List.length_append,List.length_cons,Nat.succ_mul]
  omega
section
variable (w:World) (n:Nat)
theorem decimal_p (x:Nat) (hx:x≤1000000000000):VSpec (EN w (n+1)) 35 [.sc (.int .i64 x)] (strV (Lib.decDigits x)) ⟨[],0,0⟩:=by
 refine vspec_flat rfl rfl (fun _ _=>rfl) (Nat.le_of_ble_eq_true rfl) (oldVals w) rfl fun C hC h0=>?_
 have hs1:∀ (c:UInt8) (s:List UInt8),s.length≤2000000000000→(ByteArray.mk [c].toArray).size+(ByteArray.mk s.toArray).size<9223372036854775807:=fun c s h=>by
  show 1+s.toArray.size<_
  simp;omega
 have e1:(x:Int) % 10=((x % 10:Nat):Int):=by omega
 have e2:(x:Int) / 10=((x / 10:Nat):Int):=by omega
 have e4:(48:Int)+((x % 10:Nat):Int)=((48+x % 10:Nat):Int):=by omega
 have e3:=wrap_byte (48+x % 10) (by omega)
 have e5:=b2s_one (o:=0) (t:=5) (g:=false) (z:=false) (H:= [(0,.row 5 1 false false [.sc (.int .u8 ((48+x % 10:Nat):Int))])]) (48+x % 10) (by omega) rfl 1
 simp (disch:=first|omega|assumption|exact bd (by with_unfolding_all rfl)|exact Or.inl rfl|exact Or.inl trivial|exact okL_map _ (fun _=>rfl) _|(simp only[VVlen]<;>omega)|fail) only[O1,WA,slotsL,opdsA,Nat.reduceEqDiff,Nat.reduceLT,Nat.reduceAdd,Nat.reduceBEq,Int.reduceAdd,Int.reduceSub,Int.reduceLT,Int.reduceLE,Int.reduceEq,Int.reduceNeg,↓reduceIte,reduceCtorEq,List.replicate,c35,e1,e2,e4,e3,e5]
 refine g_while (fun m fr st=>∃ (k:Nat) (s:List UInt8),m=k∧k≤x∧Lib.decDigits x=(if k=0 then [] else Lib.decDigits k)++s∧s.length+k≤x+1∧fr= [(0,.sc (.int .i64 k)),(3,strV s)]∧st=⟨[],0,0⟩) (x / 10) ?_ ⟨_,_,weak_to [] 0 h0 rfl rfl rfl rfl,x / 10,[UInt8.ofNat (48+x % 10)],?_⟩ ?_
 ·rw[hC,callP_rounds];unfold many;omega
 ·exact ⟨rfl,by omega,dd_split x,by simp;omega,rfl,rfl⟩
 rintro k fr st ⟨_,s,rfl,hk,hd,hsl,rfl,rfl⟩
 by_cases hlt:0<k
 ·rw[if_neg (by omega),dd_split k] at hd
  have e1:(k:Int) % 10=((k % 10:Nat):Int):=by omega
  have e2:(k:Int) / 10=((k / 10:Nat):Int):=by omega
  have e4:(48:Int)+((k % 10:Nat):Int)=((48+k % 10:Nat):Int):=by omega
  have e3:=wrap_byte (48+k % 10) (by omega)
  have e5:=b2s_one (o:=0) (t:=5) (g:=false) (z:=false) (H:= [(0,.row 5 1 false false [.sc (.int .u8 ((48+k % 10:Nat):Int))])]) (48+k % 10) (by omega) rfl 1
  simp (disch:=first|omega|assumption|exact bd (by with_unfolding_all rfl)|exact Or.inl rfl|exact Or.inl trivial|exact okL_map _ (fun _=>rfl) _|(simp only[VVlen]<;>omega)|fail) only[O1,WA,slotsL,opdsA,Nat.reduceEqDiff,Nat.reduceLT,Nat.reduceAdd,Nat.reduceBEq,Int.reduceAdd,Int.reduceSub,Int.reduceLT,Int.reduceLE,Int.reduceEq,Int.reduceNeg,↓reduceIte,reduceCtorEq,List.replicate,c35l0,e1,e2,e4,e3,e5,b_sadd _ _ (hs1 (UInt8.ofNat (48+k % 10)) s (by omega)),bytes_cat]
  all_goals try (exfalso;omega)
  refine ⟨_,_,_,?_,weak_to [] 0 h0 rfl rfl rfl rfl,k / 10,UInt8.ofNat (48+k % 10)::s,rfl,by omega,?_,by simp;omega,?_,?_⟩
  ·omega
  ·rw[hd];simp
  ·simp[renF,vren]
  ·simp[renH]
 ·have:k=0:=by omega
  subst this
  rw[hd]
  simp (disch:=first|omega|assumption|exact bd (by with_unfolding_all rfl)|exact Or.inl rfl|exact Or.inl trivial|exact okL_map _ (fun _=>rfl) _|(simp only[VVlen]<;>omega)|fail) only[O1,WA,slotsL,opdsA,Nat.reduceEqDiff,Nat.reduceLT,Nat.reduceAdd,Nat.reduceBEq,Int.reduceAdd,Int.reduceSub,Int.reduceLT,Int.reduceLE,Int.reduceEq,Int.reduceNeg,↓reduceIte,reduceCtorEq,List.replicate,c35l0]
  all_goals try (exfalso;omega)
  exact weak_flat rfl h0 rfl
end
end Go.Proofs.YteibgbbfcjgjiaaDoor
namespace Go.Proofs.YteibgbbfcjgjiaaDoor
open Go Go.Itp
set_option maxRecDepth 100000
set_option maxHeartbeats 2000000
set_option linter.unusedSimpArgs false
set_option linter.unusedVariables false
theorem good_mod {S N:List (List UInt8)} {M:List (List Int)} (g:Good S N M):Mod S N M:=by
 refine ⟨by have:=g.s;omega,by have:=g.n;omega,by have:=g.n;have:=g.m;omega,fun j hj=>?_,fun j hj=>?_,fun j hj=>?_⟩
 ·have:=word_len (g.ws S[j]! (by rw[getElem!_pos S j hj];exact List.getElem_mem hj));omega
 ·have:=word_len (g.wn N[j]! (by rw[getElem!_pos N j hj];exact List.getElem_mem hj));omega
 ·have h1:=g.rl M[j]! (by rw[getElem!_pos M j hj];exact List.getElem_mem hj)
  have:=g.s
  omega
section
variable (w:World) (n:Nat)
theorem decimal_i (v:Int) (h:0≤v∧v≤1000000):VSpec (EN w (n+1)) 35 [.sc (.int .i64 v)] (strV (Lib.itoa v)) ⟨[],0,0⟩:=by
 obtain ⟨x,rfl⟩:=Int.eq_ofNat_of_zero_le h.1
 have:=decimal_p w n x (by omega)
 rw[← Lib.itoa_nonneg] at this
 exact this
theorem rtextE_p (s t u r:Nat) (S N:List (List UInt8)) (M:List (List Int)) (hm:Mod S N M) (hne:checkS S N M ≠ 0):VSpec (EN w (n+4)) 11 [tableV s t u r S N M] (.tup [strV [],.sc (.int .i64 (checkS S N M))]) ⟨[],0,0⟩:=by
 refine vspec_flat rfl rfl (fun _ _=>rfl) (Nat.le_of_ble_eq_true rfl) (oldVals w) rfl fun C hC h0=>?_
 have hc:=rcheck_p w n s t u r S N M hm
 generalize checkS S N M=e at*
 simp (disch:=first|omega|assumption|exact bd (by with_unfolding_all rfl)|exact Or.inl rfl|exact Or.inl trivial|exact okL_map _ (fun _=>rfl) _|(simp only[VVlen]<;>omega)|fail) only[O1,WA,slotsL,opdsA,Nat.reduceEqDiff,Nat.reduceLT,Nat.reduceAdd,Nat.reduceBEq,Int.reduceAdd,Int.reduceSub,Int.reduceLT,Int.reduceLE,Int.reduceEq,Int.reduceNeg,↓reduceIte,reduceCtorEq,List.replicate,c11]
 refine callV_flat (by rw[hC];exact hc.flat rfl rfl) ?_
 simp (disch:=first|omega|assumption|exact bd (by with_unfolding_all rfl)|exact Or.inl rfl|exact Or.inl trivial|exact okL_map _ (fun _=>rfl) _|(simp only[VVlen]<;>omega)|fail) only[O1,WA,slotsL,opdsA,Nat.reduceEqDiff,Nat.reduceLT,Nat.reduceAdd,Nat.reduceBEq,Int.reduceAdd,Int.reduceSub,Int.reduceLT,Int.reduceLE,Int.reduceEq,Int.reduceNeg,↓reduceIte,reduceCtorEq,List.replicate]
 exact weak_flat rfl h0 rfl
theorem textE_p (s t u r:Nat) (S N:List (List UInt8)) (M:List (List Int)) (hm:Mod S N M) (hne:checkS S N M ≠ 0):VSpec (EN w (n+5)) 10 [tableV s t u r S N M] (.tup [strV [],.sc (.int .i64 (checkS S N M))]) ⟨[],0,0⟩:=by
 refine vspec_flat rfl rfl (fun _ _=>rfl) (Nat.le_of_ble_eq_true rfl) (oldVals w) rfl fun C hC h0=>?_
 have hc:=check_p w (n+1) s t u r S N M hm
 generalize checkS S N M=e at*
 simp (disch:=first|omega|assumption|exact bd (by with_unfolding_all rfl)|exact Or.inl rfl|exact Or.inl trivial|exact okL_map _ (fun _=>rfl) _|(simp only[VVlen]<;>omega)|fail) only[O1,WA,slotsL,opdsA,Nat.reduceEqDiff,Nat.reduceLT,Nat.reduceAdd,Nat.reduceBEq,Int.reduceAdd,Int.reduceSub,Int.reduceLT,Int.reduceLE,Int.reduceEq,Int.reduceNeg,↓reduceIte,reduceCtorEq,List.replicate,c10]
 refine callV_flat (by rw[hC];exact hc.flat rfl rfl) ?_
 simp (disch:=first|omega|assumption|exact bd (by with_unfolding_all rfl)|exact Or.inl rfl|exact Or.inl trivial|exact okL_map _ (fun _=>rfl) _|(simp only[VVlen]<;>omega)|fail) only[O1,WA,slotsL,opdsA,Nat.reduceEqDiff,Nat.reduceLT,Nat.reduceAdd,Nat.reduceBEq,Int.reduceAdd,Int.reduceSub,Int.reduceLT,Int.reduceLE,Int.reduceEq,Int.reduceNeg,↓reduceIte,reduceCtorEq,List.replicate]
 exact weak_flat rfl h0 rfl
def bigF (t:Tb):List UInt8 × Int:=if 8000<(textT t).length then ([],4) else (textT t,0)
theorem rtext_p (s t u r:Nat) (S N:List (List UInt8)) (M:List (List Int)) (hc0:checkS S N M=0):VSpec (EN w (n+4)) 11 [tableV s t u r S N M] (.tup [strV (bigF (S,N,M)).1,.sc (.int .i64 (bigF (S,N,M)).2)]) ⟨[],0,0⟩:=by
 refine vspec_flat rfl rfl (fun _ _=>rfl) (Nat.le_of_ble_eq_true rfl) (oldVals w) rfl fun C hC h0=>?_
 have g:=check_good hc0
 have hm:=good_mod g
 have hc:=rcheck_p w n s t u r S N M hm
 have hrn:C.E.rounds=many:=by rw[hC,callP_rounds]
 obtain ⟨g1,g2,g3,g4,g5,g6,g7,g8⟩:=g
 have g:Good S N M:=⟨g1,g2,g3,g4,g5,g6,g7,g8⟩
 rw[hc0] at hc
 simp (disch:=first|omega|assumption|exact bd (by with_unfolding_all rfl)|exact Or.inl rfl|exact Or.inl trivial|exact okL_map _ (fun _=>rfl) _|(simp only[VVlen]<;>omega)|fail) only[O1,WA,slotsL,opdsA,Nat.reduceEqDiff,Nat.reduceLT,Nat.reduceAdd,Nat.reduceBEq,Int.reduceAdd,Int.reduceSub,Int.reduceLT,Int.reduceLE,Int.reduceEq,Int.reduceNeg,↓reduceIte,reduceCtorEq,List.replicate,c11]
 refine callV_flat (by rw[hC];exact hc.flat rfl rfl) ?_
 simp (disch:=first|omega|assumption|exact bd (by with_unfolding_all rfl)|exact Or.inl rfl|exact Or.inl trivial|exact okL_map _ (fun _=>rfl) _|(simp only[VVlen]<;>omega)|fail) only[O1,WA,slotsL,opdsA,Nat.reduceEqDiff,Nat.reduceLT,Nat.reduceAdd,Nat.reduceBEq,Int.reduceAdd,Int.reduceSub,Int.reduceLT,Int.reduceLE,Int.reduceEq,Int.reduceNeg,↓reduceIte,reduceCtorEq,List.replicate]
 refine g_while (fun m fr st=>∃ k:Nat,m=S.length - k∧k≤S.length∧fr= [(1,.ptr 0 0),(5,strV (sizeL++spT (S.take k))),(6,.sc (.int .i64 k))]∧st=⟨[(0,tabO s t u r S N M)],1,0⟩) S.length ?_ ⟨_,_,.refl _ _,0,by omega,Nat.zero_le _,by simp[spT,sizeL],rfl⟩ ?_
 ·rw[hrn];unfold many;omega
 rintro m fr st ⟨k,rfl,hk,rfl,rfl⟩
 have hhl:=heads_len g4 k
 by_cases hlt:k<S.length
 ·have hx:S[k]! ∈ S:=by rw[getElem!_pos S k hlt];exact List.getElem_mem hlt
  have hwl:=word_len (g4 _ hx)
  have hts:S.take (k+1)=S.take k++ [S[k]!]:=by rw[List.take_succ_eq_append_getElem hlt,getElem!_pos S k hlt]
  have hsp:spT (S.take (k+1))=spT (S.take k)++32::S[k]! :=by rw[hts,spT_snoc]
  generalize hX:S[k]! =X at*
  have c1:=cat_l (sizeL++spT (S.take k)) [32] (by simp at hhl ⊢;omega)
  have c2:=cat_l ((sizeL++spT (S.take k))++ [32]) X (by simp at hhl ⊢;omega)
  simp (disch:=first|omega|assumption|exact bd (by with_unfolding_all rfl)|exact Or.inl rfl|exact Or.inl trivial|exact okL_map _ (fun _=>rfl) _|(simp only[VVlen]<;>omega)|fail) only[O1,WA,slotsL,opdsA,Nat.reduceEqDiff,Nat.reduceLT,Nat.reduceAdd,Nat.reduceBEq,Int.reduceAdd,Int.reduceSub,Int.reduceLT,Int.reduceLE,Int.reduceEq,Int.reduceNeg,↓reduceIte,reduceCtorEq,List.replicate,c11l2,sD_dv,hX,c1,c2]
  all_goals try (exfalso;omega)
  exact ⟨_,_,_,by omega,.refl _ _,k+1,rfl,hlt,by rw[hsp];simp,rfl⟩
 have:k=S.length:=by omega
 subst this
 rw[List.take_length] at hhl ⊢
 have hH:headT S=sizeL++spT S:=rfl
 rw[← hH] at hhl ⊢
 have hfed:textT (S,N,M)=headT S++tlT (rowsT N M)++ [10]:=fed_tl _ _
 generalize headT S=HD at*
 simp (disch:=first|omega|assumption|exact bd (by with_unfolding_all rfl)|exact Or.inl rfl|exact Or.inl trivial|exact okL_map _ (fun _=>rfl) _|(simp only[VVlen]<;>omega)|fail) only[O1,WA,slotsL,opdsA,Nat.reduceEqDiff,Nat.reduceLT,Nat.reduceAdd,Nat.reduceBEq,Int.reduceAdd,Int.reduceSub,Int.reduceLT,Int.reduceLE,Int.reduceEq,Int.reduceNeg,↓reduceIte,reduceCtorEq,List.replicate,c11l2]
 all_goals try (exfalso;omega)
 refine g_while (fun m fr st=>∃ k:Nat,m=M.length - k∧k≤M.length∧fr= [(1,.ptr 0 0),(5,strV (HD++tlT (rowsT (N.take k) (M.take k)))),(7,.sc (.int .i64 k))]∧st=⟨[(0,tabO s t u r S N M)],1,0⟩) M.length ?_ ⟨_,_,.refl _ _,0,by omega,Nat.zero_le _,by simp[rowsT,tlT],rfl⟩ ?_
 ·rw[hrn];unfold many;omega
 rintro m fr st ⟨k,rfl,hk,rfl,rfl⟩
 have htl:=tl_len g k (by omega)
 have hk500:k*500≤30*500:=Nat.mul_le_mul_right _ (by omega)
 by_cases hlt:k<M.length
 case neg=>
  have:k=M.length:=by omega
  subst this
  rw[List.take_length,g3,List.take_length] at htl ⊢
  have c1:=cat_l (HD++tlT (rowsT N M)) [10] (by simp at hhl htl ⊢;omega)
  have hsz:=mk_size (HD++tlT (rowsT N M)++ [10])
  have hbl:(HD++tlT (rowsT N M)++ [10]).length≤100000:=by simp at hhl htl ⊢;omega
  have hbf:bigF (S,N,M)=if 8000<(HD++tlT (rowsT N M)++ [10]).length then ([],4) else (HD++tlT (rowsT N M)++ [10],0):=by unfold bigF;rw[hfed]
  rw[hbf]
  by_cases hb:8000<(HD++tlT (rowsT N M)++ [10]).length
  ·rw[if_pos hb]
   simp (disch:=first|omega|assumption|exact bd (by with_unfolding_all rfl)|exact Or.inl rfl|exact Or.inl trivial|exact okL_map _ (fun _=>rfl) _|(simp only[VVlen]<;>omega)|fail) only[O1,WA,slotsL,opdsA,Nat.reduceEqDiff,Nat.reduceLT,Nat.reduceAdd,Nat.reduceBEq,Int.reduceAdd,Int.reduceSub,Int.reduceLT,Int.reduceLE,Int.reduceEq,Int.reduceNeg,↓reduceIte,reduceCtorEq,List.replicate,c11l1,c1]
   all_goals try (exfalso;omega)
   exact weak_flat rfl h0 rfl
  ·rw[if_neg hb]
   simp (disch:=first|omega|assumption|exact bd (by with_unfolding_all rfl)|exact Or.inl rfl|exact Or.inl trivial|exact okL_map _ (fun _=>rfl) _|(simp only[VVlen]<;>omega)|fail) only[O1,WA,slotsL,opdsA,Nat.reduceEqDiff,Nat.reduceLT,Nat.reduceAdd,Nat.reduceBEq,Int.reduceAdd,Int.reduceSub,Int.reduceLT,Int.reduceLE,Int.reduceEq,Int.reduceNeg,↓reduceIte,reduceCtorEq,List.replicate,c11l1,c1]
   all_goals try (exfalso;omega)
   exact weak_flat rfl h0 rfl
 have hkN:k<N.length:=by omega
 have hxN:N[k]! ∈ N:=by rw[getElem!_pos N k hkN];exact List.getElem_mem hkN
 have hxM:M[k]! ∈ M:=by rw[getElem!_pos M k hlt];exact List.getElem_mem hlt
 have hwl:=word_len (g5 _ hxN)
 have hrl:=g7 _ hxM
 have hrv:=g6 _ hxM
 have hrt:=rowsT_take N M k hkN hlt
 have hsn:tlT (rowsT (N.take (k+1)) (M.take (k+1)))=tlT (rowsT (N.take k) (M.take k))++10::rowT N[k]! M[k]! :=by rw[hrt,tlT_snoc]
 generalize hT:tlT (rowsT (N.take k) (M.take k))=T at*
 generalize hX:N[k]! =X at*
 generalize hL:M[k]! =L at*
 have hTl:(HD++T).length≤20000:=by rw[List.length_append];omega
 have c1:=cat_l (HD++T) [10] (by simp at hTl ⊢;omega)
 have c2:=cat_l ((HD++T)++ [10]) X (by simp at hTl ⊢;omega)
 simp (disch:=first|omega|assumption|exact bd (by with_unfolding_all rfl)|exact Or.inl rfl|exact Or.inl trivial|exact okL_map _ (fun _=>rfl) _|(simp only[VVlen]<;>omega)|fail) only[O1,WA,slotsL,opdsA,Nat.reduceEqDiff,Nat.reduceLT,Nat.reduceAdd,Nat.reduceBEq,Int.reduceAdd,Int.reduceSub,Int.reduceLT,Int.reduceLE,Int.reduceEq,Int.reduceNeg,↓reduceIte,reduceCtorEq,List.replicate,c11l1,sD_dv,hX,c1,c2]
 all_goals try (exfalso;omega)
 refine g_while (fun m fr st=>∃ j:Nat,m=L.length - j∧j≤L.length∧fr= [(1,.ptr 0 0),(5,strV ((HD++T++ [10]++X)++spT ((L.take j).map Lib.itoa))),(7,.sc (.int .i64 k)),(8,.sc (.int .i64 j))]∧st=⟨[(0,tabO s t u r S N M)],1,0⟩) L.length ?_ ⟨_,_,.refl _ _,0,by omega,Nat.zero_le _,by simp[spT],rfl⟩ ?_
 ·rw[hrn];unfold many;omega
 rintro m fr st ⟨j,rfl,hj,rfl,rfl⟩
 have hil:=itoas_len hrv j
 have h22:L.length*22≤20*22:=Nat.mul_le_mul_right _ (by omega)
 by_cases hlj:j<L.length
 ·have hv:=hrv L[j]! (by rw[getElem!_pos L j hlj];exact List.getElem_mem hlj)
  have hdc:=fun st=>(decimal_i w (n+2) L[j]! hv).of hC rfl st rfl
  have hi1:=Lib.itoa_length_le L[j]! (by omega) (by omega)
  have hts:spT ((L.take (j+1)).map Lib.itoa)=spT ((L.take j).map Lib.itoa)++32::Lib.itoa L[j]! :=by
   rw[List.take_succ_eq_append_getElem hlj,← getElem!_pos L j hlj,List.map_append,List.map_cons,List.map_nil,spT_snoc]
  generalize hV:L[j]! =v at*
  generalize hU:spT ((L.take j).map Lib.itoa)=U at*
  have c3:=cat_l ((HD++T++ [10]++X)++U) [32] (by simp at hTl ⊢;omega)
  have c4:=cat_l (((HD++T++ [10]++X)++U)++ [32]) (Lib.itoa v) (by simp at hTl ⊢;omega)
  simp (disch:=first|omega|assumption|exact bd (by with_unfolding_all rfl)|exact Or.inl rfl|exact Or.inl trivial|exact okL_map _ (fun _=>rfl) _|(simp only[VVlen]<;>omega)|fail) only[O1,WA,slotsL,opdsA,Nat.reduceEqDiff,Nat.reduceLT,Nat.reduceAdd,Nat.reduceBEq,Int.reduceAdd,Int.reduceSub,Int.reduceLT,Int.reduceLE,Int.reduceEq,Int.reduceNeg,↓reduceIte,reduceCtorEq,List.replicate,c11l0,rowI_dv,hL,iD_dv,hV,c3]
  all_goals try (exfalso;omega)
  refine callV_flat (hdc _) ?_
  simp (disch:=first|omega|assumption|exact bd (by with_unfolding_all rfl)|exact Or.inl rfl|exact Or.inl trivial|exact okL_map _ (fun _=>rfl) _|(simp only[VVlen]<;>omega)|fail) only[O1,WA,slotsL,opdsA,Nat.reduceEqDiff,Nat.reduceLT,Nat.reduceAdd,Nat.reduceBEq,Int.reduceAdd,Int.reduceSub,Int.reduceLT,Int.reduceLE,Int.reduceEq,Int.reduceNeg,↓reduceIte,reduceCtorEq,List.replicate,c4]
  exact ⟨_,_,_,by omega,.refl _ _,j+1,rfl,hlj,by rw[hts];simp,rfl⟩
 ·have:j=L.length:=by omega
  subst this
  rw[List.take_length]
  have hR:rowT X L=X++spT (L.map Lib.itoa):=rfl
  simp (disch:=first|omega|assumption|exact bd (by with_unfolding_all rfl)|exact Or.inl rfl|exact Or.inl trivial|exact okL_map _ (fun _=>rfl) _|(simp only[VVlen]<;>omega)|fail) only[O1,WA,slotsL,opdsA,Nat.reduceEqDiff,Nat.reduceLT,Nat.reduceAdd,Nat.reduceBEq,Int.reduceAdd,Int.reduceSub,Int.reduceLT,Int.reduceLE,Int.reduceEq,Int.reduceNeg,↓reduceIte,reduceCtorEq,List.replicate,c11l0,rowI_dv,hL]
  all_goals try (exfalso;omega)
  exact ⟨_,_,_,by omega,.refl _ _,k+1,rfl,hlt,by rw[hsn,hR];simp,rfl⟩
end
end Go.Proofs.YteibgbbfcjgjiaaDoor
namespace Go.Proofs.YteibgbbfcjgjiaaDoor
open Go Go.Itp
set_option maxRecDepth 100000
set_option maxHeartbeats 2000000
set_option linter.unusedSimpArgs false
set_option linter.unusedVariables false
theorem fed_snoc (ls:List (List UInt8)) (x:List UInt8):fed (ls++ [x])=fed ls++(x++ [10]):=by simp[fed]
theorem join_head (S:List (List UInt8)):Lib.join (sizeL::S) [32]=headT S:=by rw[join_one,← sp_join];rfl
theorem fed_len (h:List UInt8) (rs:List (List UInt8)):(fed (h::rs)).length=h.length+(tlT rs).length+1:=by rw[fed_tl];simp;omega
section
variable (w:World) (n:Nat)
theorem wStr_w {C:Ctx} {st:VSt} {Q:V→VSt→Prop} (hC:C.E=EN w (n+3)) (b r:Nat) (p:V) (l x:List UInt8) (hb:aget st.own b=some (.box 61 1 [p,.gr 2 r l.length])) (hr:aget st.own r=some (.gro 5 1 false (strD ⟨l.toArray⟩))) (hp:selfP b p) (hro:st.ro≤b) (hro2:st.ro≤r) (hrb:r ≠ b) (hlt:b ≠ st.next)
  (hsz:l.length+x.length≤1099511627776) (hq:Q (.tup [.sc (.int .i64 x.length),.sc .nilIface]) ⟨(st.next,.gro 5 1 false (strD ⟨(l++x).toArray⟩))::aset (adel r st.own) b (.box 61 1 [.ptr b 0,.gr 2 st.next (l.length+x.length)]),st.next+1,st.ro⟩):
  CallV C 29 [.ptr b 0,strV x] st Q:=by
 have h1:=mk_size l
 have h2:=mk_size x
 have h3:(ByteArray.mk l.toArray)++(ByteArray.mk x.toArray)=⟨(l++x).toArray⟩:=by
  apply ByteArray.ext;apply Array.ext'
  rw[ByteArray.data_append,Array.toList_append]
 refine writeString_w w n hC b r p ⟨l.toArray⟩ ⟨x.toArray⟩ (by rw[h1];exact hb) hr hp hro hro2 hrb hlt (by rw[h1,h2];exact hsz) ?_
 rw[h1,h2,h3]
 exact hq
theorem blen_p (st:VSt) (b e r m:Nat) (p:V) (hb:aget st.own b=some (.box 61 e [p,.gr 2 r m])) (hm:m≤1000000):VSpecO (EN w (n+1)) 33 st [.ptr b 0] (.sc (.int .i64 m)):=by
 refine vspecO_g rfl rfl (fun _ _=>rfl) (Nat.le_of_ble_eq_true rfl) rfl fun C hC h0=>⟨⟨st.own,st.next,st.next⟩,?_⟩
 simp (disch:=first|omega|assumption|exact bd (by with_unfolding_all rfl)|exact Or.inl rfl|exact Or.inl trivial|exact okL_map _ (fun _=>rfl) _|(simp only[VVlen]<;>omega)|fail) only[O1,WA,slotsL,opdsA,Nat.reduceEqDiff,Nat.reduceLT,Nat.reduceAdd,Nat.reduceBEq,Int.reduceAdd,Int.reduceSub,Int.reduceLT,Int.reduceLE,Int.reduceEq,Int.reduceNeg,↓reduceIte,reduceCtorEq,List.replicate,c33,hb]
 exact .refl _ _
theorem text_p (s t u r:Nat) (hs:s ≠ 1) (S N:List (List UInt8)) (M:List (List Int)) (hc0:checkS S N M=0):VSpec (EN w (n+5)) 10 [tableV s t u r S N M] (.tup [strV (bigF (S,N,M)).1,.sc (.int .i64 (bigF (S,N,M)).2)]) ⟨[],0,0⟩:=by
 refine vspec_flat rfl rfl (fun _ _=>rfl) (Nat.le_of_ble_eq_true rfl) (oldVals w) rfl fun C hC h0=>?_
 have g:=check_good hc0
 have hm:=good_mod g
 have hc:=check_p w (n+1) s t u r S N M hm
 have hrn:C.E.rounds=many:=by rw[hC,callP_rounds]
 obtain ⟨g1,g2,g3,g4,g5,g6,g7,g8⟩:=g
 have g:Good S N M:=⟨g1,g2,g3,g4,g5,g6,g7,g8⟩
 rw[hc0] at hc
 have hSm:(S.map sD).length=S.length:=by rw[List.length_map]
 simp (disch:=first|omega|assumption|exact bd (by with_unfolding_all rfl)|exact Or.inl rfl|exact Or.inl trivial|exact okL_map _ (fun _=>rfl) _|(simp only[VVlen]<;>omega)|fail) only[O1,WA,slotsL,opdsA,Nat.reduceEqDiff,Nat.reduceLT,Nat.reduceAdd,Nat.reduceBEq,Int.reduceAdd,Int.reduceSub,Int.reduceLT,Int.reduceLE,Int.reduceEq,Int.reduceNeg,↓reduceIte,reduceCtorEq,List.replicate,c10]
 refine callV_flat (by rw[hC];exact hc.flat rfl rfl) ?_
 simp (disch:=first|omega|assumption|exact bd (by with_unfolding_all rfl)|exact Or.inl rfl|exact Or.inl trivial|exact okL_map _ (fun _=>rfl) _|(simp only[VVlen]<;>omega)|fail) only[O1,WA,slotsL,opdsA,Nat.reduceEqDiff,Nat.reduceLT,Nat.reduceAdd,Nat.reduceBEq,Int.reduceAdd,Int.reduceSub,Int.reduceLT,Int.reduceLE,Int.reduceEq,Int.reduceNeg,↓reduceIte,reduceCtorEq,List.replicate,sD_dv]
 have hhl:=heads_len g4 S.length
 rw[List.take_length] at hhl
 have hhl:(headT S).length≤4+S.length*41:=hhl
 have hj:∀ (st:VSt) (xs:List V),snapL st.own xs=some [.sl 2 (sizeL::S).length ((sizeL::S).map sD),.sc (.string ⟨#[32]⟩)]→VSpecO C.E 30 st xs (strV (headT S)):=fun st xs h1=>by
  rw[hC,← join_head]
  exact (VSpec.ofO (join_s w (n+3) ⟨[],0,0⟩ 2 (by decide) (sizeL::S) [32] (by simp;omega) (by rw[join_head];omega))).flat rfl h1
 have hbf:bigF (S,N,M)=if 8000<(fed (headT S::rowsT N M)).length then ([],4) else (fed (headT S::rowsT N M),0):=rfl
 rw[hbf]
 refine callV_flat (hj _ _ ?hs) ?_
 case hs=>
  show (snapV _ (.gr 2 3 (1+S.length))).bind _=_
  rw[snap_grD (o:=3) (t:=9) (z:=false) (l:=(sizeL::S).map sD) rfl (by simp;omega),Nat.add_comm]
  rfl
 generalize headT S=HD at*
 refine callV_weak (fun C' hn'=>weak_nilCell (C:=C') (fr:= []) (l:= [.sc (.pointer none),.sc (.slice none 0 0)]) 1 61 1 1 5 1 rfl rfl (Nat.ne_of_beq_eq_false rfl)) ?_
 refine wStr_w w (n+1) hC 1 4 (.sc (.pointer none)) [] HD rfl rfl (.inl rfl) (Nat.zero_le _) (Nat.zero_le _) (by decide) (Nat.ne_of_beq_eq_false rfl) (by simp;omega) ?_
 simp (disch:=first|omega|assumption|exact bd (by with_unfolding_all rfl)|exact Or.inl rfl|exact Or.inl trivial|exact okL_map _ (fun _=>rfl) _|(simp only[VVlen]<;>omega)|fail) only[O1,WA,slotsL,opdsA,Nat.reduceEqDiff,Nat.reduceLT,Nat.reduceAdd,Nat.reduceBEq,Int.reduceAdd,Int.reduceSub,Int.reduceLT,Int.reduceLE,Int.reduceEq,Int.reduceNeg,↓reduceIte,reduceCtorEq,List.replicate]
 have nb:∀ a b:Nat,Nat.beq a b=false→a ≠ b:=fun a b=>Nat.ne_of_beq_eq_false
 refine writeByte_w w (n+1) hC 1 5 (.ptr 1 0) HD 10 (by decide) rfl rfl (.inr rfl) (Nat.zero_le _) (Nat.zero_le _) (by decide) (nb _ _ rfl) (nb _ _ rfl) (nb _ _ rfl) (by omega) ?_
 simp (disch:=first|omega|assumption|exact bd (by with_unfolding_all rfl)|exact Or.inl rfl|exact Or.inl trivial|exact okL_map _ (fun _=>rfl) _|(simp only[VVlen]<;>omega)|fail) only[O1,WA,slotsL,opdsA,Nat.reduceEqDiff,Nat.reduceLT,Nat.reduceAdd,Nat.reduceBEq,Int.reduceAdd,Int.reduceSub,Int.reduceLT,Int.reduceLE,Int.reduceEq,Int.reduceNeg,↓reduceIte,reduceCtorEq,List.replicate]
 have hf0:fed (HD::rowsT (N.take 0) (M.take 0))=HD++ [UInt8.ofNat 10]:=by simp[rowsT,fed]
 refine g_while (fun m fr st=>∃ (k:Nat) (p:V),m=M.length - k∧k≤M.length∧selfP 1 p∧fr= [(1,.ptr 0 0),(5,.ptr 1 0),(23,rowsV u r M),(24,.sc (.int .i64 M.length)),(25,.sc (.int .i64 k))]∧
  st=⟨[(2,.gro 5 1 false (strD ⟨(fed (HD::rowsT (N.take k) (M.take k))).toArray⟩)),(1,.box 61 1 [p,.gr 2 2 (fed (HD::rowsT (N.take k) (M.take k))).length]),(0,tabO s t u r S N M)],3,0⟩) M.length ?_ ⟨_,_,weak_to [(7,2),(1,1),(0,0)] 3 h0 rfl rfl rfl rfl,0,.ptr 1 0,by omega,Nat.zero_le _,.inr rfl,rfl,by rw[hf0,List.length_append];rfl⟩ ?_
 ·rw[hrn];unfold many;omega
 rintro m fr st ⟨k,p,rfl,hk,hp,rfl,rfl⟩
 have htl:=tl_len g k (by omega)
 have hk500:k*500≤30*500:=Nat.mul_le_mul_right _ (by omega)
 have hfl:=fed_len HD (rowsT (N.take k) (M.take k))
 have hMm:(M.map (rowI r)).length=M.length:=by rw[List.length_map]
 by_cases hlt:k<M.length
 case neg=>
  have:k=M.length:=by omega
  subst this
  rw[List.take_length,g3,List.take_length] at hfl htl ⊢
  generalize fed (HD::rowsT N M)=F at*
  have hFz:=mk_size F
  have hbl:=fun (st:VSt) (h:aget st.own 1=some (.box 61 1 [p,.gr 2 2 F.length]))=>blen_p w (n+3) st 1 1 2 F.length p h (by omega)
  by_cases hb:8000<F.length
  ·rw[if_pos hb]
   simp (disch:=first|omega|assumption|exact bd (by with_unfolding_all rfl)|exact Or.inl rfl|exact Or.inl trivial|exact okL_map _ (fun _=>rfl) _|(simp only[VVlen]<;>omega)|fail) only[O1,WA,slotsL,opdsA,Nat.reduceEqDiff,Nat.reduceLT,Nat.reduceAdd,Nat.reduceBEq,Int.reduceAdd,Int.reduceSub,Int.reduceLT,Int.reduceLE,Int.reduceEq,Int.reduceNeg,↓reduceIte,reduceCtorEq,List.replicate,c10l1]
   refine callV_flat (by rw[hC];refine hbl _ ?_;rfl) ?_
   simp (disch:=first|omega|assumption|exact bd (by with_unfolding_all rfl)|exact Or.inl rfl|exact Or.inl trivial|exact okL_map _ (fun _=>rfl) _|(simp only[VVlen]<;>omega)|fail) only[O1,WA,slotsL,opdsA,Nat.reduceEqDiff,Nat.reduceLT,Nat.reduceAdd,Nat.reduceBEq,Int.reduceAdd,Int.reduceSub,Int.reduceLT,Int.reduceLE,Int.reduceEq,Int.reduceNeg,↓reduceIte,reduceCtorEq,List.replicate]
   all_goals try (exfalso;omega)
   exact weak_flat rfl h0 rfl
  ·rw[if_neg hb]
   simp (disch:=first|omega|assumption|exact bd (by with_unfolding_all rfl)|exact Or.inl rfl|exact Or.inl trivial|exact okL_map _ (fun _=>rfl) _|(simp only[VVlen]<;>omega)|fail) only[O1,WA,slotsL,opdsA,Nat.reduceEqDiff,Nat.reduceLT,Nat.reduceAdd,Nat.reduceBEq,Int.reduceAdd,Int.reduceSub,Int.reduceLT,Int.reduceLE,Int.reduceEq,Int.reduceNeg,↓reduceIte,reduceCtorEq,List.replicate,c10l1]
   refine callV_flat (by rw[hC];refine hbl _ ?_;rfl) ?_
   simp (disch:=first|omega|assumption|exact bd (by with_unfolding_all rfl)|exact Or.inl rfl|exact Or.inl trivial|exact okL_map _ (fun _=>rfl) _|(simp only[VVlen]<;>omega)|fail) only[O1,WA,slotsL,opdsA,Nat.reduceEqDiff,Nat.reduceLT,Nat.reduceAdd,Nat.reduceBEq,Int.reduceAdd,Int.reduceSub,Int.reduceLT,Int.reduceLE,Int.reduceEq,Int.reduceNeg,↓reduceIte,reduceCtorEq,List.replicate]
   all_goals try (exfalso;omega)
   refine string_w w (n+3) hC 1 2 p ⟨F.toArray⟩ (by rw[hFz];rfl) rfl (Nat.zero_le _) (Nat.zero_le _) (by omega) fun st' hst=>?_
   repeat' (first|(simp (disch:=first|omega|assumption|exact bd (by with_unfolding_all rfl)|exact Or.inl rfl|exact Or.inl trivial|exact okL_map _ (fun _=>rfl) _|(simp only[VVlen]<;>omega)|fail) only[O1,WA,slotsL,opdsA,Nat.reduceEqDiff,Nat.reduceLT,Nat.reduceAdd,Nat.reduceBEq,Int.reduceAdd,Int.reduceSub,Int.reduceLT,Int.reduceLE,Int.reduceEq,Int.reduceNeg,↓reduceIte,reduceCtorEq,List.replicate])|apply gC_drawW|((first|apply gI_dec|apply gG_dec|apply gPG_dec|apply gI_var|apply gG_var|apply gPG_var)<;>intro _))
   exact weak_flat rfl h0 hst
 have hkN:k<N.length:=by omega
 have hxN:N[k]! ∈ N:=by rw[getElem!_pos N k hkN];exact List.getElem_mem hkN
 have hxM:M[k]! ∈ M:=by rw[getElem!_pos M k hlt];exact List.getElem_mem hlt
 have hwl:=word_len (g5 _ hxN)
 have hrl:=g7 _ hxM
 have hrv:=g6 _ hxM
 have hrt:=rowsT_take N M k hkN hlt
 have hsn:fed (HD::rowsT (N.take (k+1)) (M.take (k+1)))=fed (HD::rowsT (N.take k) (M.take k))++(rowT N[k]! M[k]! ++ [10]):=by rw[hrt,← List.cons_append,fed_snoc]
 generalize hF:fed (HD::rowsT (N.take k) (M.take k))=F at*
 have hNm:(N.map sD).length=N.length:=by rw[List.length_map]
 generalize hX:N[k]! =X at*
 generalize hL:M[k]! =L at*
 simp (disch:=first|omega|assumption|exact bd (by with_unfolding_all rfl)|exact Or.inl rfl|exact Or.inl trivial|exact okL_map _ (fun _=>rfl) _|(simp only[VVlen]<;>omega)|fail) only[O1,WA,slotsL,opdsA,Nat.reduceEqDiff,Nat.reduceLT,Nat.reduceAdd,Nat.reduceBEq,Int.reduceAdd,Int.reduceSub,Int.reduceLT,Int.reduceLE,Int.reduceEq,Int.reduceNeg,↓reduceIte,reduceCtorEq,List.replicate,c10l1,rowI_dv,hL,sD_dv,hX]
 refine wStr_w w (n+1) hC 1 2 p F X rfl rfl hp (Nat.zero_le _) (Nat.zero_le _) (by decide) (nb _ _ rfl) (by omega) ?_
 simp (disch:=first|omega|assumption|exact bd (by with_unfolding_all rfl)|exact Or.inl rfl|exact Or.inl trivial|exact okL_map _ (fun _=>rfl) _|(simp only[VVlen]<;>omega)|fail) only[O1,WA,slotsL,opdsA,Nat.reduceEqDiff,Nat.reduceLT,Nat.reduceAdd,Nat.reduceBEq,Int.reduceAdd,Int.reduceSub,Int.reduceLT,Int.reduceLE,Int.reduceEq,Int.reduceNeg,↓reduceIte,reduceCtorEq,List.replicate]
 have hLm:(L.map iD).length=L.length:=by rw[List.length_map]
 refine g_while (fun m fr st=>∃ (j:Nat) (p:V),m=L.length - j∧j≤L.length∧selfP 1 p∧fr= [(1,.ptr 0 0),(5,.ptr 1 0),(23,rowsV u r M),(24,.sc (.int .i64 M.length)),(25,.sc (.int .i64 k)),(36,intsV r L),(37,.sc (.int .i64 L.length)),(38,.sc (.int .i64 j))]∧
  st=⟨[(2,.gro 5 1 false (strD ⟨((F++X)++spT ((L.take j).map Lib.itoa)).toArray⟩)),(1,.box 61 1 [p,.gr 2 2 ((F++X)++spT ((L.take j).map Lib.itoa)).length]),(0,tabO s t u r S N M)],3,0⟩) L.length ?_ ⟨_,_,weak_to [(3,2),(1,1),(0,0)] 3 h0 rfl rfl rfl rfl,0,.ptr 1 0,by omega,Nat.zero_le _,.inr rfl,rfl,by simp[spT];rfl⟩ ?_
 ·rw[hrn];unfold many;omega
 rintro m fr st ⟨j,p,rfl,hj,hp,rfl,rfl⟩
 have hil:=itoas_len hrv j
 have h22:L.length*22≤20*22:=Nat.mul_le_mul_right _ (by omega)
 have hGl:((F++X)++spT ((L.take j).map Lib.itoa)).length≤20000:=by simp only[List.length_append];omega
 by_cases hlj:j<L.length
 ·have hv:=hrv L[j]! (by rw[getElem!_pos L j hlj];exact List.getElem_mem hlj)
  have hi1:=Lib.itoa_length_le L[j]! (by omega) (by omega)
  have hit:∀ st:VSt,VSpecO C.E 32 st [.sc (.int .i64 L[j]!)] (strV (Lib.itoa L[j]!)):=fun st=>by rw[hC];exact itoa_s w (n+3) st _ (by omega) (by omega)
  have hts:spT ((L.take (j+1)).map Lib.itoa)=spT ((L.take j).map Lib.itoa)++32::Lib.itoa L[j]! :=by
   rw[List.take_succ_eq_append_getElem hlj,← getElem!_pos L j hlj,List.map_append,List.map_cons,List.map_nil,spT_snoc]
  generalize hV:L[j]! =v at*
  generalize hU:(F++X)++spT ((L.take j).map Lib.itoa)=U at*
  simp (disch:=first|omega|assumption|exact bd (by with_unfolding_all rfl)|exact Or.inl rfl|exact Or.inl trivial|exact okL_map _ (fun _=>rfl) _|(simp only[VVlen]<;>omega)|fail) only[O1,WA,slotsL,opdsA,Nat.reduceEqDiff,Nat.reduceLT,Nat.reduceAdd,Nat.reduceBEq,Int.reduceAdd,Int.reduceSub,Int.reduceLT,Int.reduceLE,Int.reduceEq,Int.reduceNeg,↓reduceIte,reduceCtorEq,List.replicate,c10l0,iD_dv,hV]
  refine writeByte_w w (n+1) hC 1 2 p U 32 (by decide) rfl rfl hp (Nat.zero_le _) (Nat.zero_le _) (by decide) (nb _ _ rfl) (nb _ _ rfl) (nb _ _ rfl) (by omega) ?_
  simp (disch:=first|omega|assumption|exact bd (by with_unfolding_all rfl)|exact Or.inl rfl|exact Or.inl trivial|exact okL_map _ (fun _=>rfl) _|(simp only[VVlen]<;>omega)|fail) only[O1,WA,slotsL,opdsA,Nat.reduceEqDiff,Nat.reduceLT,Nat.reduceAdd,Nat.reduceBEq,Int.reduceAdd,Int.reduceSub,Int.reduceLT,Int.reduceLE,Int.reduceEq,Int.reduceNeg,↓reduceIte,reduceCtorEq,List.replicate]
  refine callV_flat (hit _) ?_
  refine wStr_w w (n+1) hC 1 4 (.ptr 1 0) (U++ [UInt8.ofNat 32]) (Lib.itoa v) (by rw[List.length_append];rfl) rfl (.inr rfl) (Nat.zero_le _) (Nat.zero_le _) (by decide) (nb _ _ rfl) (by simp;omega) ?_
  simp (disch:=first|omega|assumption|exact bd (by with_unfolding_all rfl)|exact Or.inl rfl|exact Or.inl trivial|exact okL_map _ (fun _=>rfl) _|(simp only[VVlen]<;>omega)|fail) only[O1,WA,slotsL,opdsA,Nat.reduceEqDiff,Nat.reduceLT,Nat.reduceAdd,Nat.reduceBEq,Int.reduceAdd,Int.reduceSub,Int.reduceLT,Int.reduceLE,Int.reduceEq,Int.reduceNeg,↓reduceIte,reduceCtorEq,List.replicate]
  refine ⟨_,_,_,by omega,weak_to [(5,2),(1,1),(0,0)] 3 h0 rfl rfl rfl rfl,j+1,.ptr 1 0,rfl,hlj,.inr rfl,rfl,?_⟩
  have hU2:F++X++spT ((L.take (j+1)).map Lib.itoa)=U++ [UInt8.ofNat 32]++Lib.itoa v:=by rw[hts,← hU];simp
  rw[hU2,List.length_append (bs:=Lib.itoa v)]
  rfl
 ·have:j=L.length:=by omega
  subst this
  rw[List.take_length] at hGl ⊢
  have hR:rowT X L=X++spT (L.map Lib.itoa):=rfl
  have hU2:F++(rowT X L++ [10])=(F++X++spT (L.map Lib.itoa))++ [UInt8.ofNat 10]:=by rw[hR];simp
  generalize F++X++spT (L.map Lib.itoa)=U at*
  simp (disch:=first|omega|assumption|exact bd (by with_unfolding_all rfl)|exact Or.inl rfl|exact Or.inl trivial|exact okL_map _ (fun _=>rfl) _|(simp only[VVlen]<;>omega)|fail) only[O1,WA,slotsL,opdsA,Nat.reduceEqDiff,Nat.reduceLT,Nat.reduceAdd,Nat.reduceBEq,Int.reduceAdd,Int.reduceSub,Int.reduceLT,Int.reduceLE,Int.reduceEq,Int.reduceNeg,↓reduceIte,reduceCtorEq,List.replicate,c10l0]
  refine writeByte_w w (n+1) hC 1 2 p U 10 (by decide) rfl rfl hp (Nat.zero_le _) (Nat.zero_le _) (by decide) (nb _ _ rfl) (nb _ _ rfl) (nb _ _ rfl) (by omega) ?_
  simp (disch:=first|omega|assumption|exact bd (by with_unfolding_all rfl)|exact Or.inl rfl|exact Or.inl trivial|exact okL_map _ (fun _=>rfl) _|(simp only[VVlen]<;>omega)|fail) only[O1,WA,slotsL,opdsA,Nat.reduceEqDiff,Nat.reduceLT,Nat.reduceAdd,Nat.reduceBEq,Int.reduceAdd,Int.reduceSub,Int.reduceLT,Int.reduceLE,Int.reduceEq,Int.reduceNeg,↓reduceIte,reduceCtorEq,List.replicate]
  refine ⟨_,_,_,by omega,weak_to [(4,2),(1,1),(0,0)] 3 h0 rfl rfl rfl rfl,k+1,.ptr 1 0,rfl,hlt,.inr rfl,rfl,?_⟩
  rw[hsn,hU2,List.length_append (bs:= [UInt8.ofNat 10])]
  rfl
end
end Go.Proofs.YteibgbbfcjgjiaaDoor
namespace Go.Proofs.YteibgbbfcjgjiaaDoor
open Go Go.Itp
set_option maxRecDepth 100000
set_option maxHeartbeats 2000000
set_option linter.unusedSimpArgs false
set_option linter.unusedVariables false
section
variable (w:World) (n:Nat)
theorem textB_p (s t u r:Nat) (hs:s ≠ 1) (T:Tb) (hm:Mod T.1 T.2.1 T.2.2):VSpec (EN w (n+5)) 10 [tableV s t u r T.1 T.2.1 T.2.2] (.tup [strV (textF T).1,.sc (.int .i64 (textF T).2)]) ⟨[],0,0⟩:=by
 by_cases h:checkS T.1 T.2.1 T.2.2=0
 ·have:=text_p w n s t u r hs T.1 T.2.1 T.2.2 h
  have e:textF T=bigF T:=by unfold textF bigF;rw[if_neg (fun hh=>hh h)]
  rw[e];exact this
 ·have:=textE_p w n s t u r T.1 T.2.1 T.2.2 hm h
  have e:textF T=([],checkS T.1 T.2.1 T.2.2):=by unfold textF;rw[if_pos h]
  rw[e];exact this
theorem rtextB_p (s t u r:Nat) (T:Tb) (hm:Mod T.1 T.2.1 T.2.2):VSpec (EN w (n+4)) 11 [tableV s t u r T.1 T.2.1 T.2.2] (.tup [strV (textF T).1,.sc (.int .i64 (textF T).2)]) ⟨[],0,0⟩:=by
 by_cases h:checkS T.1 T.2.1 T.2.2=0
 ·have:=rtext_p w n s t u r T.1 T.2.1 T.2.2 h
  have e:textF T=bigF T:=by unfold textF bigF;rw[if_neg (fun hh=>hh h)]
  rw[e];exact this
 ·have:=rtextE_p w n s t u r T.1 T.2.1 T.2.2 hm h
  have e:textF T=([],checkS T.1 T.2.1 T.2.2):=by unfold textF;rw[if_pos h]
  rw[e];exact this
theorem same36_p (s s':Nat) (l:List Int) (hl:l.length≤100000000):VSpec (EN w (n+1)) 28 [intsV s l,intsV s' l] (.sc (.bool true)) ⟨[],0,0⟩:=by
 refine vspec_flat rfl rfl (fun _ _=>rfl) (Nat.le_of_ble_eq_true rfl) (oldVals w) rfl fun C hC h0=>?_
 simp (disch:=first|omega|assumption|exact bd (by with_unfolding_all rfl)|exact Or.inl rfl|exact Or.inl trivial|exact okL_map _ (fun _=>rfl) _|(simp only[VVlen]<;>omega)|fail) only[O1,WA,slotsL,opdsA,Nat.reduceEqDiff,Nat.reduceLT,Nat.reduceAdd,Nat.reduceBEq,Int.reduceAdd,Int.reduceSub,Int.reduceLT,Int.reduceLE,Int.reduceEq,Int.reduceNeg,↓reduceIte,reduceCtorEq,List.replicate,c28]
 refine g_while (fun m fr st=>∃ k:Nat,m=l.length - k∧k≤l.length∧fr= [(0,intsV s l),(1,intsV s' l),(5,.sc (.int .i64 k))]∧st=⟨[],0,0⟩) l.length ?_ ⟨_,_,.refl _ _,0,by omega,Nat.zero_le _,rfl,rfl⟩ ?_
 ·rw[hC,callP_rounds];unfold many;omega
 rintro m fr st ⟨k,rfl,hk,rfl,rfl⟩
 by_cases hlt:k<l.length
 ·generalize hX:l[k]! =X at*
  simp (disch:=first|omega|assumption|exact bd (by with_unfolding_all rfl)|exact Or.inl rfl|exact Or.inl trivial|exact okL_map _ (fun _=>rfl) _|(simp only[VVlen]<;>omega)|fail) only[O1,WA,slotsL,opdsA,Nat.reduceEqDiff,Nat.reduceLT,Nat.reduceAdd,Nat.reduceBEq,Int.reduceAdd,Int.reduceSub,Int.reduceLT,Int.reduceLE,Int.reduceEq,Int.reduceNeg,↓reduceIte,reduceCtorEq,List.replicate,c28l0,iD_dv,hX]
  all_goals try (exfalso;omega)
  exact ⟨_,_,_,by omega,.refl _ _,k+1,rfl,hlt,rfl,rfl⟩
 ·have:k=l.length:=by omega
  subst this
  simp (disch:=first|omega|assumption|exact bd (by with_unfolding_all rfl)|exact Or.inl rfl|exact Or.inl trivial|exact okL_map _ (fun _=>rfl) _|(simp only[VVlen]<;>omega)|fail) only[O1,WA,slotsL,opdsA,Nat.reduceEqDiff,Nat.reduceLT,Nat.reduceAdd,Nat.reduceBEq,Int.reduceAdd,Int.reduceSub,Int.reduceLT,Int.reduceLE,Int.reduceEq,Int.reduceNeg,↓reduceIte,reduceCtorEq,List.replicate,c28l0]
  exact weak_flat rfl h0 rfl
theorem same_p (s t u r s' t' u' r':Nat) (S N:List (List UInt8)) (M:List (List Int)) (hm:Mod S N M):VSpec (EN w (n+2)) 14 [tableV s t u r S N M,tableV s' t' u' r' S N M] (.sc (.bool true)) ⟨[],0,0⟩:=by
 refine vspec_flat rfl rfl (fun _ _=>rfl) (Nat.le_of_ble_eq_true rfl) (oldVals w) rfl fun C hC h0=>?_
 obtain ⟨m1,m2,m3,m4,m5,m6⟩:=hm
 have hrn:C.E.rounds=many:=by rw[hC,callP_rounds]
 simp (disch:=first|omega|assumption|exact bd (by with_unfolding_all rfl)|exact Or.inl rfl|exact Or.inl trivial|exact okL_map _ (fun _=>rfl) _|(simp only[VVlen]<;>omega)|fail) only[O1,WA,slotsL,opdsA,Nat.reduceEqDiff,Nat.reduceLT,Nat.reduceAdd,Nat.reduceBEq,Int.reduceAdd,Int.reduceSub,Int.reduceLT,Int.reduceLE,Int.reduceEq,Int.reduceNeg,↓reduceIte,reduceCtorEq,List.replicate,c14]
 all_goals try (exfalso;omega)
 refine g_while (fun m fr st=>∃ k:Nat,m=S.length - k∧k≤S.length∧fr= [(2,.ptr 0 0),(3,.ptr 1 0),(5,.sc (.int .i64 k))]∧st=⟨[(1,tabO s' t' u' r' S N M),(0,tabO s t u r S N M)],2,0⟩) S.length ?_ ⟨_,_,.refl _ _,0,by omega,Nat.zero_le _,rfl,rfl⟩ ?_
 ·rw[hrn];unfold many;omega
 rintro m fr st ⟨k,rfl,hk,rfl,rfl⟩
 by_cases hlt:k<S.length
 ·generalize hX:S[k]! =X at*
  simp (disch:=first|omega|assumption|exact bd (by with_unfolding_all rfl)|exact Or.inl rfl|exact Or.inl trivial|exact okL_map _ (fun _=>rfl) _|(simp only[VVlen]<;>omega)|fail) only[O1,WA,slotsL,opdsA,Nat.reduceEqDiff,Nat.reduceLT,Nat.reduceAdd,Nat.reduceBEq,Int.reduceAdd,Int.reduceSub,Int.reduceLT,Int.reduceLE,Int.reduceEq,Int.reduceNeg,↓reduceIte,reduceCtorEq,List.replicate,c14l2,sD_dv,hX]
  all_goals try (exfalso;omega)
  exact ⟨_,_,_,by omega,.refl _ _,k+1,rfl,hlt,rfl,rfl⟩
 have:k=S.length:=by omega
 subst this
 simp (disch:=first|omega|assumption|exact bd (by with_unfolding_all rfl)|exact Or.inl rfl|exact Or.inl trivial|exact okL_map _ (fun _=>rfl) _|(simp only[VVlen]<;>omega)|fail) only[O1,WA,slotsL,opdsA,Nat.reduceEqDiff,Nat.reduceLT,Nat.reduceAdd,Nat.reduceBEq,Int.reduceAdd,Int.reduceSub,Int.reduceLT,Int.reduceLE,Int.reduceEq,Int.reduceNeg,↓reduceIte,reduceCtorEq,List.replicate,c14l2]
 all_goals try (exfalso;omega)
 refine g_while (fun m fr st=>∃ k:Nat,m=N.length - k∧k≤N.length∧fr= [(2,.ptr 0 0),(3,.ptr 1 0),(6,.sc (.int .i64 k))]∧st=⟨[(1,tabO s' t' u' r' S N M),(0,tabO s t u r S N M)],2,0⟩) N.length ?_ ⟨_,_,.refl _ _,0,by omega,Nat.zero_le _,rfl,rfl⟩ ?_
 ·rw[hrn];unfold many;omega
 rintro m fr st ⟨k,rfl,hk,rfl,rfl⟩
 by_cases hlt:k<N.length
 ·generalize hX:N[k]! =X at*
  simp (disch:=first|omega|assumption|exact bd (by with_unfolding_all rfl)|exact Or.inl rfl|exact Or.inl trivial|exact okL_map _ (fun _=>rfl) _|(simp only[VVlen]<;>omega)|fail) only[O1,WA,slotsL,opdsA,Nat.reduceEqDiff,Nat.reduceLT,Nat.reduceAdd,Nat.reduceBEq,Int.reduceAdd,Int.reduceSub,Int.reduceLT,Int.reduceLE,Int.reduceEq,Int.reduceNeg,↓reduceIte,reduceCtorEq,List.replicate,c14l1,sD_dv,hX]
  all_goals try (exfalso;omega)
  exact ⟨_,_,_,by omega,.refl _ _,k+1,rfl,hlt,rfl,rfl⟩
 have:k=N.length:=by omega
 subst this
 simp (disch:=first|omega|assumption|exact bd (by with_unfolding_all rfl)|exact Or.inl rfl|exact Or.inl trivial|exact okL_map _ (fun _=>rfl) _|(simp only[VVlen]<;>omega)|fail) only[O1,WA,slotsL,opdsA,Nat.reduceEqDiff,Nat.reduceLT,Nat.reduceAdd,Nat.reduceBEq,Int.reduceAdd,Int.reduceSub,Int.reduceLT,Int.reduceLE,Int.reduceEq,Int.reduceNeg,↓reduceIte,reduceCtorEq,List.replicate,c14l1]
 all_goals try (exfalso;omega)
 refine g_while (fun m fr st=>∃ k:Nat,m=M.length - k∧k≤M.length∧fr= [(2,.ptr 0 0),(3,.ptr 1 0),(7,.sc (.int .i64 k))]∧st=⟨[(1,tabO s' t' u' r' S N M),(0,tabO s t u r S N M)],2,0⟩) M.length ?_ ⟨_,_,.refl _ _,0,by omega,Nat.zero_le _,rfl,rfl⟩ ?_
 ·rw[hrn];unfold many;omega
 rintro m fr st ⟨k,rfl,hk,rfl,rfl⟩
 by_cases hlt:k<M.length
 ·have hsm:=same36_p w n r r' M[k]! (m6 k hlt)
  generalize hX:M[k]! =X at*
  simp (disch:=first|omega|assumption|exact bd (by with_unfolding_all rfl)|exact Or.inl rfl|exact Or.inl trivial|exact okL_map _ (fun _=>rfl) _|(simp only[VVlen]<;>omega)|fail) only[O1,WA,slotsL,opdsA,Nat.reduceEqDiff,Nat.reduceLT,Nat.reduceAdd,Nat.reduceBEq,Int.reduceAdd,Int.reduceSub,Int.reduceLT,Int.reduceLE,Int.reduceEq,Int.reduceNeg,↓reduceIte,reduceCtorEq,List.replicate,c14l0,rowI_dv,hX]
  all_goals try (exfalso;omega)
  refine callV_flat (by rw[hC];exact hsm.flat rfl rfl) ?_
  simp (disch:=first|omega|assumption|exact bd (by with_unfolding_all rfl)|exact Or.inl rfl|exact Or.inl trivial|exact okL_map _ (fun _=>rfl) _|(simp only[VVlen]<;>omega)|fail) only[O1,WA,slotsL,opdsA,Nat.reduceEqDiff,Nat.reduceLT,Nat.reduceAdd,Nat.reduceBEq,Int.reduceAdd,Int.reduceSub,Int.reduceLT,Int.reduceLE,Int.reduceEq,Int.reduceNeg,↓reduceIte,reduceCtorEq,List.replicate]
  exact ⟨_,_,_,by omega,.refl _ _,k+1,rfl,hlt,rfl,rfl⟩
 have:k=M.length:=by omega
 subst this
 simp (disch:=first|omega|assumption|exact bd (by with_unfolding_all rfl)|exact Or.inl rfl|exact Or.inl trivial|exact okL_map _ (fun _=>rfl) _|(simp only[VVlen]<;>omega)|fail) only[O1,WA,slotsL,opdsA,Nat.reduceEqDiff,Nat.reduceLT,Nat.reduceAdd,Nat.reduceBEq,Int.reduceAdd,Int.reduceSub,Int.reduceLT,Int.reduceLE,Int.reduceEq,Int.reduceNeg,↓reduceIte,reduceCtorEq,List.replicate,c14l0]
 all_goals try (exfalso;omega)
 exact weak_flat rfl h0 rfl
theorem cut_p (l:List UInt8) (c:UInt8) (hl:l.length≤1000000):VSpec (EN w (n+1)) 39 [strV l,.sc (.int .u8 c.toNat)] (.gr 2 0 (words c l).length) ⟨[(0,.gro 9 1 false ((words c l).map sD))],1,0⟩:=by
 refine vspec_g rfl rfl (fun _ _=>rfl) (Nat.le_of_ble_eq_true rfl) (oldVals w) (retOK_gr (map_nil_iff rfl)) rfl fun C hC h0=>?_
 have hrn:C.E.rounds=many:=by rw[hC,callP_rounds]
 have hsz:=mk_size l
 simp (disch:=first|omega|assumption|exact bd (by with_unfolding_all rfl)|exact Or.inl rfl|exact Or.inl trivial|exact okL_map _ (fun _=>rfl) _|(simp only[VVlen]<;>omega)|fail) only[O1,WA,slotsL,opdsA,Nat.reduceEqDiff,Nat.reduceLT,Nat.reduceAdd,Nat.reduceBEq,Int.reduceAdd,Int.reduceSub,Int.reduceLT,Int.reduceLE,Int.reduceEq,Int.reduceNeg,↓reduceIte,reduceCtorEq,List.replicate,c39]
 refine g_while (fun m fr st=>∃ (dn:List (List UInt8)) (p x r:List UInt8),m=r.length+1∧l=p++(x++r)∧c ∉ x∧words c l=dn++words c (x++r)∧fr= [(0,strV l),(1,.sc (.int .u8 c.toNat)),(5,.gr 2 0 dn.length),(6,.sc (.int .i64 p.length)),(7,.sc (.int .i64 ((p.length+x.length:Nat):Int)))]∧st=⟨[(0,.gro 9 1 false (dn.map sD))],1,0⟩∨(m=0∧dn=words c l∧fr= [(0,strV l),(1,.sc (.int .u8 c.toNat)),(5,.gr 2 0 dn.length),(6,.sc (.int .i64 ((l.length:Int)+1))),(7,.sc (.int .i64 ((l.length:Int)+1)))]∧st=⟨[(0,.gro 9 1 false (dn.map sD))],1,0⟩)) (l.length+1) ?_ ⟨_,_,weak_nilSlot 5 9 1 rfl,[],[],[],l,.inl ⟨rfl,rfl,by simp,rfl,rfl,rfl⟩⟩ ?_
 ·rw[hrn];unfold many;omega
 rintro m fr st ⟨dn,p,x,r,⟨rfl,hlp,hx,hw,rfl,rfl⟩|⟨rfl,rfl,rfl,rfl⟩⟩
 case inr=>
  simp (disch:=first|omega|assumption|exact bd (by with_unfolding_all rfl)|exact Or.inl rfl|exact Or.inl trivial|exact okL_map _ (fun _=>rfl) _|(simp only[VVlen]<;>omega)|fail) only[O1,WA,slotsL,opdsA,Nat.reduceEqDiff,Nat.reduceLT,Nat.reduceAdd,Nat.reduceBEq,Int.reduceAdd,Int.reduceSub,Int.reduceLT,Int.reduceLE,Int.reduceEq,Int.reduceNeg,↓reduceIte,reduceCtorEq,List.replicate,c39l0]
  all_goals try (exfalso;omega)
  exact .refl _ _
 have hll:l.length=p.length+(x.length+r.length):=by rw[hlp];simp
 have hwl:=(words_len (c:=c) l.length (s:=l) (Nat.le_refl _)).1
 have hdl:dn.length≤l.length:=by
  have h1:=congrArg List.length hw
  have h2:=List.length_pos_iff.2 (words_ne c (x++r))
  rw[List.length_append] at h1
  omega
 have hdm:(dn.map sD).length=dn.length:=by rw[List.length_map]
 have e1:=slcS_both l .i64 .i64 (p.length:Int) ((p.length+x.length:Nat):Int) (by omega) (by omega) (by omega)
 have e2:List.take (p.length+x.length - p.length) (List.drop p.length l)=x:=by
  rw[hlp,List.drop_left,Nat.add_sub_cancel_left,List.take_left]
 simp only[Int.toNat_natCast] at e1
 rw[e2] at e1
 cases r with
 |nil=>
  have hr0:([]:List UInt8).length=0:=rfl
  rw[List.append_nil,words_free hx] at hw
  have hpx:((p.length+x.length:Nat):Int)=(l.length:Int):=by omega
  have hxD:D.sc (Value.string ⟨x.toArray⟩)=sD x:=rfl
  simp (disch:=first|omega|assumption|exact bd (by with_unfolding_all rfl)|exact Or.inl rfl|exact Or.inl trivial|exact okL_map _ (fun _=>rfl) _|(simp only[VVlen]<;>omega)|fail) only[O1,WA,slotsL,opdsA,Nat.reduceEqDiff,Nat.reduceLT,Nat.reduceAdd,Nat.reduceBEq,Int.reduceAdd,Int.reduceSub,Int.reduceLT,Int.reduceLE,Int.reduceEq,Int.reduceNeg,↓reduceIte,reduceCtorEq,List.replicate,c39l0,e1,sD_dv]
  all_goals try (exfalso;omega)
  rw[hpx]
  refine ⟨_,_,_,by omega,weak_to [(2,0)] 1 h0 rfl rfl rfl rfl,dn++ [x],[],[],[],.inr ⟨rfl,hw.symm,?_,?_⟩⟩
  ·rw[List.length_append];rfl
  ·rw[List.map_append];rfl
 |cons b r=>
  have hr0:(b::r).length=r.length+1:=rfl
  have hb:=idxStr_l l .i64 ((p.length+x.length:Nat):Int) (by omega) (by omega)
  have hg:l[p.length+x.length]! =b:=by
   rw[hlp,← List.append_assoc,getElem!_pos _ _ (by simp),List.getElem_append_right (by simp)]
   simp
  rw[Int.toNat_natCast,hg] at hb
  by_cases hbc:b=c
  ·subst hbc
   rw[words_app r hx] at hw
   simp (disch:=first|omega|assumption|exact bd (by with_unfolding_all rfl)|exact Or.inl rfl|exact Or.inl trivial|exact okL_map _ (fun _=>rfl) _|(simp only[VVlen]<;>omega)|fail) only[O1,WA,slotsL,opdsA,Nat.reduceEqDiff,Nat.reduceLT,Nat.reduceAdd,Nat.reduceBEq,Int.reduceAdd,Int.reduceSub,Int.reduceLT,Int.reduceLE,Int.reduceEq,Int.reduceNeg,↓reduceIte,reduceCtorEq,List.replicate,c39l0,e1,hb,sD_dv]
   all_goals try (exfalso;omega)
   refine ⟨_,_,_,?_,weak_to [(2,0)] 1 h0 rfl rfl rfl rfl,dn++ [x],p++(x++ [b]),[],r,.inl ⟨rfl,by rw[hlp];simp,by simp,by rw[hw];simp,?_,?_⟩⟩
   ·omega
   ·have hpx:(p++(x++ [b])).length=p.length+x.length+1:=by simp;omega
    rw[hpx,List.length_append];rfl
   ·rw[List.map_append];rfl
  ·have hne:¬ ((b.toNat:Nat):Int)=((c.toNat:Nat):Int):=fun h=>hbc (UInt8.toNat_inj.1 (by omega))
   simp (disch:=first|omega|assumption|exact bd (by with_unfolding_all rfl)|exact Or.inl rfl|exact Or.inl trivial|exact okL_map _ (fun _=>rfl) _|(simp only[VVlen]<;>omega)|fail) only[O1,WA,slotsL,opdsA,Nat.reduceEqDiff,Nat.reduceLT,Nat.reduceAdd,Nat.reduceBEq,Int.reduceAdd,Int.reduceSub,Int.reduceLT,Int.reduceLE,Int.reduceEq,Int.reduceNeg,↓reduceIte,reduceCtorEq,List.replicate,c39l0,e1,hb,hne,sD_dv]
   all_goals try (exfalso;omega)
   refine ⟨_,_,_,?_,.refl _ _,dn,p,x++ [b],r,.inl ⟨rfl,by rw[hlp];simp,?_,by rw[hw];simp,?_,rfl⟩⟩
   ·omega
   ·rw[List.mem_append,List.mem_singleton];rintro (h|h);exact hx h;exact hbc h.symm
   ·rw[List.length_append];rfl
end
end Go.Proofs.YteibgbbfcjgjiaaDoor
