/- What is proved: the law FileWrites returns true for every input. Conditions: none beyond the card's own.
   Texts: C19VA, S19D, H19V, F19a, F19b, F19c, F19d, F19e, F19f, F19g, F19h, F19i, F19j, F19k, F19l.
-/
import Derived.Test.YtelgheeinnednaaDoorPart4
import Derived.Test.YtelgheeinnednaaDoorProg
import Derived.Shelf.Strings.Builder1
import Derived.Shelf.Strings.Builder2
import Derived.Shelf.Strings.OnBuilder
import Derived.Shelf.Strings.Trim
import Derived.Shelf.Strings.SlTrimAscii
import Derived.Shelf.Small.Utf8
import Derived.Shelf.Small.Strs
import Derived.Shelf.Strconv.Itoa0
import Derived.Shelf.Strconv.Itoa1
import Derived.Shelf.LaysM
import Derived.Shelf.Strconv.Itoa2
import Derived.Shelf.Strconv.Itoa3
import Derived.Shelf.Strings.Search1
import Derived.Shelf.Strings.Runes
import Derived.Shelf.Strings.AsciiSet
import Derived.Shelf.Unicode.DecodeSlow
import Derived.KernelRfl
import Derived.Lib.ItoaLen
namespace Go.Proofs.YtelgheeinnednaaDoor
open Go Go.Itp
set_option maxRecDepth 100000
@[reducible] def O1 (d:Nat) (p:AOp):AOper:=⟨some d,none,p⟩
/- raddle/raddlelaw19.FileWrites -/
def c3:AFun:=⟨.seq (.ops [O1 2 (.box 29 (.tmp 0)),O1 3 (.box 29 (.tmp 1)),O1 4 (.mov (.const (.bool false)))] [2,3]) (.seq (.seq (.ops [O1 10 (.load (some 10) (.tmp 2)),O1 11 (.callF 4 [.tmp 10]),O1 12 (.mov (.tmp 11)),⟨some 13,some (12,false),.load (some 10) (.tmp 3)⟩,⟨some 14,some (12,false),.callF 4 [.tmp 13]⟩,O1 15 (.pick (.tmp 12) (.const (.bool true)) (.tmp 14))] [2,3,15]) (.cond (.tmp 15) (.seq (.ops [O1 4 (.mov (.const (.bool true)))] [4]) (.ret)) (.skip))) (.seq (.ops [O1 16 (.load (some 10) (.tmp 2)),O1 17 (.callF 5 [.tmp 16]),O1 5 (.alloc 29 [(1,(.string ⟨#[]⟩)),(2,(.int .i64 0)),(2,(.slice none 0 0)),(2,(.int .i64 0)),(3,(.slice none 0 0))]),⟨none,none,.store 10 (.tmp 5) (.tmp 17)⟩] [2,3,5]) (.seq (.ops [O1 19 (.load (some 10) (.tmp 5)),O1 20 (.callF 6 [.tmp 19]),O1 18 (.mov (.tmp 20)),O1 21 (.ext (.tmp 18) 0),O1 22 (.ext (.tmp 18) 1),O1 6 (.mov (.tmp 21)),O1 7 (.mov (.tmp 22))] [2,3,5,6,7]) (.seq (.ops [O1 24 (.load (some 10) (.tmp 2)),O1 25 (.callF 7 [.tmp 24]),O1 23 (.mov (.tmp 25)),O1 26 (.ext (.tmp 23) 0),O1 27 (.ext (.tmp 23) 1),O1 8 (.mov (.tmp 26)),O1 9 (.mov (.tmp 27))] [2,3,5,6,7,8,9]) (.seq (.draw [O1 28 (.load (some 10) (.tmp 5)),O1 29 (.callF 8 [.tmp 28]),O1 30 (.load (some 10) (.tmp 2)),O1 31 (.callF 9 [.tmp 30]),O1 32 (.bin .eql (.tmp 29) (.tmp 31)),O1 33 (.mov (.tmp 32)),⟨some 34,some (33,true),.mov (.tmp 6)⟩,⟨some 35,some (33,true),.mov (.tmp 8)⟩,⟨some 36,some (33,true),.bin .eql (.tmp 34) (.tmp 35)⟩,O1 37 (.pick (.tmp 33) (.tmp 36) (.const (.bool false))),O1 38 (.mov (.tmp 37)),⟨some 39,some (38,true),.mov (.tmp 7)⟩,⟨some 40,some (38,true),.mov (.tmp 9)⟩,⟨some 41,some (38,true),.bin .eql (.tmp 39) (.tmp 40)⟩,O1 42 (.pick (.tmp 38) (.tmp 41) (.const (.bool false))),O1 43 (.mov (.tmp 42)),⟨some 44,some (43,true),.load (some 10) (.tmp 5)⟩,⟨some 45,some (43,true),.load (some 10) (.tmp 3)⟩,⟨some 46,some (43,true),.callF 10 [(.tmp 44),(.tmp 45)]⟩,⟨some 47,some (43,true),.load (some 10) (.tmp 2)⟩,⟨some 48,some (43,true),.load (some 10) (.tmp 3)⟩,⟨some 49,some (43,true),.callF 11 [(.tmp 47),(.tmp 48)]⟩,⟨some 50,some (43,true),.eqB false (.tmp 46) (.tmp 49)⟩,O1 51 (.pick (.tmp 43) (.tmp 50) (.const (.bool false))),O1 52 (.mov (.tmp 51)),⟨some 53,some (52,true),.load (some 10) (.tmp 5)⟩,⟨some 54,some (52,true),.load (some 10) (.tmp 2)⟩] [⟨some 55,some (52,true),.callF 11 [(.tmp 53),(.tmp 54)]⟩,O1 56 (.pick (.tmp 52) (.tmp 55) (.const (.bool false))),O1 4 (.mov (.tmp 56))] [[],[],[false,false],[],[],[],[],[],[],[],[],[],[],[],[],[],[],[],[],[false,false,false,true,true,true,true,true,true,true,true,true,true,true,true,true,true,true,true],[false,false,false,false,true,true,true,true,true,true,true,true,true,true,true,true,true,true,true,true],[],[],[],[],[],[]] [4]) (.ret)))))),57,[(4,none)],true⟩
theorem ok3:FunOK Tryd.prog 3 c3:= .code ⟨Tryd.f3,_,c3.code,Tryd.func3,rfl,by kernel_rfl,rfl,by kernel_rfl,by kernel_rfl⟩
/- raddle/raddleref19.Great -/
def c4:AFun:=⟨.seq (.ops [O1 1 (.box 29 (.tmp 0)),O1 2 (.mov (.const (.bool false)))] [1]) (.seq (.ops [O1 3 (.fldA 1 (.tmp 1)),O1 4 (.load (some 7) (.tmp 3)),O1 5 (.callF 12 [.tmp 4]),O1 6 (.mov (.tmp 5)),⟨some 7,some (6,false),.fldA 0 (.tmp 1)⟩,⟨some 8,some (6,false),.load none (.tmp 7)⟩,⟨some 9,some (6,false),.len true (.tmp 8)⟩,⟨some 10,some (6,false),.bin .gtr (.tmp 9) (.const (.int .i64 200))⟩,O1 11 (.pick (.tmp 6) (.const (.bool true)) (.tmp 10)),O1 12 (.mov (.tmp 11)),⟨some 13,some (12,false),.fldA 8 (.tmp 1)⟩,⟨some 14,some (12,false),.load none (.tmp 13)⟩,⟨some 15,some (12,false),.len false (.tmp 14)⟩,⟨some 16,some (12,false),.bin .gtr (.tmp 15) (.const (.int .i64 100))⟩,O1 17 (.pick (.tmp 12) (.const (.bool true)) (.tmp 16)),O1 18 (.mov (.tmp 17)),⟨some 19,some (18,false),.fldA 9 (.tmp 1)⟩,⟨some 20,some (18,false),.load none (.tmp 19)⟩,⟨some 21,some (18,false),.len false (.tmp 20)⟩,⟨some 22,some (18,false),.bin .gtr (.tmp 21) (.const (.int .i64 100))⟩,O1 23 (.pick (.tmp 18) (.const (.bool true)) (.tmp 22)),O1 2 (.mov (.tmp 23))] [2]) (.ret)),24,[(2,none)],true⟩
theorem ok4:FunOK Tryd.prog 4 c4:= .code ⟨Tryd.f4,_,c4.code,Tryd.func4,rfl,by kernel_rfl,rfl,by kernel_rfl,by kernel_rfl⟩
/- raddle/raddleref19.Twin -/
def c5:AFun:=⟨.seq (.ops [O1 1 (.box 29 (.tmp 0)),O1 2 (.alloc 29 [(1,(.string ⟨#[]⟩)),(2,(.int .i64 0)),(2,(.slice none 0 0)),(2,(.int .i64 0)),(3,(.slice none 0 0))])] [1,2]) (.seq (.draw [O1 3 (.fldA 0 (.tmp 1)),O1 4 (.load none (.tmp 3)),O1 5 (.fldA 1 (.tmp 1)),O1 6 (.load (some 7) (.tmp 5)),O1 7 (.callF 13 [.tmp 6]),O1 8 (.mkRow 3 1 0 [(.int .i64 0)] []),O1 9 (.fldA 8 (.tmp 1)),O1 10 (.load none (.tmp 9)),O1 11 (.app 3 1 8 (.tmp 8) (.tmp 10)),O1 12 (.mkRow 3 1 0 [(.int .i64 0)] []),O1 13 (.fldA 9 (.tmp 1)),O1 14 (.load none (.tmp 13)),O1 15 (.app 3 1 8 (.tmp 12) (.tmp 14))] [O1 16 (.build [(.string ⟨#[]⟩),(.int .i64 0),(.int .i64 0),(.slice none 0 0),(.slice none 0 0),(.int .i64 0),(.int .i64 0),(.slice none 0 0),(.slice none 0 0),(.slice none 0 0)] [(0,1,(.tmp 4)),(1,7,(.tmp 7)),(8,1,(.tmp 11)),(9,1,(.tmp 15))]),⟨none,none,.store 10 (.tmp 2) (.tmp 16)⟩] [[],[],[],[],[],[false,false,false,false,false],[false,false,false,false,false,false],[true,false,false,false,false,false,false],[],[false,false,false,false,false,false,false,false,false],[false,false,false,false,false,false,false,false,false,false],[true,false,false,false,false,false,false,false,false,false,false],[]] [2]) (.ret)),17,[(2,(some (some 10)))],true⟩
theorem ok5:FunOK Tryd.prog 5 c5:= .code ⟨Tryd.f5,_,c5.code,Tryd.func5,rfl,by kernel_rfl,rfl,by kernel_rfl,by kernel_rfl⟩
/- raddle/file.Write -/
def c6l0:AC:= .seq (.ops [O1 46 (.bin .lss (.tmp 45) (.tmp 44))] [1,5,6,7,38,39,44,45,46]) (.seq (.cond (.tmp 46) (.skip) (.exit 2)) (.seq (.block 3 (.seq (.ops [O1 47 (.mov (.tmp 45)),O1 8 (.mov (.tmp 47))] [1,5,6,7,8,38,39,44,45]) (.seq (.ops [O1 48 (.fldA 1 (.tmp 1)),O1 49 (.fldA 4 (.tmp 48)),O1 50 (.fldA 2 (.tmp 49)),O1 51 (.load none (.tmp 50)),O1 52 (.mov (.tmp 8)),O1 53 (.fldA 1 (.tmp 1)),O1 54 (.fldA 1 (.tmp 53)),O1 55 (.load none (.tmp 54)),O1 56 (.bin .mul (.tmp 52) (.tmp 55)),O1 57 (.mov (.tmp 6)),O1 58 (.bin .add (.tmp 56) (.tmp 57)),O1 59 (.idxS 1 (.tmp 51) (.tmp 58)),O1 60 (.load none (.tmp 59))] [1,5,6,7,8,38,39,44,45,60]) (.cond (.tmp 60) (.ops [O1 61 (.mov (.tmp 7)),O1 62 (.mov (.tmp 8)),O1 63 (.bin .add (.tmp 62) (.const (.int .i64 1))),O1 64 (.callF 15 [.tmp 63]),O1 65 (.mkRow 9 1 1 [(.string ⟨#[]⟩)] [(0,1,(.tmp 64))]),O1 66 (.app 9 1 16 (.tmp 61) (.tmp 65)),O1 7 (.mov (.tmp 66))] [1,5,6,7,38,39,44,45]) (.skip))))) (.ops [O1 67 (.bin .add (.tmp 45) (.const (.int .i64 1))),O1 45 (.mov (.tmp 67))] [1,5,6,7,38,39,44,45])))
def c6l1:AC:= .seq (.ops [O1 40 (.bin .lss (.tmp 39) (.tmp 38))] [1,5,38,39,40]) (.seq (.cond (.tmp 40) (.skip) (.exit 0)) (.seq (.block 1 (.seq (.ops [O1 41 (.mov (.tmp 39)),O1 6 (.mov (.tmp 41))] [1,5,6,38,39]) (.seq (.ops [O1 7 (.mov (.const (.slice none 0 0)))] [1,5,6,7,38,39]) (.seq (.seq (.ops [O1 42 (.fldA 1 (.tmp 1)),O1 43 (.fldA 0 (.tmp 42)),O1 44 (.load none (.tmp 43)),O1 45 (.mov (.const (.int .i64 0)))] [1,5,6,7,38,39,44,45]) (.block 2 (.loop [1,5,6,7,38,39,44,45] c6l0))) (.ops [O1 68 (.mov (.tmp 6)),O1 69 (.bin .add (.tmp 68) (.const (.int .i64 1))),O1 70 (.callF 15 [.tmp 69]),O1 71 (.bin .add (.tmp 70) (.const (.string ⟨#[61]⟩))),O1 72 (.mov (.tmp 7)),O1 73 (.callF 17 [(.tmp 72),(.const (.string ⟨#[44]⟩))]),O1 74 (.bin .add (.tmp 71) (.tmp 73)),O1 75 (.bin .add (.tmp 74) (.const (.string ⟨#[10]⟩))),O1 76 (.callF 14 [(.tmp 5),(.tmp 75)])] [1,5,38,39]))))) (.ops [O1 77 (.bin .add (.tmp 39) (.const (.int .i64 1))),O1 39 (.mov (.tmp 77))] [1,5,38,39])))
def c6:AFun:=⟨.seq (.ops [O1 1 (.box 29 (.tmp 0)),O1 2 (.mov (.const (.string ⟨#[]⟩))),O1 3 (.mov (.const (.int .i64 0)))] [1]) (.seq (.seq (.ops [O1 9 (.load (some 10) (.tmp 1)),O1 10 (.callF 8 [.tmp 9]),O1 4 (.mov (.tmp 10))] [1,4]) (.seq (.ops [O1 11 (.mov (.tmp 4)),O1 12 (.bin .neq (.tmp 11) (.const (.int .i64 0)))] [1,4,12]) (.cond (.tmp 12) (.seq (.ops [O1 13 (.mov (.tmp 4)),O1 2 (.mov (.const (.string ⟨#[]⟩))),O1 3 (.mov (.tmp 13))] [2,3]) (.ret)) (.skip)))) (.seq (.ops [O1 5 (.alloc 45 [(1,(.pointer none)),(1,(.slice none 0 0))])] [1,5]) (.seq (.draw [O1 14 (.fldA 0 (.tmp 1)),O1 15 (.load none (.tmp 14)),O1 16 (.bin .add (.const (.string ⟨#[91,100,114,97,102,116,93,10,110,97,109,101,61]⟩)) (.tmp 15)),O1 17 (.bin .add (.tmp 16) (.const (.string ⟨#[10,115,104,97,102,116,115,61]⟩))),O1 18 (.fldA 1 (.tmp 1)),O1 19 (.fldA 0 (.tmp 18)),O1 20 (.load none (.tmp 19)),O1 21 (.callF 15 [.tmp 20]),O1 22 (.bin .add (.tmp 17) (.tmp 21)),O1 23 (.bin .add (.tmp 22) (.const (.string ⟨#[10,116,114,101,97,100,108,101,115,61]⟩))),O1 24 (.fldA 1 (.tmp 1)),O1 25 (.fldA 1 (.tmp 24)),O1 26 (.load none (.tmp 25)),O1 27 (.callF 15 [.tmp 26])] [O1 28 (.bin .add (.tmp 23) (.tmp 27)),O1 29 (.bin .add (.tmp 28) (.const (.string ⟨#[10]⟩))),O1 30 (.callF 14 [(.tmp 5),(.tmp 29)])] [[],[],[],[],[],[],[],[],[],[],[false,false,false,false,false,false,false,false,false,false],[true,false,false,false,false,false,false,false,false,false,false],[true,true,false,false,false,false,false,false,false,false,false,false],[]] [1,5]) (.seq (.ops [O1 31 (.fldA 1 (.tmp 1)),O1 32 (.fldA 2 (.tmp 31)),O1 33 (.load none (.tmp 32)),O1 34 (.callF 16 [(.tmp 5),(.const (.string ⟨#[116,104,114,101,97,100,105,110,103]⟩)),(.tmp 33),(.const (.int .i64 1))])] [1,5]) (.seq (.ops [O1 35 (.callF 14 [(.tmp 5),(.const (.string ⟨#[91,116,105,101,117,112,93,10]⟩))])] [1,5]) (.seq (.seq (.ops [O1 36 (.fldA 1 (.tmp 1)),O1 37 (.fldA 1 (.tmp 36)),O1 38 (.load none (.tmp 37)),O1 39 (.mov (.const (.int .i64 0)))] [1,5,38,39]) (.block 0 (.loop [1,5,38,39] c6l1))) (.seq (.ops [O1 78 (.fldA 1 (.tmp 1)),O1 79 (.fldA 3 (.tmp 78)),O1 80 (.load none (.tmp 79)),O1 81 (.callF 16 [(.tmp 5),(.const (.string ⟨#[116,114,101,97,100,108,105,110,103]⟩)),(.tmp 80),(.const (.int .i64 1))])] [1,5]) (.seq (.ops [O1 82 (.fldA 8 (.tmp 1)),O1 83 (.load none (.tmp 82)),O1 84 (.callF 16 [(.tmp 5),(.const (.string ⟨#[119,97,114,112]⟩)),(.tmp 83),(.const (.int .i64 0))])] [1,5]) (.seq (.ops [O1 85 (.fldA 9 (.tmp 1)),O1 86 (.load none (.tmp 85)),O1 87 (.callF 16 [(.tmp 5),(.const (.string ⟨#[119,101,102,116]⟩)),(.tmp 86),(.const (.int .i64 0))])] [5]) (.seq (.ops [O1 88 (.callF 18 [.tmp 5]),O1 2 (.mov (.tmp 88)),O1 3 (.mov (.const (.int .i64 0)))] [2,3]) (.ret))))))))))),89,[(2,none),(3,none)],true⟩
theorem ok6:FunOK Tryd.prog 6 c6:= .code ⟨Tryd.f6,_,c6.code,Tryd.func6,rfl,by kernel_rfl,rfl,by kernel_rfl,by kernel_rfl⟩
/- raddle/raddleref19.Write -/
def c7:AFun:=⟨.seq (.ops [O1 1 (.box 29 (.tmp 0)),O1 2 (.mov (.const (.string ⟨#[]⟩))),O1 3 (.mov (.const (.int .i64 0)))] [1]) (.seq (.seq (.ops [O1 5 (.load (some 10) (.tmp 1)),O1 6 (.callF 9 [.tmp 5]),O1 7 (.bin .neq (.tmp 6) (.const (.int .i64 0)))] [1,7]) (.cond (.tmp 7) (.seq (.ops [O1 8 (.load (some 10) (.tmp 1)),O1 9 (.callF 9 [.tmp 8]),O1 2 (.mov (.const (.string ⟨#[]⟩))),O1 3 (.mov (.tmp 9))] [2,3]) (.ret)) (.skip))) (.seq (.draw [O1 10 (.fldA 0 (.tmp 1)),O1 11 (.load none (.tmp 10)),O1 12 (.bin .add (.const (.string ⟨#[91,100,114,97,102,116,93,10,110,97,109,101,61]⟩)) (.tmp 11)),O1 13 (.bin .add (.tmp 12) (.const (.string ⟨#[10,115,104,97,102,116,115,61]⟩))),O1 14 (.fldA 1 (.tmp 1)),O1 15 (.fldA 0 (.tmp 14)),O1 16 (.load none (.tmp 15)),O1 17 (.callF 19 [.tmp 16]),O1 18 (.bin .add (.tmp 13) (.tmp 17)),O1 19 (.bin .add (.tmp 18) (.const (.string ⟨#[10,116,114,101,97,100,108,101,115,61]⟩))),O1 20 (.fldA 1 (.tmp 1)),O1 21 (.fldA 1 (.tmp 20)),O1 22 (.load none (.tmp 21)),O1 23 (.callF 19 [.tmp 22])] [O1 24 (.bin .add (.tmp 19) (.tmp 23)),O1 25 (.bin .add (.tmp 24) (.const (.string ⟨#[10]⟩))),O1 4 (.mov (.tmp 25))] [[],[],[],[],[],[],[],[],[],[],[false,false,false,false,false,false,false,false,false,false],[true,false,false,false,false,false,false,false,false,false,false],[true,true,false,false,false,false,false,false,false,false,false,false],[]] [1,4]) (.seq (.draw [O1 26 (.mov (.tmp 4)),O1 27 (.bin .add (.tmp 26) (.const (.string ⟨#[91,116,104,114,101,97,100,105,110,103,93,10]⟩))),O1 28 (.fldA 1 (.tmp 1)),O1 29 (.fldA 2 (.tmp 28)),O1 30 (.load none (.tmp 29)),O1 31 (.callF 20 [(.tmp 30),(.const (.int .i64 1))]),O1 32 (.bin .add (.tmp 27) (.tmp 31)),O1 33 (.bin .add (.tmp 32) (.const (.string ⟨#[91,116,105,101,117,112,93,10]⟩))),O1 34 (.fldA 1 (.tmp 1)),O1 35 (.load (some 7) (.tmp 34)),O1 36 (.callF 21 [.tmp 35]),O1 37 (.bin .add (.tmp 33) (.tmp 36)),O1 38 (.bin .add (.tmp 37) (.const (.string ⟨#[91,116,114,101,97,100,108,105,110,103,93,10]⟩))),O1 39 (.fldA 1 (.tmp 1)),O1 40 (.fldA 3 (.tmp 39)),O1 41 (.load none (.tmp 40)),O1 42 (.callF 20 [(.tmp 41),(.const (.int .i64 1))])] [O1 43 (.bin .add (.tmp 38) (.tmp 42)),O1 4 (.mov (.tmp 43))] [[],[],[],[],[],[],[],[],[false,false,false,false,false,false,false,false],[true,false,false,false,false,false,false,false,false],[],[],[],[false,false,false,false,false,false,false,false,false,false,false,false,false],[true,false,false,false,false,false,false,false,false,false,false,false,false,false],[true,true,false,false,false,false,false,false,false,false,false,false,false,false,false],[]] [1,4]) (.seq (.draw [O1 44 (.mov (.tmp 4)),O1 45 (.bin .add (.tmp 44) (.const (.string ⟨#[91,119,97,114,112,93,10]⟩))),O1 46 (.fldA 8 (.tmp 1)),O1 47 (.load none (.tmp 46)),O1 48 (.callF 20 [(.tmp 47),(.const (.int .i64 0))]),O1 49 (.bin .add (.tmp 45) (.tmp 48)),O1 50 (.bin .add (.tmp 49) (.const (.string ⟨#[91,119,101,102,116,93,10]⟩))),O1 51 (.fldA 9 (.tmp 1)),O1 52 (.load none (.tmp 51)),O1 53 (.callF 20 [(.tmp 52),(.const (.int .i64 0))])] [O1 54 (.bin .add (.tmp 50) (.tmp 53)),
  O1 2 (.mov (.tmp 54)),O1 3 (.mov (.const (.int .i64 0)))] [[],[],[],[],[],[],[],[false,false,false,false,false,false,false],[true,false,false,false,false,false,false,false],[]] [2,3]) (.ret))))),55,[(2,none),(3,none)],true⟩
theorem ok7:FunOK Tryd.prog 7 c7:= .code ⟨Tryd.f7,_,c7.code,Tryd.func7,rfl,by kernel_rfl,rfl,by kernel_rfl,by kernel_rfl⟩
/- raddle/file.Check -/
def c8:AFun:=⟨.seq (.ops [O1 1 (.box 29 (.tmp 0)),O1 2 (.mov (.const (.int .i64 0)))] [1]) (.seq (.seq (.ops [O1 5 (.fldA 1 (.tmp 1)),O1 6 (.load (some 7) (.tmp 5)),O1 7 (.callF 22 [.tmp 6]),O1 3 (.mov (.tmp 7))] [1,3]) (.seq (.ops [O1 8 (.mov (.tmp 3)),O1 9 (.bin .neq (.tmp 8) (.const (.int .i64 0)))] [1,3,9]) (.cond (.tmp 9) (.seq (.ops [O1 10 (.mov (.tmp 3)),O1 2 (.mov (.tmp 10))] [2]) (.ret)) (.skip)))) (.seq (.seq (.ops [O1 11 (.fldA 8 (.tmp 1)),O1 12 (.load none (.tmp 11)),O1 13 (.len false (.tmp 12)),O1 14 (.fldA 1 (.tmp 1)),O1 15 (.fldA 2 (.tmp 14)),O1 16 (.load none (.tmp 15)),O1 17 (.len false (.tmp 16)),O1 18 (.bin .neq (.tmp 13) (.tmp 17)),O1 19 (.mov (.tmp 18)),⟨some 20,some (19,false),.fldA 9 (.tmp 1)⟩,⟨some 21,some (19,false),.load none (.tmp 20)⟩,⟨some 22,some (19,false),.len false (.tmp 21)⟩,⟨some 23,some (19,false),.fldA 1 (.tmp 1)⟩,⟨some 24,some (19,false),.fldA 3 (.tmp 23)⟩,⟨some 25,some (19,false),.load none (.tmp 24)⟩,⟨some 26,some (19,false),.len false (.tmp 25)⟩,⟨some 27,some (19,false),.bin .neq (.tmp 22) (.tmp 26)⟩,O1 28 (.pick (.tmp 19) (.const (.bool true)) (.tmp 27))] [1,28]) (.cond (.tmp 28) (.seq (.ops [O1 2 (.mov (.const (.int .i64 26)))] [2]) (.ret)) (.skip))) (.seq (.ops [O1 4 (.mov (.func 23))] [1,4]) (.seq (.seq (.ops [O1 29 (.fldA 0 (.tmp 1)),O1 30 (.load none (.tmp 29)),O1 31 (.callF 24 [.tmp 30]),O1 32 (.un .not (.tmp 31)),O1 33 (.mov (.tmp 32)),⟨some 34,some (33,false),.fldA 8 (.tmp 1)⟩,⟨some 35,some (33,false),.load none (.tmp 34)⟩,⟨some 36,some (33,false),.mov (.tmp 4)⟩,⟨some 37,some (33,false),.callF 25 [(.tmp 35),(.tmp 36)]⟩,O1 38 (.pick (.tmp 33) (.const (.bool true)) (.tmp 37)),O1 39 (.mov (.tmp 38)),⟨some 40,some (39,false),.fldA 9 (.tmp 1)⟩,⟨some 41,some (39,false),.load none (.tmp 40)⟩,⟨some 42,some (39,false),.mov (.tmp 4)⟩,⟨some 43,some (39,false),.callF 25 [(.tmp 41),(.tmp 42)]⟩,O1 44 (.pick (.tmp 39) (.const (.bool true)) (.tmp 43))] [44]) (.cond (.tmp 44) (.seq (.ops [O1 2 (.mov (.const (.int .i64 8)))] [2]) (.ret)) (.skip))) (.seq (.ops [O1 2 (.mov (.const (.int .i64 0)))] [2]) (.ret)))))),45,[(2,none)],true⟩
theorem ok8:FunOK Tryd.prog 8 c8:= .code ⟨Tryd.f8,_,c8.code,Tryd.func8,rfl,by kernel_rfl,rfl,by kernel_rfl,by kernel_rfl⟩
/- raddle/raddleref19.Check -/
def c9:AFun:=⟨.seq (.ops [O1 1 (.box 29 (.tmp 0)),O1 2 (.mov (.const (.int .i64 0)))] [1]) (.seq (.seq (.ops [O1 3 (.fldA 1 (.tmp 1)),O1 4 (.load (some 7) (.tmp 3)),O1 5 (.callF 26 [.tmp 4]),O1 6 (.bin .neq (.tmp 5) (.const (.int .i64 0)))] [1,6]) (.cond (.tmp 6) (.seq (.ops [O1 7 (.fldA 1 (.tmp 1)),O1 8 (.load (some 7) (.tmp 7)),O1 9 (.callF 26 [.tmp 8]),O1 2 (.mov (.tmp 9))] [2]) (.ret)) (.skip))) (.seq (.seq (.ops [O1 10 (.fldA 8 (.tmp 1)),O1 11 (.load none (.tmp 10)),O1 12 (.len false (.tmp 11)),O1 13 (.fldA 1 (.tmp 1)),O1 14 (.fldA 2 (.tmp 13)),O1 15 (.load none (.tmp 14)),O1 16 (.len false (.tmp 15)),O1 17 (.bin .neq (.tmp 12) (.tmp 16)),O1 18 (.mov (.tmp 17)),⟨some 19,some (18,false),.fldA 9 (.tmp 1)⟩,⟨some 20,some (18,false),.load none (.tmp 19)⟩,⟨some 21,some (18,false),.len false (.tmp 20)⟩,⟨some 22,some (18,false),.fldA 1 (.tmp 1)⟩,⟨some 23,some (18,false),.fldA 3 (.tmp 22)⟩,⟨some 24,some (18,false),.load none (.tmp 23)⟩,⟨some 25,some (18,false),.len false (.tmp 24)⟩,⟨some 26,some (18,false),.bin .neq (.tmp 21) (.tmp 25)⟩,O1 27 (.pick (.tmp 18) (.const (.bool true)) (.tmp 26))] [1,27]) (.cond (.tmp 27) (.seq (.ops [O1 2 (.mov (.const (.int .i64 26)))] [2]) (.ret)) (.skip))) (.seq (.seq (.ops [O1 28 (.fldA 0 (.tmp 1)),O1 29 (.load none (.tmp 28)),O1 30 (.callF 27 [.tmp 29]),O1 31 (.un .not (.tmp 30)),O1 32 (.mov (.tmp 31)),⟨some 33,some (32,false),.fldA 8 (.tmp 1)⟩,⟨some 34,some (32,false),.load none (.tmp 33)⟩,⟨some 35,some (32,false),.callF 28 [.tmp 34]⟩,⟨some 36,some (32,false),.un .not (.tmp 35)⟩,O1 37 (.pick (.tmp 32) (.const (.bool true)) (.tmp 36)),O1 38 (.mov (.tmp 37)),⟨some 39,some (38,false),.fldA 9 (.tmp 1)⟩,⟨some 40,some (38,false),.load none (.tmp 39)⟩,⟨some 41,some (38,false),.callF 28 [.tmp 40]⟩,⟨some 42,some (38,false),.un .not (.tmp 41)⟩,O1 43 (.pick (.tmp 38) (.const (.bool true)) (.tmp 42))] [43]) (.cond (.tmp 43) (.seq (.ops [O1 2 (.mov (.const (.int .i64 8)))] [2]) (.ret)) (.skip))) (.seq (.ops [O1 2 (.mov (.const (.int .i64 0)))] [2]) (.ret))))),44,[(2,none)],true⟩
theorem ok9:FunOK Tryd.prog 9 c9:= .code ⟨Tryd.f9,_,c9.code,Tryd.func9,rfl,by kernel_rfl,rfl,by kernel_rfl,by kernel_rfl⟩
/- raddle/file.Same -/
def c10:AFun:=⟨.seq (.ops [O1 2 (.box 29 (.tmp 0)),O1 3 (.box 29 (.tmp 1)),O1 4 (.mov (.const (.bool false)))] [2,3]) (.seq (.ops [O1 5 (.fldA 0 (.tmp 2)),O1 6 (.load none (.tmp 5)),O1 7 (.fldA 0 (.tmp 3)),O1 8 (.load none (.tmp 7)),O1 9 (.bin .eql (.tmp 6) (.tmp 8)),O1 10 (.mov (.tmp 9)),⟨some 11,some (10,true),.fldA 1 (.tmp 2)⟩,⟨some 12,some (10,true),.load (some 7) (.tmp 11)⟩,⟨some 13,some (10,true),.fldA 1 (.tmp 3)⟩,⟨some 14,some (10,true),.load (some 7) (.tmp 13)⟩,⟨some 15,some (10,true),.callF 29 [(.tmp 12),(.tmp 14)]⟩,O1 16 (.pick (.tmp 10) (.tmp 15) (.const (.bool false))),O1 17 (.mov (.tmp 16)),⟨some 18,some (17,true),.fldA 8 (.tmp 2)⟩,⟨some 19,some (17,true),.load none (.tmp 18)⟩,⟨some 20,some (17,true),.fldA 8 (.tmp 3)⟩,⟨some 21,some (17,true),.load none (.tmp 20)⟩,⟨some 22,some (17,true),.callF 30 [(.tmp 19),(.tmp 21)]⟩,O1 23 (.pick (.tmp 17) (.tmp 22) (.const (.bool false))),O1 24 (.mov (.tmp 23)),⟨some 25,some (24,true),.fldA 9 (.tmp 2)⟩,⟨some 26,some (24,true),.load none (.tmp 25)⟩,⟨some 27,some (24,true),.fldA 9 (.tmp 3)⟩,⟨some 28,some (24,true),.load none (.tmp 27)⟩,⟨some 29,some (24,true),.callF 30 [(.tmp 26),(.tmp 28)]⟩,O1 30 (.pick (.tmp 24) (.tmp 29) (.const (.bool false))),O1 4 (.mov (.tmp 30))] [4]) (.ret)),31,[(4,none)],true⟩
theorem ok10:FunOK Tryd.prog 10 c10:= .code ⟨Tryd.f10,_,c10.code,Tryd.func10,rfl,by kernel_rfl,rfl,by kernel_rfl,by kernel_rfl⟩
/- raddle/raddleref19.Same -/
def c11:AFun:=⟨.seq (.ops [O1 2 (.box 29 (.tmp 0)),O1 3 (.box 29 (.tmp 1)),O1 4 (.mov (.const (.bool false)))] [2,3]) (.seq (.ops [O1 5 (.fldA 0 (.tmp 2)),O1 6 (.load none (.tmp 5)),O1 7 (.fldA 0 (.tmp 3)),O1 8 (.load none (.tmp 7)),O1 9 (.bin .eql (.tmp 6) (.tmp 8)),O1 10 (.mov (.tmp 9)),⟨some 11,some (10,true),.fldA 1 (.tmp 2)⟩,⟨some 12,some (10,true),.load (some 7) (.tmp 11)⟩,⟨some 13,some (10,true),.fldA 1 (.tmp 3)⟩,⟨some 14,some (10,true),.load (some 7) (.tmp 13)⟩,⟨some 15,some (10,true),.callF 31 [(.tmp 12),(.tmp 14)]⟩,O1 16 (.pick (.tmp 10) (.tmp 15) (.const (.bool false))),O1 17 (.mov (.tmp 16)),⟨some 18,some (17,true),.fldA 8 (.tmp 2)⟩,⟨some 19,some (17,true),.load none (.tmp 18)⟩,⟨some 20,some (17,true),.fldA 8 (.tmp 3)⟩,⟨some 21,some (17,true),.load none (.tmp 20)⟩,⟨some 22,some (17,true),.callF 32 [(.tmp 19),(.tmp 21)]⟩,O1 23 (.pick (.tmp 17) (.tmp 22) (.const (.bool false))),O1 24 (.mov (.tmp 23)),⟨some 25,some (24,true),.fldA 9 (.tmp 2)⟩,⟨some 26,some (24,true),.load none (.tmp 25)⟩,⟨some 27,some (24,true),.fldA 9 (.tmp 3)⟩,⟨some 28,some (24,true),.load none (.tmp 27)⟩,⟨some 29,some (24,true),.callF 32 [(.tmp 26),(.tmp 28)]⟩,O1 30 (.pick (.tmp 24) (.tmp 29) (.const (.bool false))),O1 4 (.mov (.tmp 30))] [4]) (.ret)),31,[(4,none)],true⟩
theorem ok11:FunOK Tryd.prog 11 c11:= .code ⟨Tryd.f11,_,c11.code,Tryd.func11,rfl,by kernel_rfl,rfl,by kernel_rfl,by kernel_rfl⟩
/- raddle/raddleref03.Great -/
def c12:AFun:=⟨.seq (.ops [O1 1 (.box 27 (.tmp 0)),O1 2 (.mov (.const (.bool false)))] [1]) (.seq (.ops [O1 3 (.fldA 2 (.tmp 1)),O1 4 (.load none (.tmp 3)),O1 5 (.len false (.tmp 4)),O1 6 (.bin .gtr (.tmp 5) (.const (.int .i64 70))),O1 7 (.mov (.tmp 6)),⟨some 8,some (7,false),.fldA 3 (.tmp 1)⟩,⟨some 9,some (7,false),.load none (.tmp 8)⟩,⟨some 10,some (7,false),.len false (.tmp 9)⟩,⟨some 11,some (7,false),.bin .gtr (.tmp 10) (.const (.int .i64 70))⟩,O1 12 (.pick (.tmp 7) (.const (.bool true)) (.tmp 11)),O1 13 (.mov (.tmp 12)),⟨some 14,some (13,false),.fldA 4 (.tmp 1)⟩,⟨some 15,some (13,false),.load (some 3) (.tmp 14)⟩,⟨some 16,some (13,false),.callF 33 [.tmp 15]⟩,O1 17 (.pick (.tmp 13) (.const (.bool true)) (.tmp 16)),O1 2 (.mov (.tmp 17))] [2]) (.ret)),18,[(2,none)],true⟩
theorem ok12:FunOK Tryd.prog 12 c12:= .code ⟨Tryd.f12,_,c12.code,Tryd.func12,rfl,by kernel_rfl,rfl,by kernel_rfl,by kernel_rfl⟩
/- raddle/raddleref03.Twin -/
def c13:AFun:=⟨.seq (.ops [O1 1 (.box 27 (.tmp 0)),O1 2 (.alloc 27 [(2,(.int .i64 0)),(2,(.slice none 0 0)),(2,(.int .i64 0)),(1,(.slice none 0 0))])] [1,2]) (.seq (.draw [O1 3 (.fldA 0 (.tmp 1)),O1 4 (.load none (.tmp 3)),O1 5 (.fldA 1 (.tmp 1)),O1 6 (.load none (.tmp 5)),O1 7 (.mkRow 3 1 0 [(.int .i64 0)] []),O1 8 (.fldA 2 (.tmp 1)),O1 9 (.load none (.tmp 8)),O1 10 (.app 3 1 8 (.tmp 7) (.tmp 9)),O1 11 (.mkRow 3 1 0 [(.int .i64 0)] []),O1 12 (.fldA 3 (.tmp 1)),O1 13 (.load none (.tmp 12)),O1 14 (.app 3 1 8 (.tmp 11) (.tmp 13)),O1 15 (.fldA 4 (.tmp 1)),O1 16 (.load (some 3) (.tmp 15)),O1 17 (.callF 34 [.tmp 16])] [O1 18 (.build [(.int .i64 0),(.int .i64 0),(.slice none 0 0),(.slice none 0 0),(.int .i64 0),(.int .i64 0),(.slice none 0 0)] [(0,1,(.tmp 4)),(1,1,(.tmp 6)),(2,1,(.tmp 10)),(3,1,(.tmp 14)),(4,3,(.tmp 17))]),⟨none,none,.store 7 (.tmp 2) (.tmp 18)⟩] [[],[],[],[],[],[false,false,false,false,false],[true,false,false,false,false,false],[],[false,false,false,false,false,false,false,false],[false,false,false,false,false,false,false,false,false],[true,false,false,false,false,false,false,false,false,false],[],[false,false,false,false,false,false,false,false,false,false,false,false],[true,false,false,false,false,false,false,false,false,false,false,false,false],[]] [2]) (.ret)),19,[(2,(some (some 7)))],true⟩
theorem ok13:FunOK Tryd.prog 13 c13:= .code ⟨Tryd.f13,_,c13.code,Tryd.func13,rfl,by kernel_rfl,rfl,by kernel_rfl,by kernel_rfl⟩
/- (*strings.Builder).WriteString -/
def c14:AFun:=⟨.seq (.ops [O1 4 (.mov (.const (.int .i64 0))),O1 5 (.mov (.const .nilIface))] [0,1]) (.seq (.ops [O1 6 (.mov (.tmp 0)),O1 7 (.callF 35 [.tmp 6])] [0,1]) (.seq (.ops [O1 8 (.mov (.tmp 0)),O1 9 (.mov (.tmp 0)),O1 10 (.nilChk (.tmp 9)),O1 11 (.fldA 1 (.tmp 10)),O1 12 (.load none (.tmp 11)),O1 13 (.mov (.tmp 1)),O1 14 (.app 5 1 1 (.tmp 12) (.tmp 13)),O1 15 (.nilChk (.tmp 8)),O1 16 (.fldA 1 (.tmp 15)),⟨none,none,.store 1 (.tmp 16) (.tmp 14)⟩] [1]) (.seq (.ops [O1 17 (.mov (.tmp 1)),O1 18 (.len true (.tmp 17)),O1 4 (.mov (.tmp 18)),O1 5 (.mov (.const .nilIface))] [4,5]) (.ret)))),19,[(4,none),(5,none)],false⟩
theorem ok14:FunOK Tryd.prog 14 c14:= .code ⟨Tryd.f14,_,c14.code,Tryd.func14,rfl,by kernel_rfl,rfl,by kernel_rfl,by kernel_rfl⟩
/- raddle/file.list -/
def c16l0:AC:= .seq (.ops [O1 18 (.bin .lss (.tmp 17) (.tmp 16))] [0,3,15,16,17,18]) (.seq (.cond (.tmp 18) (.skip) (.exit 0)) (.seq (.block 1 (.seq (.ops [O1 19 (.mov (.tmp 17)),O1 20 (.idxS 1 (.tmp 15) (.tmp 17)),O1 21 (.load none (.tmp 20)),O1 8 (.mov (.tmp 19)),O1 9 (.mov (.tmp 21))] [0,3,8,9,15,16,17]) (.ops [O1 22 (.mov (.tmp 0)),O1 23 (.mov (.tmp 8)),O1 24 (.bin .add (.tmp 23) (.const (.int .i64 1))),O1 25 (.callF 15 [.tmp 24]),O1 26 (.bin .add (.tmp 25) (.const (.string ⟨#[61]⟩))),O1 27 (.mov (.tmp 9)),O1 28 (.mov (.tmp 3)),O1 29 (.bin .add (.tmp 27) (.tmp 28)),O1 30 (.callF 15 [.tmp 29]),O1 31 (.bin .add (.tmp 26) (.tmp 30)),O1 32 (.bin .add (.tmp 31) (.const (.string ⟨#[10]⟩))),O1 33 (.callF 14 [(.tmp 22),(.tmp 32)])] [0,3,15,16,17]))) (.ops [O1 34 (.bin .add (.tmp 17) (.const (.int .i64 1))),O1 17 (.mov (.tmp 34))] [0,3,15,16,17])))
def c16:AFun:=⟨.seq (.ops [O1 10 (.mov (.tmp 0)),O1 11 (.mov (.tmp 1)),O1 12 (.bin .add (.const (.string ⟨#[91]⟩)) (.tmp 11)),O1 13 (.bin .add (.tmp 12) (.const (.string ⟨#[93,10]⟩))),O1 14 (.callF 14 [(.tmp 10),(.tmp 13)])] [0,2,3]) (.seq (.ops [O1 15 (.mov (.tmp 2)),O1 16 (.len false (.tmp 15)),O1 17 (.mov (.const (.int .i64 0)))] [0,3,15,16,17]) (.block 0 (.loop [0,3,15,16,17] c16l0))),35,[],false⟩
theorem ok16:FunOK Tryd.prog 16 c16:= .code ⟨Tryd.f16,_,c16.code,Tryd.func16,rfl,by kernel_rfl,rfl,by kernel_rfl,by kernel_rfl⟩
/- (*strings.Builder).String -/
def c18:AFun:=⟨.seq (.ops [O1 2 (.mov (.const (.string ⟨#[]⟩)))] [0]) (.seq (.draw [O1 3 (.mov (.tmp 0)),O1 4 (.nilChk (.tmp 3)),O1 5 (.fldA 1 (.tmp 4)),O1 6 (.load none (.tmp 5)),O1 7 (.sdata (.tmp 6)),O1 8 (.mov (.tmp 0)),O1 9 (.nilChk (.tmp 8)),O1 10 (.fldA 1 (.tmp 9)),O1 11 (.load none (.tmp 10)),O1 12 (.len false (.tmp 11))] [O1 13 (.ustr 5 (.tmp 7) (.tmp 12)),O1 2 (.mov (.tmp 13))] [[],[],[],[],[],[],[],[],[],[]] [2]) (.ret)),14,[(2,none)],false⟩
theorem ok18:FunOK Tryd.prog 18 c18:= .code ⟨Tryd.f18,_,c18.code,Tryd.func18,rfl,by kernel_rfl,rfl,by kernel_rfl,by kernel_rfl⟩
/- raddle/raddleref19.dec -/
def c19:AFun:=⟨.seq (.ops [O1 2 (.mov (.const (.string ⟨#[]⟩)))] [0]) (.seq (.ops [O1 3 (.mov (.tmp 0)),O1 4 (.callF 38 [.tmp 3]),O1 2 (.mov (.tmp 4))] [2]) (.ret)),5,[(2,none)],true⟩
theorem ok19:FunOK Tryd.prog 19 c19:= .code ⟨Tryd.f19,_,c19.code,Tryd.func19,rfl,by kernel_rfl,rfl,by kernel_rfl,by kernel_rfl⟩
/- raddle/raddleref19.keys -/
def c20l0:AC:= .seq (.seq (.ops [O1 7 (.mov (.tmp 6)),O1 8 (.mov (.tmp 0)),O1 9 (.len false (.tmp 8)),O1 10 (.bin .lss (.tmp 7) (.tmp 9))] [0,1,5,6,10]) (.cond (.tmp 10) (.skip) (.exit 0))) (.seq (.block 1 (.draw [O1 13 (.mov (.tmp 5)),O1 14 (.mov (.tmp 6)),O1 15 (.bin .add (.tmp 14) (.const (.int .i64 1))),O1 16 (.callF 19 [.tmp 15]),O1 17 (.bin .add (.tmp 13) (.tmp 16)),O1 18 (.bin .add (.tmp 17) (.const (.string ⟨#[61]⟩))),O1 19 (.mov (.tmp 0)),O1 20 (.mov (.tmp 6)),O1 21 (.idxS 1 (.tmp 19) (.tmp 20)),O1 22 (.load none (.tmp 21)),O1 23 (.mov (.tmp 1)),O1 24 (.bin .add (.tmp 22) (.tmp 23)),O1 25 (.callF 19 [.tmp 24])] [O1 26 (.bin .add (.tmp 18) (.tmp 25)),O1 27 (.bin .add (.tmp 26) (.const (.string ⟨#[10]⟩))),O1 5 (.mov (.tmp 27))] [[],[],[],[],[],[],[false,false,false,false,false,false],[false,false,false,false,false,false,false],[true,true,false,false,false,false,false,false],[true,true,true,false,false,false,false,false,false],[false,false,false,false,false,false,false,false,false,false],[true,true,true,true,true,false,false,false,false,false,false],[]] [0,1,5,6])) (.ops [O1 11 (.mov (.tmp 6)),O1 12 (.bin .add (.tmp 11) (.const (.int .i64 1))),O1 6 (.mov (.tmp 12))] [0,1,5,6]))
def c20:AFun:=⟨.seq (.ops [O1 4 (.mov (.const (.string ⟨#[]⟩)))] [0,1]) (.seq (.ops [O1 5 (.mov (.const (.string ⟨#[]⟩)))] [0,1,5]) (.seq (.seq (.ops [O1 6 (.mov (.const (.int .i64 0)))] [0,1,5,6]) (.block 0 (.loop [0,1,5,6] c20l0))) (.seq (.ops [O1 28 (.mov (.tmp 5)),O1 4 (.mov (.tmp 28))] [4]) (.ret)))),29,[(4,none)],true⟩
theorem ok20:FunOK Tryd.prog 20 c20:= .code ⟨Tryd.f20,_,c20.code,Tryd.func20,rfl,by kernel_rfl,rfl,by kernel_rfl,by kernel_rfl⟩
/- raddle/raddleref19.ties -/
def c21l0:AC:= .seq (.seq (.ops [O1 19 (.mov (.tmp 6)),O1 20 (.fldA 0 (.tmp 1)),O1 21 (.load none (.tmp 20)),O1 22 (.bin .lss (.tmp 19) (.tmp 21))] [1,3,4,5,6,22]) (.cond (.tmp 22) (.skip) (.exit 2))) (.seq (.block 3 (.seq (.seq (.ops [O1 25 (.load (some 7) (.tmp 1)),O1 26 (.mov (.tmp 4)),O1 27 (.mov (.tmp 6)),O1 28 (.callF 39 [(.tmp 25),(.tmp 26),(.tmp 27)]),O1 29 (.un .not (.tmp 28))] [1,3,4,5,6,29]) (.cond (.tmp 29) (.exit 3) (.skip))) (.seq (.seq (.ops [O1 30 (.mov (.tmp 5)),O1 31 (.un .not (.tmp 30))] [1,3,4,6,31]) (.cond (.tmp 31) (.ops [O1 32 (.mov (.tmp 3)),O1 33 (.bin .add (.tmp 32) (.const (.string ⟨#[44]⟩))),O1 3 (.mov (.tmp 33))] [1,3,4,6]) (.skip))) (.seq (.ops [O1 34 (.mov (.tmp 3)),O1 35 (.mov (.tmp 6)),O1 36 (.bin .add (.tmp 35) (.const (.int .i64 1))),O1 37 (.callF 19 [.tmp 36]),O1 38 (.bin .add (.tmp 34) (.tmp 37)),O1 3 (.mov (.tmp 38))] [1,3,4,6]) (.ops [O1 5 (.mov (.const (.bool false)))] [1,3,4,5,6]))))) (.ops [O1 23 (.mov (.tmp 6)),O1 24 (.bin .add (.tmp 23) (.const (.int .i64 1))),O1 6 (.mov (.tmp 24))] [1,3,4,5,6]))
def c21l1:AC:= .seq (.seq (.ops [O1 7 (.mov (.tmp 4)),O1 8 (.fldA 1 (.tmp 1)),O1 9 (.load none (.tmp 8)),O1 10 (.bin .lss (.tmp 7) (.tmp 9))] [1,3,4,10]) (.cond (.tmp 10) (.skip) (.exit 0))) (.seq (.block 1 (.seq (.ops [O1 13 (.mov (.tmp 3)),O1 14 (.mov (.tmp 4)),O1 15 (.bin .add (.tmp 14) (.const (.int .i64 1))),O1 16 (.callF 19 [.tmp 15]),O1 17 (.bin .add (.tmp 13) (.tmp 16)),O1 18 (.bin .add (.tmp 17) (.const (.string ⟨#[61]⟩))),O1 3 (.mov (.tmp 18))] [1,3,4]) (.seq (.ops [O1 5 (.mov (.const (.bool true)))] [1,3,4,5]) (.seq (.seq (.ops [O1 6 (.mov (.const (.int .i64 0)))] [1,3,4,5,6]) (.block 2 (.loop [1,3,4,5,6] c21l0))) (.ops [O1 39 (.mov (.tmp 3)),O1 40 (.bin .add (.tmp 39) (.const (.string ⟨#[10]⟩))),O1 3 (.mov (.tmp 40))] [1,3,4]))))) (.ops [O1 11 (.mov (.tmp 4)),O1 12 (.bin .add (.tmp 11) (.const (.int .i64 1))),O1 4 (.mov (.tmp 12))] [1,3,4]))
def c21:AFun:=⟨.seq (.ops [O1 1 (.box 27 (.tmp 0)),O1 2 (.mov (.const (.string ⟨#[]⟩)))] [1]) (.seq (.ops [O1 3 (.mov (.const (.string ⟨#[]⟩)))] [1,3]) (.seq (.seq (.ops [O1 4 (.mov (.const (.int .i64 0)))] [1,3,4]) (.block 0 (.loop [1,3,4] c21l1))) (.seq (.ops [O1 41 (.mov (.tmp 3)),O1 2 (.mov (.tmp 41))] [2]) (.ret)))),42,[(2,none)],true⟩
theorem ok21:FunOK Tryd.prog 21 c21:= .code ⟨Tryd.f21,_,c21.code,Tryd.func21,rfl,by kernel_rfl,rfl,by kernel_rfl,by kernel_rfl⟩
/- raddle/draft.Check -/
def c22:AFun:=⟨.seq (.ops [O1 1 (.box 27 (.tmp 0)),O1 2 (.mov (.const (.int .i64 0)))] [1]) (.seq (.seq (.ops [O1 3 (.fldA 0 (.tmp 1)),O1 4 (.load none (.tmp 3)),O1 5 (.bin .gtr (.tmp 4) (.const (.int .i64 40))),O1 6 (.mov (.tmp 5)),⟨some 7,some (6,false),.fldA 1 (.tmp 1)⟩,⟨some 8,some (6,false),.load none (.tmp 7)⟩,⟨some 9,some (6,false),.bin .gtr (.tmp 8) (.const (.int .i64 40))⟩,O1 10 (.pick (.tmp 6) (.const (.bool true)) (.tmp 9)),O1 11 (.mov (.tmp 10)),⟨some 12,some (11,false),.fldA 2 (.tmp 1)⟩,⟨some 13,some (11,false),.load none (.tmp 12)⟩,⟨some 14,some (11,false),.len false (.tmp 13)⟩,⟨some 15,some (11,false),.fldA 3 (.tmp 1)⟩,⟨some 16,some (11,false),.load none (.tmp 15)⟩,⟨some 17,some (11,false),.len false (.tmp 16)⟩,⟨some 18,some (11,false),.mm true (.tmp 14) (.tmp 17)⟩,⟨some 19,some (11,false),.bin .gtr (.tmp 18) (.const (.int .i64 64))⟩,O1 20 (.pick (.tmp 11) (.const (.bool true)) (.tmp 19))] [1,20]) (.cond (.tmp 20) (.seq (.ops [O1 2 (.mov (.const (.int .i64 4)))] [2]) (.ret)) (.skip))) (.seq (.seq (.ops [O1 21 (.fldA 2 (.tmp 1)),O1 22 (.load none (.tmp 21)),O1 23 (.fldA 0 (.tmp 1)),O1 24 (.load none (.tmp 23)),O1 25 (.callF 40 [(.tmp 22),(.tmp 24)]),O1 26 (.un .not (.tmp 25)),O1 27 (.mov (.tmp 26)),⟨some 28,some (27,false),.fldA 3 (.tmp 1)⟩,⟨some 29,some (27,false),.load none (.tmp 28)⟩,⟨some 30,some (27,false),.fldA 1 (.tmp 1)⟩,⟨some 31,some (27,false),.load none (.tmp 30)⟩,⟨some 32,some (27,false),.callF 40 [(.tmp 29),(.tmp 31)]⟩,⟨some 33,some (27,false),.un .not (.tmp 32)⟩,O1 34 (.pick (.tmp 27) (.const (.bool true)) (.tmp 33)),O1 35 (.mov (.tmp 34)),⟨some 36,some (35,false),.fldA 4 (.tmp 1)⟩,⟨some 37,some (35,false),.load (some 3) (.tmp 36)⟩,⟨some 38,some (35,false),.callF 41 [.tmp 37]⟩,⟨some 39,some (35,false),.bin .neq (.tmp 38) (.const (.int .i64 0))⟩,O1 40 (.pick (.tmp 35) (.const (.bool true)) (.tmp 39)),O1 41 (.mov (.tmp 40)),⟨some 42,some (41,false),.fldA 4 (.tmp 1)⟩,⟨some 43,some (41,false),.fldA 0 (.tmp 42)⟩,⟨some 44,some (41,false),.load none (.tmp 43)⟩,⟨some 45,some (41,false),.fldA 1 (.tmp 1)⟩,⟨some 46,some (41,false),.load none (.tmp 45)⟩,⟨some 47,some (41,false),.bin .neq (.tmp 44) (.tmp 46)⟩,O1 48 (.pick (.tmp 41) (.const (.bool true)) (.tmp 47)),O1 49 (.mov (.tmp 48)),⟨some 50,some (49,false),.fldA 4 (.tmp 1)⟩,⟨some 51,some (49,false),.fldA 1 (.tmp 50)⟩,⟨some 52,some (49,false),.load none (.tmp 51)⟩,⟨some 53,some (49,false),.fldA 0 (.tmp 1)⟩,⟨some 54,some (49,false),.load none (.tmp 53)⟩,⟨some 55,some (49,false),.bin .neq (.tmp 52) (.tmp 54)⟩,O1 56 (.pick (.tmp 49) (.const (.bool true)) (.tmp 55))] [56]) (.cond (.tmp 56) (.seq (.ops [O1 2 (.mov (.const (.int .i64 8)))] [2]) (.ret)) (.skip))) (.seq (.ops [O1 2 (.mov (.const (.int .i64 0)))] [2]) (.ret)))),57,[(2,none)],true⟩
theorem ok22:FunOK Tryd.prog 22 c22:= .code ⟨Tryd.f22,_,c22.code,Tryd.func22,rfl,by kernel_rfl,rfl,by kernel_rfl,by kernel_rfl⟩
/- raddle/file.Check$1 -/
def c23:AFun:=⟨.seq (.ops [O1 2 (.mov (.const (.bool false)))] [0]) (.seq (.ops [O1 3 (.mov (.tmp 0)),O1 4 (.bin .lss (.tmp 3) (.const (.int .i64 0))),O1 5 (.mov (.tmp 4)),⟨some 6,some (5,false),.mov (.tmp 0)⟩,⟨some 7,some (5,false),.bin .gtr (.tmp 6) (.const (.int .i64 15))⟩,O1 8 (.pick (.tmp 5) (.const (.bool true)) (.tmp 7)),O1 2 (.mov (.tmp 8))] [2]) (.ret)),9,[(2,none)],true⟩
theorem ok23:FunOK Tryd.prog 23 c23:= .code ⟨Tryd.f23,_,c23.code,Tryd.func23,rfl,by kernel_rfl,rfl,by kernel_rfl,by kernel_rfl⟩
/- raddle/file.named -/
def c24:AFun:=⟨.seq (.ops [O1 2 (.mov (.const (.bool false)))] [0]) (.seq (.seq (.ops [O1 3 (.mov (.tmp 0)),O1 4 (.len true (.tmp 3)),O1 5 (.bin .lss (.tmp 4) (.const (.int .i64 1))),O1 6 (.mov (.tmp 5)),⟨some 7,some (6,false),.mov (.tmp 0)⟩,⟨some 8,some (6,false),.len true (.tmp 7)⟩,⟨some 9,some (6,false),.bin .gtr (.tmp 8) (.const (.int .i64 40))⟩,O1 10 (.pick (.tmp 6) (.const (.bool true)) (.tmp 9)),O1 11 (.mov (.tmp 10)),⟨some 12,some (11,false),.mov (.tmp 0)⟩,⟨some 13,some (11,false),.idxStr (.tmp 12) (.const (.int .i64 0))⟩,⟨some 14,some (11,false),.bin .lss (.tmp 13) (.const (.int .u8 97))⟩,O1 15 (.pick (.tmp 11) (.const (.bool true)) (.tmp 14)),O1 16 (.mov (.tmp 15)),⟨some 17,some (16,false),.mov (.tmp 0)⟩,⟨some 18,some (16,false),.idxStr (.tmp 17) (.const (.int .i64 0))⟩,⟨some 19,some (16,false),.bin .gtr (.tmp 18) (.const (.int .u8 122))⟩,O1 20 (.pick (.tmp 16) (.const (.bool true)) (.tmp 19))] [0,20]) (.cond (.tmp 20) (.seq (.ops [O1 2 (.mov (.const (.bool false)))] [2]) (.ret)) (.skip))) (.seq (.ops [O1 21 (.mov (.tmp 0)),O1 22 (.callF 42 [(.tmp 21),(.const (.string ⟨#[97,98,99,100,101,102,103,104,105,106,107,108,109,110,111,112,113,114,115,116,117,118,119,120,121,122,48,49,50,51,52,53,54,55,56,57,45]⟩))]),O1 23 (.bin .eql (.tmp 22) (.const (.string ⟨#[]⟩))),O1 2 (.mov (.tmp 23))] [2]) (.ret))),24,[(2,none)],true⟩
theorem ok24:FunOK Tryd.prog 24 c24:= .code ⟨Tryd.f24,_,c24.code,Tryd.func24,rfl,by kernel_rfl,rfl,by kernel_rfl,by kernel_rfl⟩
/- slices.ContainsFunc[[]int,int] -/
def c25:AFun:=⟨.seq (.ops [O1 4 (.mov (.const (.bool false)))] [0,1]) (.seq (.ops [O1 5 (.mov (.tmp 0)),O1 6 (.mov (.tmp 1)),O1 7 (.callF 43 [(.tmp 5),(.tmp 6)]),O1 8 (.bin .geq (.tmp 7) (.const (.int .i64 0))),O1 4 (.mov (.tmp 8))] [4]) (.ret)),9,[(4,none)],true⟩
theorem ok25:FunOK Tryd.prog 25 c25:= .code ⟨Tryd.f25,_,c25.code,Tryd.func25,rfl,by kernel_rfl,rfl,by kernel_rfl,by kernel_rfl⟩
/- raddle/raddleref03.Check -/
def c26:AFun:=⟨.seq (.ops [O1 1 (.box 27 (.tmp 0)),O1 2 (.mov (.const (.int .i64 0)))] [1]) (.seq (.seq (.ops [O1 3 (.fldA 0 (.tmp 1)),O1 4 (.load none (.tmp 3)),O1 5 (.bin .gtr (.tmp 4) (.const (.int .i64 40))),O1 6 (.mov (.tmp 5)),⟨some 7,some (6,false),.fldA 1 (.tmp 1)⟩,⟨some 8,some (6,false),.load none (.tmp 7)⟩,⟨some 9,some (6,false),.bin .gtr (.tmp 8) (.const (.int .i64 40))⟩,O1 10 (.pick (.tmp 6) (.const (.bool true)) (.tmp 9)),O1 11 (.mov (.tmp 10)),⟨some 12,some (11,false),.fldA 2 (.tmp 1)⟩,⟨some 13,some (11,false),.load none (.tmp 12)⟩,⟨some 14,some (11,false),.len false (.tmp 13)⟩,⟨some 15,some (11,false),.bin .gtr (.tmp 14) (.const (.int .i64 64))⟩,O1 16 (.pick (.tmp 11) (.const (.bool true)) (.tmp 15)),O1 17 (.mov (.tmp 16)),⟨some 18,some (17,false),.fldA 3 (.tmp 1)⟩,⟨some 19,some (17,false),.load none (.tmp 18)⟩,⟨some 20,some (17,false),.len false (.tmp 19)⟩,⟨some 21,some (17,false),.bin .gtr (.tmp 20) (.const (.int .i64 64))⟩,O1 22 (.pick (.tmp 17) (.const (.bool true)) (.tmp 21))] [1,22]) (.cond (.tmp 22) (.seq (.ops [O1 2 (.mov (.const (.int .i64 4)))] [2]) (.ret)) (.skip))) (.seq (.seq (.ops [O1 23 (.fldA 0 (.tmp 1)),O1 24 (.load none (.tmp 23)),O1 25 (.bin .lss (.tmp 24) (.const (.int .i64 1))),O1 26 (.mov (.tmp 25)),⟨some 27,some (26,false),.fldA 1 (.tmp 1)⟩,⟨some 28,some (26,false),.load none (.tmp 27)⟩,⟨some 29,some (26,false),.bin .lss (.tmp 28) (.const (.int .i64 1))⟩,O1 30 (.pick (.tmp 26) (.const (.bool true)) (.tmp 29)),O1 31 (.mov (.tmp 30)),⟨some 32,some (31,false),.fldA 2 (.tmp 1)⟩,⟨some 33,some (31,false),.load none (.tmp 32)⟩,⟨some 34,some (31,false),.fldA 0 (.tmp 1)⟩,⟨some 35,some (31,false),.load none (.tmp 34)⟩,⟨some 36,some (31,false),.callF 44 [(.tmp 33),(.tmp 35)]⟩,⟨some 37,some (31,false),.un .not (.tmp 36)⟩,O1 38 (.pick (.tmp 31) (.const (.bool true)) (.tmp 37)),O1 39 (.mov (.tmp 38)),⟨some 40,some (39,false),.fldA 3 (.tmp 1)⟩,⟨some 41,some (39,false),.load none (.tmp 40)⟩,⟨some 42,some (39,false),.fldA 1 (.tmp 1)⟩,⟨some 43,some (39,false),.load none (.tmp 42)⟩,⟨some 44,some (39,false),.callF 44 [(.tmp 41),(.tmp 43)]⟩,⟨some 45,some (39,false),.un .not (.tmp 44)⟩,O1 46 (.pick (.tmp 39) (.const (.bool true)) (.tmp 45)),O1 47 (.mov (.tmp 46)),⟨some 48,some (47,false),.fldA 4 (.tmp 1)⟩,⟨some 49,some (47,false),.load (some 3) (.tmp 48)⟩,⟨some 50,some (47,false),.callF 45 [.tmp 49]⟩,⟨some 51,some (47,false),.bin .neq (.tmp 50) (.const (.int .i64 0))⟩,O1 52 (.pick (.tmp 47) (.const (.bool true)) (.tmp 51)),O1 53 (.mov (.tmp 52)),⟨some 54,some (53,false),.fldA 4 (.tmp 1)⟩,⟨some 55,some (53,false),.fldA 0 (.tmp 54)⟩,⟨some 56,some (53,false),.load none (.tmp 55)⟩,⟨some 57,some (53,false),.fldA 1 (.tmp 1)⟩,⟨some 58,some (53,false),.load none (.tmp 57)⟩,⟨some 59,some (53,false),.bin .neq (.tmp 56) (.tmp 58)⟩,O1 60 (.pick (.tmp 53) (.const (.bool true)) (.tmp 59)),O1 61 (.mov (.tmp 60)),⟨some 62,some (61,false),.fldA 4 (.tmp 1)⟩,⟨some 63,some (61,false),.fldA 1 (.tmp 62)⟩,⟨some 64,some (61,false),.load none (.tmp 63)⟩,⟨some 65,some (61,false),.fldA 0 (.tmp 1)⟩,
  ⟨some 66,some (61,false),.load none (.tmp 65)⟩,⟨some 67,some (61,false),.bin .neq (.tmp 64) (.tmp 66)⟩,O1 68 (.pick (.tmp 61) (.const (.bool true)) (.tmp 67))] [68]) (.cond (.tmp 68) (.seq (.ops [O1 2 (.mov (.const (.int .i64 8)))] [2]) (.ret)) (.skip))) (.seq (.ops [O1 2 (.mov (.const (.int .i64 0)))] [2]) (.ret)))),69,[(2,none)],true⟩
theorem ok26:FunOK Tryd.prog 26 c26:= .code ⟨Tryd.f26,_,c26.code,Tryd.func26,rfl,by kernel_rfl,rfl,by kernel_rfl,by kernel_rfl⟩
/- raddle/raddleref19.Name -/
def c27l0:AC:= .seq (.seq (.ops [O1 5 (.mov (.tmp 3)),O1 6 (.mov (.tmp 0)),O1 7 (.len true (.tmp 6)),O1 8 (.bin .lss (.tmp 5) (.tmp 7))] [0,3,8]) (.cond (.tmp 8) (.skip) (.exit 0))) (.seq (.block 1 (.seq (.ops [O1 11 (.mov (.tmp 0)),O1 12 (.mov (.tmp 3)),O1 13 (.idxStr (.tmp 11) (.tmp 12)),O1 14 (.bin .geq (.tmp 13) (.const (.int .u8 97))),O1 15 (.mov (.tmp 14)),⟨some 16,some (15,true),.mov (.tmp 0)⟩,⟨some 17,some (15,true),.mov (.tmp 3)⟩,⟨some 18,some (15,true),.idxStr (.tmp 16) (.tmp 17)⟩,⟨some 19,some (15,true),.bin .leq (.tmp 18) (.const (.int .u8 122))⟩,O1 20 (.pick (.tmp 15) (.tmp 19) (.const (.bool false))),O1 4 (.mov (.tmp 20))] [0,3,4]) (.seq (.ops [O1 21 (.mov (.tmp 4)),O1 22 (.un .not (.tmp 21)),O1 23 (.mov (.tmp 22)),⟨some 24,some (23,true),.mov (.tmp 3)⟩,⟨some 25,some (23,true),.bin .eql (.tmp 24) (.const (.int .i64 0))⟩,⟨some 26,some (23,true),.mov (.tmp 25)⟩,⟨some 27,some (26,false),.mov (.tmp 0)⟩,⟨some 28,some (26,false),.mov (.tmp 3)⟩,⟨some 29,some (26,false),.idxStr (.tmp 27) (.tmp 28)⟩,⟨some 30,some (26,false),.bin .neq (.tmp 29) (.const (.int .u8 45))⟩,⟨some 31,some (26,false),.mov (.tmp 30)⟩,⟨some 32,some (31,true),.mov (.tmp 0)⟩,⟨some 33,some (31,true),.mov (.tmp 3)⟩,⟨some 34,some (31,true),.idxStr (.tmp 32) (.tmp 33)⟩,⟨some 35,some (31,true),.bin .lss (.tmp 34) (.const (.int .u8 48))⟩,⟨some 36,some (31,true),.mov (.tmp 35)⟩,⟨some 37,some (36,false),.mov (.tmp 0)⟩,⟨some 38,some (36,false),.mov (.tmp 3)⟩,⟨some 39,some (36,false),.idxStr (.tmp 37) (.tmp 38)⟩,⟨some 40,some (36,false),.bin .gtr (.tmp 39) (.const (.int .u8 57))⟩,⟨some 41,some (31,true),.pick (.tmp 36) (.const (.bool true)) (.tmp 40)⟩,⟨some 42,some (26,false),.pick (.tmp 31) (.tmp 41) (.const (.bool false))⟩,⟨some 43,some (23,true),.pick (.tmp 26) (.const (.bool true)) (.tmp 42)⟩,O1 44 (.pick (.tmp 23) (.tmp 43) (.const (.bool false)))] [0,3,44]) (.cond (.tmp 44) (.seq (.ops [O1 2 (.mov (.const (.bool false)))] [2]) (.ret)) (.skip))))) (.ops [O1 9 (.mov (.tmp 3)),O1 10 (.bin .add (.tmp 9) (.const (.int .i64 1))),O1 3 (.mov (.tmp 10))] [0,3]))
def c27:AFun:=⟨.seq (.ops [O1 2 (.mov (.const (.bool false)))] [0]) (.seq (.seq (.ops [O1 3 (.mov (.const (.int .i64 0)))] [0,3]) (.block 0 (.loop [0,3] c27l0))) (.seq (.ops [O1 45 (.mov (.tmp 0)),O1 46 (.len true (.tmp 45)),O1 47 (.bin .geq (.tmp 46) (.const (.int .i64 1))),O1 48 (.mov (.tmp 47)),⟨some 49,some (48,true),.mov (.tmp 0)⟩,⟨some 50,some (48,true),.len true (.tmp 49)⟩,⟨some 51,some (48,true),.bin .leq (.tmp 50) (.const (.int .i64 40))⟩,O1 52 (.pick (.tmp 48) (.tmp 51) (.const (.bool false))),O1 2 (.mov (.tmp 52))] [2]) (.ret))),53,[(2,none)],true⟩
theorem ok27:FunOK Tryd.prog 27 c27:= .code ⟨Tryd.f27,_,c27.code,Tryd.func27,rfl,by kernel_rfl,rfl,by kernel_rfl,by kernel_rfl⟩
/- raddle/raddleref14.Fine -/
def c28l0:AC:= .seq (.seq (.ops [O1 4 (.mov (.tmp 3)),O1 5 (.mov (.tmp 0)),O1 6 (.len false (.tmp 5)),O1 7 (.bin .lss (.tmp 4) (.tmp 6))] [0,3,7]) (.cond (.tmp 7) (.skip) (.exit 0))) (.seq (.block 1 (.seq (.ops [O1 10 (.mov (.tmp 0)),O1 11 (.mov (.tmp 3)),O1 12 (.idxS 1 (.tmp 10) (.tmp 11)),O1 13 (.load none (.tmp 12)),O1 14 (.bin .lss (.tmp 13) (.const (.int .i64 0))),O1 15 (.mov (.tmp 14)),⟨some 16,some (15,false),.mov (.tmp 0)⟩,⟨some 17,some (15,false),.mov (.tmp 3)⟩,⟨some 18,some (15,false),.idxS 1 (.tmp 16) (.tmp 17)⟩,⟨some 19,some (15,false),.load none (.tmp 18)⟩,⟨some 20,some (15,false),.bin .gtr (.tmp 19) (.const (.int .i64 15))⟩,O1 21 (.pick (.tmp 15) (.const (.bool true)) (.tmp 20))] [0,3,21]) (.cond (.tmp 21) (.seq (.ops [O1 2 (.mov (.const (.bool false)))] [2]) (.ret)) (.skip)))) (.ops [O1 8 (.mov (.tmp 3)),O1 9 (.bin .add (.tmp 8) (.const (.int .i64 1))),O1 3 (.mov (.tmp 9))] [0,3]))
def c28:AFun:=⟨.seq (.ops [O1 2 (.mov (.const (.bool false)))] [0]) (.seq (.seq (.ops [O1 3 (.mov (.const (.int .i64 0)))] [0,3]) (.block 0 (.loop [0,3] c28l0))) (.seq (.ops [O1 2 (.mov (.const (.bool true)))] [2]) (.ret))),22,[(2,none)],true⟩
theorem ok28:FunOK Tryd.prog 28 c28:= .code ⟨Tryd.f28,_,c28.code,Tryd.func28,rfl,by kernel_rfl,rfl,by kernel_rfl,by kernel_rfl⟩
/- raddle/draft.Same -/
def c29:AFun:=⟨.seq (.ops [O1 2 (.box 27 (.tmp 0)),O1 3 (.box 27 (.tmp 1)),O1 4 (.mov (.const (.bool false)))] [2,3]) (.seq (.ops [O1 5 (.fldA 0 (.tmp 2)),O1 6 (.load none (.tmp 5)),O1 7 (.fldA 0 (.tmp 3)),O1 8 (.load none (.tmp 7)),O1 9 (.bin .eql (.tmp 6) (.tmp 8)),O1 10 (.mov (.tmp 9)),⟨some 11,some (10,true),.fldA 1 (.tmp 2)⟩,⟨some 12,some (10,true),.load none (.tmp 11)⟩,⟨some 13,some (10,true),.fldA 1 (.tmp 3)⟩,⟨some 14,some (10,true),.load none (.tmp 13)⟩,⟨some 15,some (10,true),.bin .eql (.tmp 12) (.tmp 14)⟩,O1 16 (.pick (.tmp 10) (.tmp 15) (.const (.bool false))),O1 17 (.mov (.tmp 16)),⟨some 18,some (17,true),.fldA 2 (.tmp 2)⟩,⟨some 19,some (17,true),.load none (.tmp 18)⟩,⟨some 20,some (17,true),.fldA 2 (.tmp 3)⟩,⟨some 21,some (17,true),.load none (.tmp 20)⟩,⟨some 22,some (17,true),.callF 30 [(.tmp 19),(.tmp 21)]⟩,O1 23 (.pick (.tmp 17) (.tmp 22) (.const (.bool false))),O1 24 (.mov (.tmp 23)),⟨some 25,some (24,true),.fldA 3 (.tmp 2)⟩,⟨some 26,some (24,true),.load none (.tmp 25)⟩,⟨some 27,some (24,true),.fldA 3 (.tmp 3)⟩,⟨some 28,some (24,true),.load none (.tmp 27)⟩,⟨some 29,some (24,true),.callF 30 [(.tmp 26),(.tmp 28)]⟩,O1 30 (.pick (.tmp 24) (.tmp 29) (.const (.bool false))),O1 31 (.mov (.tmp 30)),⟨some 32,some (31,true),.fldA 4 (.tmp 2)⟩,⟨some 33,some (31,true),.load (some 3) (.tmp 32)⟩,⟨some 34,some (31,true),.fldA 4 (.tmp 3)⟩,⟨some 35,some (31,true),.load (some 3) (.tmp 34)⟩,⟨some 36,some (31,true),.callF 46 [(.tmp 33),(.tmp 35)]⟩,O1 37 (.pick (.tmp 31) (.tmp 36) (.const (.bool false))),O1 4 (.mov (.tmp 37))] [4]) (.ret)),38,[(4,none)],true⟩
theorem ok29:FunOK Tryd.prog 29 c29:= .code ⟨Tryd.f29,_,c29.code,Tryd.func29,rfl,by kernel_rfl,rfl,by kernel_rfl,by kernel_rfl⟩
/- slices.Equal[[]int,int] -/
def c30l0:AC:= .seq (.ops [O1 14 (.bin .lss (.tmp 13) (.tmp 12))] [0,1,12,13,14]) (.seq (.cond (.tmp 14) (.skip) (.exit 0)) (.seq (.block 1 (.seq (.ops [O1 15 (.mov (.tmp 13)),O1 5 (.mov (.tmp 15))] [0,1,5,12,13]) (.seq (.draw [O1 16 (.mov (.tmp 0)),O1 17 (.mov (.tmp 5)),O1 18 (.idxS 1 (.tmp 16) (.tmp 17)),O1 19 (.load none (.tmp 18)),O1 20 (.mov (.tmp 1)),O1 21 (.mov (.tmp 5)),O1 22 (.idxS 1 (.tmp 20) (.tmp 21)),O1 23 (.load none (.tmp 22))] [O1 24 (.bin .neq (.tmp 19) (.tmp 23))] [[],[],[],[],[],[],[],[]] [0,1,12,13,24]) (.cond (.tmp 24) (.seq (.ops [O1 4 (.mov (.const (.bool false)))] [4]) (.ret)) (.skip))))) (.ops [O1 25 (.bin .add (.tmp 13) (.const (.int .i64 1))),O1 13 (.mov (.tmp 25))] [0,1,12,13])))
def c30:AFun:=⟨.seq (.ops [O1 4 (.mov (.const (.bool false)))] [0,1]) (.seq (.seq (.ops [O1 6 (.mov (.tmp 0)),O1 7 (.len false (.tmp 6)),O1 8 (.mov (.tmp 1)),O1 9 (.len false (.tmp 8)),O1 10 (.bin .neq (.tmp 7) (.tmp 9))] [0,1,10]) (.cond (.tmp 10) (.seq (.ops [O1 4 (.mov (.const (.bool false)))] [4]) (.ret)) (.skip))) (.seq (.seq (.ops [O1 11 (.mov (.tmp 0)),O1 12 (.len false (.tmp 11)),O1 13 (.mov (.const (.int .i64 0)))] [0,1,12,13]) (.block 0 (.loop [0,1,12,13] c30l0))) (.seq (.ops [O1 4 (.mov (.const (.bool true)))] [4]) (.ret)))),26,[(4,none)],true⟩
theorem ok30:FunOK Tryd.prog 30 c30:= .code ⟨Tryd.f30,_,c30.code,Tryd.func30,rfl,by kernel_rfl,rfl,by kernel_rfl,by kernel_rfl⟩
/- raddle/raddleref03.Same -/
def c31:AFun:=⟨.seq (.ops [O1 2 (.box 27 (.tmp 0)),O1 3 (.box 27 (.tmp 1)),O1 4 (.mov (.const (.bool false)))] [2,3]) (.seq (.ops [O1 5 (.fldA 0 (.tmp 2)),O1 6 (.load none (.tmp 5)),O1 7 (.fldA 0 (.tmp 3)),O1 8 (.load none (.tmp 7)),O1 9 (.bin .eql (.tmp 6) (.tmp 8)),O1 10 (.mov (.tmp 9)),⟨some 11,some (10,true),.fldA 1 (.tmp 2)⟩,⟨some 12,some (10,true),.load none (.tmp 11)⟩,⟨some 13,some (10,true),.fldA 1 (.tmp 3)⟩,⟨some 14,some (10,true),.load none (.tmp 13)⟩,⟨some 15,some (10,true),.bin .eql (.tmp 12) (.tmp 14)⟩,O1 16 (.pick (.tmp 10) (.tmp 15) (.const (.bool false))),O1 17 (.mov (.tmp 16)),⟨some 18,some (17,true),.fldA 2 (.tmp 2)⟩,⟨some 19,some (17,true),.load none (.tmp 18)⟩,⟨some 20,some (17,true),.fldA 2 (.tmp 3)⟩,⟨some 21,some (17,true),.load none (.tmp 20)⟩,⟨some 22,some (17,true),.callF 32 [(.tmp 19),(.tmp 21)]⟩,O1 23 (.pick (.tmp 17) (.tmp 22) (.const (.bool false))),O1 24 (.mov (.tmp 23)),⟨some 25,some (24,true),.fldA 3 (.tmp 2)⟩,⟨some 26,some (24,true),.load none (.tmp 25)⟩,⟨some 27,some (24,true),.fldA 3 (.tmp 3)⟩,⟨some 28,some (24,true),.load none (.tmp 27)⟩,⟨some 29,some (24,true),.callF 32 [(.tmp 26),(.tmp 28)]⟩,O1 30 (.pick (.tmp 24) (.tmp 29) (.const (.bool false))),O1 31 (.mov (.tmp 30)),⟨some 32,some (31,true),.fldA 4 (.tmp 2)⟩,⟨some 33,some (31,true),.load (some 3) (.tmp 32)⟩,⟨some 34,some (31,true),.fldA 4 (.tmp 3)⟩,⟨some 35,some (31,true),.load (some 3) (.tmp 34)⟩,⟨some 36,some (31,true),.callF 47 [(.tmp 33),(.tmp 35)]⟩,O1 37 (.pick (.tmp 31) (.tmp 36) (.const (.bool false))),O1 4 (.mov (.tmp 37))] [4]) (.ret)),38,[(4,none)],true⟩
theorem ok31:FunOK Tryd.prog 31 c31:= .code ⟨Tryd.f31,_,c31.code,Tryd.func31,rfl,by kernel_rfl,rfl,by kernel_rfl,by kernel_rfl⟩
/- raddle/raddleref02.Same -/
def c32l0:AC:= .seq (.seq (.ops [O1 11 (.mov (.tmp 5)),O1 12 (.mov (.tmp 0)),O1 13 (.len false (.tmp 12)),O1 14 (.bin .lss (.tmp 11) (.tmp 13))] [0,1,5,14]) (.cond (.tmp 14) (.skip) (.exit 0))) (.seq (.block 1 (.seq (.draw [O1 17 (.mov (.tmp 0)),O1 18 (.mov (.tmp 5)),O1 19 (.idxS 1 (.tmp 17) (.tmp 18)),O1 20 (.load none (.tmp 19)),O1 21 (.mov (.tmp 1)),O1 22 (.mov (.tmp 5)),O1 23 (.idxS 1 (.tmp 21) (.tmp 22)),O1 24 (.load none (.tmp 23))] [O1 25 (.bin .neq (.tmp 20) (.tmp 24))] [[],[],[],[],[],[],[],[]] [0,1,5,25]) (.cond (.tmp 25) (.seq (.ops [O1 4 (.mov (.const (.bool false)))] [4]) (.ret)) (.skip)))) (.ops [O1 15 (.mov (.tmp 5)),O1 16 (.bin .add (.tmp 15) (.const (.int .i64 1))),O1 5 (.mov (.tmp 16))] [0,1,5]))
def c32:AFun:=⟨.seq (.ops [O1 4 (.mov (.const (.bool false)))] [0,1]) (.seq (.seq (.ops [O1 6 (.mov (.tmp 0)),O1 7 (.len false (.tmp 6)),O1 8 (.mov (.tmp 1)),O1 9 (.len false (.tmp 8)),O1 10 (.bin .neq (.tmp 7) (.tmp 9))] [0,1,10]) (.cond (.tmp 10) (.seq (.ops [O1 4 (.mov (.const (.bool false)))] [4]) (.ret)) (.skip))) (.seq (.seq (.ops [O1 5 (.mov (.const (.int .i64 0)))] [0,1,5]) (.block 0 (.loop [0,1,5] c32l0))) (.seq (.ops [O1 4 (.mov (.const (.bool true)))] [4]) (.ret)))),26,[(4,none)],true⟩
theorem ok32:FunOK Tryd.prog 32 c32:= .code ⟨Tryd.f32,_,c32.code,Tryd.func32,rfl,by kernel_rfl,rfl,by kernel_rfl,by kernel_rfl⟩
/- raddle/raddleref01.Great -/
def c33:AFun:=⟨.seq (.ops [O1 1 (.box 25 (.tmp 0)),O1 2 (.mov (.const (.bool false)))] [1]) (.seq (.ops [O1 3 (.fldA 2 (.tmp 1)),O1 4 (.load none (.tmp 3)),O1 5 (.len false (.tmp 4)),O1 6 (.bin .gtr (.tmp 5) (.const (.int .i64 4200))),O1 2 (.mov (.tmp 6))] [2]) (.ret)),7,[(2,none)],true⟩
theorem ok33:FunOK Tryd.prog 33 c33:= .code ⟨Tryd.f33,_,c33.code,Tryd.func33,rfl,by kernel_rfl,rfl,by kernel_rfl,by kernel_rfl⟩
/- raddle/raddleref01.Twin -/
def c34:AFun:=⟨.seq (.ops [O1 1 (.box 25 (.tmp 0)),O1 2 (.alloc 25 [(2,(.int .i64 0)),(1,(.slice none 0 0))])] [1,2]) (.seq (.draw [O1 3 (.fldA 0 (.tmp 1)),O1 4 (.load none (.tmp 3)),O1 5 (.fldA 1 (.tmp 1)),O1 6 (.load none (.tmp 5)),O1 7 (.mkRow 4 1 0 [(.bool false)] []),O1 8 (.fldA 2 (.tmp 1)),O1 9 (.load none (.tmp 8)),O1 10 (.app 4 1 1 (.tmp 7) (.tmp 9))] [O1 11 (.build [(.int .i64 0),(.int .i64 0),(.slice none 0 0)] [(0,1,(.tmp 4)),(1,1,(.tmp 6)),(2,1,(.tmp 10))]),⟨none,none,.store 3 (.tmp 2) (.tmp 11)⟩] [[],[],[],[],[],[false,false,false,false,false],[true,false,false,false,false,false],[]] [2]) (.ret)),12,[(2,(some (some 3)))],true⟩
theorem ok34:FunOK Tryd.prog 34 c34:= .code ⟨Tryd.f34,_,c34.code,Tryd.func34,rfl,by kernel_rfl,rfl,by kernel_rfl,by kernel_rfl⟩
/- (*strings.Builder).copyCheck (1 operations that the interpreter lacks) -/
def c35:AFun:=⟨.seq (.ops [O1 2 (.mov (.tmp 0)),O1 3 (.nilChk (.tmp 2)),O1 4 (.fldA 0 (.tmp 3)),O1 5 (.load none (.tmp 4)),O1 6 (.eqNil 0 false (.tmp 5) (.const (.pointer none)))] [0,6]) (.cond (.tmp 6) (.ops [O1 7 (.mov (.tmp 0)),O1 8 (.mov (.tmp 0)),O1 9 (.toUns (.tmp 8)),O1 10 (.callF 48 [.tmp 9]),O1 11 (.fromUns 45 2 (.tmp 10)),O1 12 (.nilChk (.tmp 7)),O1 13 (.fldA 0 (.tmp 12)),⟨none,none,.store 1 (.tmp 13) (.tmp 11)⟩] []) (.seq (.ops [O1 14 (.mov (.tmp 0)),O1 15 (.nilChk (.tmp 14)),O1 16 (.fldA 0 (.tmp 15)),O1 17 (.load none (.tmp 16)),O1 18 (.mov (.tmp 0)),O1 19 (.eqPtr true (.tmp 17) (.tmp 18))] [19]) (.cond (.tmp 19) (.bad) (.skip)))),20,[],false⟩
theorem ok35:FunOK Tryd.prog 35 c35:= .code ⟨Tryd.f35,_,c35.code,Tryd.func35,rfl,by kernel_rfl,rfl,by kernel_rfl,by kernel_rfl⟩
/- raddle/raddleref02.Decimal -/
def c38l0:AC:= .seq (.seq (.ops [O1 4 (.mov (.tmp 0)),O1 5 (.bin .gtr (.tmp 4) (.const (.int .i64 9)))] [0,3,5]) (.cond (.tmp 5) (.skip) (.exit 0))) (.block 1 (.seq (.ops [O1 6 (.mov (.tmp 0)),O1 7 (.bin .rem (.tmp 6) (.const (.int .i64 10))),O1 8 (.bin .add (.const (.int .i64 48)) (.tmp 7)),O1 9 (.convI .u8 (.tmp 8)),O1 10 (.mkRow 5 1 1 [(.int .u8 0)] [(0,1,(.tmp 9))]),O1 11 (.b2s (.tmp 10)),O1 12 (.mov (.tmp 3)),O1 13 (.bin .add (.tmp 11) (.tmp 12)),O1 3 (.mov (.tmp 13))] [0,3]) (.ops [O1 14 (.mov (.tmp 0)),O1 15 (.bin .quo (.tmp 14) (.const (.int .i64 10))),O1 0 (.mov (.tmp 15))] [0,3])))
def c38:AFun:=⟨.seq (.ops [O1 2 (.mov (.const (.string ⟨#[]⟩)))] [0]) (.seq (.ops [O1 3 (.mov (.const (.string ⟨#[]⟩)))] [0,3]) (.seq (.block 0 (.loop [0,3] c38l0)) (.seq (.ops [O1 16 (.mov (.tmp 0)),O1 17 (.bin .add (.const (.int .i64 48)) (.tmp 16)),O1 18 (.convI .u8 (.tmp 17)),O1 19 (.mkRow 5 1 1 [(.int .u8 0)] [(0,1,(.tmp 18))]),O1 20 (.b2s (.tmp 19)),O1 21 (.mov (.tmp 3)),O1 22 (.bin .add (.tmp 20) (.tmp 21)),O1 2 (.mov (.tmp 22))] [2]) (.ret)))),23,[(2,none)],true⟩
theorem ok38:FunOK Tryd.prog 38 c38:= .code ⟨Tryd.f38,_,c38.code,Tryd.func38,rfl,by kernel_rfl,rfl,by kernel_rfl,by kernel_rfl⟩
/- raddle/raddleref03.Lifts -/
def c39:AFun:=⟨.seq (.ops [O1 3 (.box 27 (.tmp 0)),O1 6 (.mov (.const (.bool false)))] [1,2,3]) (.seq (.ops [O1 7 (.fldA 4 (.tmp 3)),O1 8 (.load (some 3) (.tmp 7)),O1 9 (.mov (.tmp 1)),O1 10 (.mov (.tmp 2)),O1 11 (.callF 51 [(.tmp 8),(.tmp 9),(.tmp 10)]),O1 6 (.mov (.tmp 11))] [6]) (.ret)),12,[(6,none)],true⟩
theorem ok39:FunOK Tryd.prog 39 c39:= .code ⟨Tryd.f39,_,c39.code,Tryd.func39,rfl,by kernel_rfl,rfl,by kernel_rfl,by kernel_rfl⟩
/- raddle/draft.within -/
def c40:AFun:=⟨.seq (.ops [O1 4 (.mov (.const (.bool false)))] [0,1]) (.seq (.ops [O1 5 (.mov (.tmp 0)),O1 6 (.len false (.tmp 5)),O1 7 (.bin .gtr (.tmp 6) (.const (.int .i64 0))),O1 8 (.mov (.tmp 7)),⟨some 9,some (8,true),.mov (.tmp 0)⟩,⟨some 10,some (8,true),.callF 52 [.tmp 9]⟩,⟨some 11,some (8,true),.bin .geq (.tmp 10) (.const (.int .i64 0))⟩,O1 12 (.pick (.tmp 8) (.tmp 11) (.const (.bool false))),O1 13 (.mov (.tmp 12)),⟨some 14,some (13,true),.mov (.tmp 0)⟩,⟨some 15,some (13,true),.callF 53 [.tmp 14]⟩,⟨some 16,some (13,true),.mov (.tmp 1)⟩,⟨some 17,some (13,true),.bin .lss (.tmp 15) (.tmp 16)⟩,O1 18 (.pick (.tmp 13) (.tmp 17) (.const (.bool false))),O1 4 (.mov (.tmp 18))] [4]) (.ret)),19,[(4,none)],true⟩
theorem ok40:FunOK Tryd.prog 40 c40:= .code ⟨Tryd.f40,_,c40.code,Tryd.func40,rfl,by kernel_rfl,rfl,by kernel_rfl,by kernel_rfl⟩
/- raddle/grid.Check -/
def c41:AFun:=⟨.seq (.ops [O1 1 (.box 25 (.tmp 0)),O1 2 (.mov (.const (.int .i64 0)))] [1]) (.seq (.block 0 (.seq (.ops [O1 4 (.fldA 0 (.tmp 1)),O1 5 (.load none (.tmp 4)),O1 6 (.fldA 1 (.tmp 1)),O1 7 (.load none (.tmp 6)),O1 8 (.mm true (.tmp 5) (.tmp 7)),O1 9 (.bin .gtr (.tmp 8) (.const (.int .i64 64))),O1 3 (.mov (.tmp 9))] [1,3]) (.cond (.tmp 3) (.seq (.ops [O1 2 (.mov (.const (.int .i64 4)))] [2]) (.ret)) (.seq (.ops [O1 11 (.fldA 0 (.tmp 1)),O1 12 (.load none (.tmp 11)),O1 13 (.fldA 1 (.tmp 1)),O1 14 (.load none (.tmp 13)),O1 15 (.mm false (.tmp 12) (.tmp 14)),O1 16 (.bin .lss (.tmp 15) (.const (.int .i64 1))),O1 17 (.mov (.tmp 16)),⟨some 18,some (17,false),.fldA 2 (.tmp 1)⟩,⟨some 19,some (17,false),.load none (.tmp 18)⟩,⟨some 20,some (17,false),.len false (.tmp 19)⟩,⟨some 21,some (17,false),.fldA 0 (.tmp 1)⟩,⟨some 22,some (17,false),.load none (.tmp 21)⟩,⟨some 23,some (17,false),.fldA 1 (.tmp 1)⟩,⟨some 24,some (17,false),.load none (.tmp 23)⟩,⟨some 25,some (17,false),.bin .mul (.tmp 22) (.tmp 24)⟩,⟨some 26,some (17,false),.bin .neq (.tmp 20) (.tmp 25)⟩,O1 27 (.pick (.tmp 17) (.const (.bool true)) (.tmp 26)),O1 10 (.mov (.tmp 27))] [10]) (.cond (.tmp 10) (.seq (.ops [O1 2 (.mov (.const (.int .i64 8)))] [2]) (.ret)) (.skip)))))) (.seq (.ops [O1 2 (.mov (.const (.int .i64 0)))] [2]) (.ret))),28,[(2,none)],true⟩
theorem ok41:FunOK Tryd.prog 41 c41:= .code ⟨Tryd.f41,_,c41.code,Tryd.func41,rfl,by kernel_rfl,rfl,by kernel_rfl,by kernel_rfl⟩
/- slices.IndexFunc[[]int,int] -/
def c43l0:AC:= .seq (.ops [O1 9 (.bin .lss (.tmp 8) (.tmp 7))] [0,1,7,8,9]) (.seq (.cond (.tmp 9) (.skip) (.exit 0)) (.seq (.block 1 (.seq (.ops [O1 10 (.mov (.tmp 8)),O1 5 (.mov (.tmp 10))] [0,1,5,7,8]) (.seq (.ops [O1 11 (.mov (.tmp 1)),O1 12 (.mov (.tmp 0)),O1 13 (.mov (.tmp 5)),O1 14 (.idxS 1 (.tmp 12) (.tmp 13)),O1 15 (.load none (.tmp 14)),O1 16 (.callV (.tmp 11) [.tmp 15])] [0,1,5,7,8,16]) (.cond (.tmp 16) (.seq (.ops [O1 17 (.mov (.tmp 5)),O1 4 (.mov (.tmp 17))] [4]) (.ret)) (.skip))))) (.ops [O1 18 (.bin .add (.tmp 8) (.const (.int .i64 1))),O1 8 (.mov (.tmp 18))] [0,1,7,8])))
def c43:AFun:=⟨.seq (.ops [O1 4 (.mov (.const (.int .i64 0)))] [0,1]) (.seq (.seq (.ops [O1 6 (.mov (.tmp 0)),O1 7 (.len false (.tmp 6)),O1 8 (.mov (.const (.int .i64 0)))] [0,1,7,8]) (.block 0 (.loop [0,1,7,8] c43l0))) (.seq (.ops [O1 4 (.mov (.const (.int .i64 (-1))))] [4]) (.ret))),19,[(4,none)],true⟩
theorem ok43:FunOK Tryd.prog 43 c43:= .code ⟨Tryd.f43,_,c43.code,Tryd.func43,rfl,by kernel_rfl,rfl,by kernel_rfl,by kernel_rfl⟩
/- raddle/raddleref03.Within -/
def c44l0:AC:= .seq (.seq (.ops [O1 6 (.mov (.tmp 5)),O1 7 (.mov (.tmp 0)),O1 8 (.len false (.tmp 7)),O1 9 (.bin .lss (.tmp 6) (.tmp 8))] [0,1,5,9]) (.cond (.tmp 9) (.skip) (.exit 0))) (.seq (.block 1 (.seq (.ops [O1 12 (.mov (.tmp 0)),O1 13 (.mov (.tmp 5)),O1 14 (.idxS 1 (.tmp 12) (.tmp 13)),O1 15 (.load none (.tmp 14)),O1 16 (.bin .lss (.tmp 15) (.const (.int .i64 0))),O1 17 (.mov (.tmp 16)),⟨some 18,some (17,false),.mov (.tmp 0)⟩,⟨some 19,some (17,false),.mov (.tmp 5)⟩,⟨some 20,some (17,false),.idxS 1 (.tmp 18) (.tmp 19)⟩,⟨some 21,some (17,false),.load none (.tmp 20)⟩,⟨some 22,some (17,false),.mov (.tmp 1)⟩,⟨some 23,some (17,false),.bin .geq (.tmp 21) (.tmp 22)⟩,O1 24 (.pick (.tmp 17) (.const (.bool true)) (.tmp 23))] [0,1,5,24]) (.cond (.tmp 24) (.seq (.ops [O1 4 (.mov (.const (.bool false)))] [4]) (.ret)) (.skip)))) (.ops [O1 10 (.mov (.tmp 5)),O1 11 (.bin .add (.tmp 10) (.const (.int .i64 1))),O1 5 (.mov (.tmp 11))] [0,1,5]))
def c44:AFun:=⟨.seq (.ops [O1 4 (.mov (.const (.bool false)))] [0,1]) (.seq (.seq (.ops [O1 5 (.mov (.const (.int .i64 0)))] [0,1,5]) (.block 0 (.loop [0,1,5] c44l0))) (.seq (.ops [O1 25 (.mov (.tmp 0)),O1 26 (.len false (.tmp 25)),O1 27 (.bin .gtr (.tmp 26) (.const (.int .i64 0))),O1 4 (.mov (.tmp 27))] [4]) (.ret))),28,[(4,none)],true⟩
theorem ok44:FunOK Tryd.prog 44 c44:= .code ⟨Tryd.f44,_,c44.code,Tryd.func44,rfl,by kernel_rfl,rfl,by kernel_rfl,by kernel_rfl⟩
/- raddle/raddleref01.Check -/
def c45:AFun:=⟨.seq (.ops [O1 1 (.box 25 (.tmp 0)),O1 2 (.mov (.const (.int .i64 0)))] [1]) (.seq (.seq (.ops [O1 3 (.fldA 0 (.tmp 1)),O1 4 (.load none (.tmp 3)),O1 5 (.bin .gtr (.tmp 4) (.const (.int .i64 64))),O1 6 (.mov (.tmp 5)),⟨some 7,some (6,false),.fldA 1 (.tmp 1)⟩,⟨some 8,some (6,false),.load none (.tmp 7)⟩,⟨some 9,some (6,false),.bin .gtr (.tmp 8) (.const (.int .i64 64))⟩,O1 10 (.pick (.tmp 6) (.const (.bool true)) (.tmp 9))] [1,10]) (.cond (.tmp 10) (.seq (.ops [O1 2 (.mov (.const (.int .i64 4)))] [2]) (.ret)) (.skip))) (.seq (.seq (.ops [O1 11 (.fldA 0 (.tmp 1)),O1 12 (.load none (.tmp 11)),O1 13 (.bin .lss (.tmp 12) (.const (.int .i64 1))),O1 14 (.mov (.tmp 13)),⟨some 15,some (14,false),.fldA 1 (.tmp 1)⟩,⟨some 16,some (14,false),.load none (.tmp 15)⟩,⟨some 17,some (14,false),.bin .lss (.tmp 16) (.const (.int .i64 1))⟩,O1 18 (.pick (.tmp 14) (.const (.bool true)) (.tmp 17)),O1 19 (.mov (.tmp 18)),⟨some 20,some (19,false),.fldA 2 (.tmp 1)⟩,⟨some 21,some (19,false),.load none (.tmp 20)⟩,⟨some 22,some (19,false),.len false (.tmp 21)⟩,⟨some 23,some (19,false),.fldA 0 (.tmp 1)⟩,⟨some 24,some (19,false),.load none (.tmp 23)⟩,⟨some 25,some (19,false),.fldA 1 (.tmp 1)⟩,⟨some 26,some (19,false),.load none (.tmp 25)⟩,⟨some 27,some (19,false),.bin .mul (.tmp 24) (.tmp 26)⟩,⟨some 28,some (19,false),.bin .neq (.tmp 22) (.tmp 27)⟩,O1 29 (.pick (.tmp 19) (.const (.bool true)) (.tmp 28))] [29]) (.cond (.tmp 29) (.seq (.ops [O1 2 (.mov (.const (.int .i64 8)))] [2]) (.ret)) (.skip))) (.seq (.ops [O1 2 (.mov (.const (.int .i64 0)))] [2]) (.ret)))),30,[(2,none)],true⟩
theorem ok45:FunOK Tryd.prog 45 c45:= .code ⟨Tryd.f45,_,c45.code,Tryd.func45,rfl,by kernel_rfl,rfl,by kernel_rfl,by kernel_rfl⟩
/- raddle/grid.Same -/
def c46:AFun:=⟨.seq (.ops [O1 2 (.box 25 (.tmp 0)),O1 3 (.box 25 (.tmp 1)),O1 4 (.mov (.const (.bool false)))] [2,3]) (.seq (.ops [O1 5 (.fldA 0 (.tmp 2)),O1 6 (.load none (.tmp 5)),O1 7 (.fldA 0 (.tmp 3)),O1 8 (.load none (.tmp 7)),O1 9 (.bin .eql (.tmp 6) (.tmp 8)),O1 10 (.mov (.tmp 9)),⟨some 11,some (10,true),.fldA 1 (.tmp 2)⟩,⟨some 12,some (10,true),.load none (.tmp 11)⟩,⟨some 13,some (10,true),.fldA 1 (.tmp 3)⟩,⟨some 14,some (10,true),.load none (.tmp 13)⟩,⟨some 15,some (10,true),.bin .eql (.tmp 12) (.tmp 14)⟩,O1 16 (.pick (.tmp 10) (.tmp 15) (.const (.bool false))),O1 17 (.mov (.tmp 16)),⟨some 18,some (17,true),.fldA 2 (.tmp 2)⟩,⟨some 19,some (17,true),.load none (.tmp 18)⟩,⟨some 20,some (17,true),.fldA 2 (.tmp 3)⟩,⟨some 21,some (17,true),.load none (.tmp 20)⟩,⟨some 22,some (17,true),.callF 61 [(.tmp 19),(.tmp 21)]⟩,O1 23 (.pick (.tmp 17) (.tmp 22) (.const (.bool false))),O1 4 (.mov (.tmp 23))] [4]) (.ret)),24,[(4,none)],true⟩
theorem ok46:FunOK Tryd.prog 46 c46:= .code ⟨Tryd.f46,_,c46.code,Tryd.func46,rfl,by kernel_rfl,rfl,by kernel_rfl,by kernel_rfl⟩
/- raddle/raddleref01.Same -/
def c47l0:AC:= .seq (.seq (.ops [O1 27 (.mov (.tmp 5)),O1 28 (.fldA 2 (.tmp 2)),O1 29 (.load none (.tmp 28)),O1 30 (.len false (.tmp 29)),O1 31 (.bin .lss (.tmp 27) (.tmp 30))] [2,3,5,31]) (.cond (.tmp 31) (.skip) (.exit 0))) (.seq (.block 1 (.seq (.draw [O1 34 (.fldA 2 (.tmp 2)),O1 35 (.load none (.tmp 34)),O1 36 (.mov (.tmp 5)),O1 37 (.idxS 1 (.tmp 35) (.tmp 36)),O1 38 (.load none (.tmp 37)),O1 39 (.fldA 2 (.tmp 3)),O1 40 (.load none (.tmp 39)),O1 41 (.mov (.tmp 5)),O1 42 (.idxS 1 (.tmp 40) (.tmp 41)),O1 43 (.load none (.tmp 42))] [O1 44 (.eqB true (.tmp 38) (.tmp 43))] [[],[],[],[],[],[],[],[],[],[]] [2,3,5,44]) (.cond (.tmp 44) (.seq (.ops [O1 4 (.mov (.const (.bool false)))] [4]) (.ret)) (.skip)))) (.ops [O1 32 (.mov (.tmp 5)),O1 33 (.bin .add (.tmp 32) (.const (.int .i64 1))),O1 5 (.mov (.tmp 33))] [2,3,5]))
def c47:AFun:=⟨.seq (.ops [O1 2 (.box 25 (.tmp 0)),O1 3 (.box 25 (.tmp 1)),O1 4 (.mov (.const (.bool false)))] [2,3]) (.seq (.seq (.ops [O1 6 (.fldA 0 (.tmp 2)),O1 7 (.load none (.tmp 6)),O1 8 (.fldA 0 (.tmp 3)),O1 9 (.load none (.tmp 8)),O1 10 (.bin .neq (.tmp 7) (.tmp 9)),O1 11 (.mov (.tmp 10)),⟨some 12,some (11,false),.fldA 1 (.tmp 2)⟩,⟨some 13,some (11,false),.load none (.tmp 12)⟩,⟨some 14,some (11,false),.fldA 1 (.tmp 3)⟩,⟨some 15,some (11,false),.load none (.tmp 14)⟩,⟨some 16,some (11,false),.bin .neq (.tmp 13) (.tmp 15)⟩,O1 17 (.pick (.tmp 11) (.const (.bool true)) (.tmp 16)),O1 18 (.mov (.tmp 17)),⟨some 19,some (18,false),.fldA 2 (.tmp 2)⟩,⟨some 20,some (18,false),.load none (.tmp 19)⟩,⟨some 21,some (18,false),.len false (.tmp 20)⟩,⟨some 22,some (18,false),.fldA 2 (.tmp 3)⟩,⟨some 23,some (18,false),.load none (.tmp 22)⟩,⟨some 24,some (18,false),.len false (.tmp 23)⟩,⟨some 25,some (18,false),.bin .neq (.tmp 21) (.tmp 24)⟩,O1 26 (.pick (.tmp 18) (.const (.bool true)) (.tmp 25))] [2,3,26]) (.cond (.tmp 26) (.seq (.ops [O1 4 (.mov (.const (.bool false)))] [4]) (.ret)) (.skip))) (.seq (.seq (.ops [O1 5 (.mov (.const (.int .i64 0)))] [2,3,5]) (.block 0 (.loop [2,3,5] c47l0))) (.seq (.ops [O1 4 (.mov (.const (.bool true)))] [4]) (.ret)))),45,[(4,none)],true⟩
theorem ok47:FunOK Tryd.prog 47 c47:= .code ⟨Tryd.f47,_,c47.code,Tryd.func47,rfl,by kernel_rfl,rfl,by kernel_rfl,by kernel_rfl⟩
/- raddle/raddleref01.At -/
def c51:AFun:=⟨.seq (.ops [O1 3 (.box 25 (.tmp 0)),O1 6 (.mov (.const (.bool false)))] [1,2,3]) (.seq (.ops [O1 7 (.fldA 2 (.tmp 3)),O1 8 (.load none (.tmp 7)),O1 9 (.mov (.tmp 2)),O1 10 (.fldA 0 (.tmp 3)),O1 11 (.load none (.tmp 10)),O1 12 (.bin .mul (.tmp 9) (.tmp 11)),O1 13 (.mov (.tmp 1)),O1 14 (.bin .add (.tmp 12) (.tmp 13)),O1 15 (.idxS 1 (.tmp 8) (.tmp 14)),O1 16 (.load none (.tmp 15)),O1 6 (.mov (.tmp 16))] [6]) (.ret)),17,[(6,none)],true⟩
theorem ok51:FunOK Tryd.prog 51 c51:= .code ⟨Tryd.f51,_,c51.code,Tryd.func51,rfl,by kernel_rfl,rfl,by kernel_rfl,by kernel_rfl⟩
/- slices.Min[[]int,int] (1 operations that the interpreter lacks) -/
def c52l0:AC:= .seq (.seq (.ops [O1 12 (.mov (.tmp 4)),O1 13 (.mov (.tmp 0)),O1 14 (.len false (.tmp 13)),O1 15 (.bin .lss (.tmp 12) (.tmp 14))] [0,3,4,15]) (.cond (.tmp 15) (.skip) (.exit 0))) (.seq (.block 1 (.ops [O1 18 (.mov (.tmp 3)),O1 19 (.mov (.tmp 0)),O1 20 (.mov (.tmp 4)),O1 21 (.idxS 1 (.tmp 19) (.tmp 20)),O1 22 (.load none (.tmp 21)),O1 23 (.mm false (.tmp 18) (.tmp 22)),O1 3 (.mov (.tmp 23))] [0,3,4])) (.ops [O1 16 (.mov (.tmp 4)),O1 17 (.bin .add (.tmp 16) (.const (.int .i64 1))),O1 4 (.mov (.tmp 17))] [0,3,4]))
def c52:AFun:=⟨.seq (.ops [O1 2 (.mov (.const (.int .i64 0)))] [0]) (.seq (.seq (.ops [O1 5 (.mov (.tmp 0)),O1 6 (.len false (.tmp 5)),O1 7 (.bin .lss (.tmp 6) (.const (.int .i64 1)))] [0,7]) (.cond (.tmp 7) (.ops [O1 8 (.mkIf 9 (.const (.string ⟨#[115,108,105,99,101,115,46,77,105,110,58,32,101,109,112,116,121,32,108,105,115,116]⟩))),⟨none,none,.bad⟩] [0]) (.skip))) (.seq (.ops [O1 9 (.mov (.tmp 0)),O1 10 (.idxS 1 (.tmp 9) (.const (.int .i64 0))),O1 11 (.load none (.tmp 10)),O1 3 (.mov (.tmp 11))] [0,3]) (.seq (.seq (.ops [O1 4 (.mov (.const (.int .i64 1)))] [0,3,4]) (.block 0 (.loop [0,3,4] c52l0))) (.seq (.ops [O1 24 (.mov (.tmp 3)),O1 2 (.mov (.tmp 24))] [2]) (.ret))))),25,[(2,none)],true⟩
theorem ok52:FunOK Tryd.prog 52 c52:= .code ⟨Tryd.f52,_,c52.code,Tryd.func52,rfl,by kernel_rfl,rfl,by kernel_rfl,by kernel_rfl⟩
/- slices.Max[[]int,int] (1 operations that the interpreter lacks) -/
def c53l0:AC:= .seq (.seq (.ops [O1 12 (.mov (.tmp 4)),O1 13 (.mov (.tmp 0)),O1 14 (.len false (.tmp 13)),O1 15 (.bin .lss (.tmp 12) (.tmp 14))] [0,3,4,15]) (.cond (.tmp 15) (.skip) (.exit 0))) (.seq (.block 1 (.ops [O1 18 (.mov (.tmp 3)),O1 19 (.mov (.tmp 0)),O1 20 (.mov (.tmp 4)),O1 21 (.idxS 1 (.tmp 19) (.tmp 20)),O1 22 (.load none (.tmp 21)),O1 23 (.mm true (.tmp 18) (.tmp 22)),O1 3 (.mov (.tmp 23))] [0,3,4])) (.ops [O1 16 (.mov (.tmp 4)),O1 17 (.bin .add (.tmp 16) (.const (.int .i64 1))),O1 4 (.mov (.tmp 17))] [0,3,4]))
def c53:AFun:=⟨.seq (.ops [O1 2 (.mov (.const (.int .i64 0)))] [0]) (.seq (.seq (.ops [O1 5 (.mov (.tmp 0)),O1 6 (.len false (.tmp 5)),O1 7 (.bin .lss (.tmp 6) (.const (.int .i64 1)))] [0,7]) (.cond (.tmp 7) (.ops [O1 8 (.mkIf 9 (.const (.string ⟨#[115,108,105,99,101,115,46,77,97,120,58,32,101,109,112,116,121,32,108,105,115,116]⟩))),⟨none,none,.bad⟩] [0]) (.skip))) (.seq (.ops [O1 9 (.mov (.tmp 0)),O1 10 (.idxS 1 (.tmp 9) (.const (.int .i64 0))),O1 11 (.load none (.tmp 10)),O1 3 (.mov (.tmp 11))] [0,3]) (.seq (.seq (.ops [O1 4 (.mov (.const (.int .i64 1)))] [0,3,4]) (.block 0 (.loop [0,3,4] c53l0))) (.seq (.ops [O1 24 (.mov (.tmp 3)),O1 2 (.mov (.tmp 24))] [2]) (.ret))))),25,[(2,none)],true⟩
theorem ok53:FunOK Tryd.prog 53 c53:= .code ⟨Tryd.f53,_,c53.code,Tryd.func53,rfl,by kernel_rfl,rfl,by kernel_rfl,by kernel_rfl⟩
/- slices.Equal[[]bool,bool] -/
def c61l0:AC:= .seq (.ops [O1 14 (.bin .lss (.tmp 13) (.tmp 12))] [0,1,12,13,14]) (.seq (.cond (.tmp 14) (.skip) (.exit 0)) (.seq (.block 1 (.seq (.ops [O1 15 (.mov (.tmp 13)),O1 5 (.mov (.tmp 15))] [0,1,5,12,13]) (.seq (.draw [O1 16 (.mov (.tmp 0)),O1 17 (.mov (.tmp 5)),O1 18 (.idxS 1 (.tmp 16) (.tmp 17)),O1 19 (.load none (.tmp 18)),O1 20 (.mov (.tmp 1)),O1 21 (.mov (.tmp 5)),O1 22 (.idxS 1 (.tmp 20) (.tmp 21)),O1 23 (.load none (.tmp 22))] [O1 24 (.eqB true (.tmp 19) (.tmp 23))] [[],[],[],[],[],[],[],[]] [0,1,12,13,24]) (.cond (.tmp 24) (.seq (.ops [O1 4 (.mov (.const (.bool false)))] [4]) (.ret)) (.skip))))) (.ops [O1 25 (.bin .add (.tmp 13) (.const (.int .i64 1))),O1 13 (.mov (.tmp 25))] [0,1,12,13])))
def c61:AFun:=⟨.seq (.ops [O1 4 (.mov (.const (.bool false)))] [0,1]) (.seq (.seq (.ops [O1 6 (.mov (.tmp 0)),O1 7 (.len false (.tmp 6)),O1 8 (.mov (.tmp 1)),O1 9 (.len false (.tmp 8)),O1 10 (.bin .neq (.tmp 7) (.tmp 9))] [0,1,10]) (.cond (.tmp 10) (.seq (.ops [O1 4 (.mov (.const (.bool false)))] [4]) (.ret)) (.skip))) (.seq (.seq (.ops [O1 11 (.mov (.tmp 0)),O1 12 (.len false (.tmp 11)),O1 13 (.mov (.const (.int .i64 0)))] [0,1,12,13]) (.block 0 (.loop [0,1,12,13] c61l0))) (.seq (.ops [O1 4 (.mov (.const (.bool true)))] [4]) (.ret)))),26,[(4,none)],true⟩
theorem ok61:FunOK Tryd.prog 61 c61:= .code ⟨Tryd.f61,_,c61.code,Tryd.func61,rfl,by kernel_rfl,rfl,by kernel_rfl,by kernel_rfl⟩
def fns:FuncId→Option AFun
 |3=>some c3
 |4=>some c4
 |5=>some c5
 |6=>some c6
 |7=>some c7
 |8=>some c8
 |9=>some c9
 |10=>some c10
 |11=>some c11
 |12=>some c12
 |13=>some c13
 |14=>some c14
 |16=>some c16
 |18=>some c18
 |19=>some c19
 |20=>some c20
 |21=>some c21
 |22=>some c22
 |23=>some c23
 |24=>some c24
 |25=>some c25
 |26=>some c26
 |27=>some c27
 |28=>some c28
 |29=>some c29
 |30=>some c30
 |31=>some c31
 |32=>some c32
 |33=>some c33
 |34=>some c34
 |35=>some c35
 |38=>some c38
 |39=>some c39
 |40=>some c40
 |41=>some c41
 |43=>some c43
 |44=>some c44
 |45=>some c45
 |46=>some c46
 |47=>some c47
 |51=>some c51
 |52=>some c52
 |53=>some c53
 |61=>some c61
 |_=>none
theorem fns_ok:FunsOK Tryd.prog fns:=by
 intro f af h
 unfold fns at h
 split at h
 ·cases h;exact ok3
 ·cases h;exact ok4
 ·cases h;exact ok5
 ·cases h;exact ok6
 ·cases h;exact ok7
 ·cases h;exact ok8
 ·cases h;exact ok9
 ·cases h;exact ok10
 ·cases h;exact ok11
 ·cases h;exact ok12
 ·cases h;exact ok13
 ·cases h;exact ok14
 ·cases h;exact ok16
 ·cases h;exact ok18
 ·cases h;exact ok19
 ·cases h;exact ok20
 ·cases h;exact ok21
 ·cases h;exact ok22
 ·cases h;exact ok23
 ·cases h;exact ok24
 ·cases h;exact ok25
 ·cases h;exact ok26
 ·cases h;exact ok27
 ·cases h;exact ok28
 ·cases h;exact ok29
 ·cases h;exact ok30
 ·cases h;exact ok31
 ·cases h;exact ok32
 ·cases h;exact ok33
 ·cases h;exact ok34
 ·cases h;exact ok35
 ·cases h;exact ok38
 ·cases h;exact ok39
 ·cases h;exact ok40
 ·cases h;exact ok41
 ·cases h;exact ok43
 ·cases h;exact ok44
 ·cases h;exact ok45
 ·cases h;exact ok46
 ·cases h;exact ok47
 ·cases h;exact ok51
 ·cases h;exact ok52
 ·cases h;exact ok53
 ·cases h;exact ok61
 ·cases h
end Go.Proofs.YtelgheeinnednaaDoor
namespace Go.Proofs
open Go.Shelf
def Tryd.lays156_ren:Go.Shelf.Ren:=⟨fun|156=>17|165=>37|166=>14|169=>18|240=>35|241=>50|276=>48|277=>66|n=>n,fun|31=>52|9=>9|3=>3|4=>4|0=>0|20=>20|72=>45|76=>48|70=>42|37=>43|75=>47|127=>68|164=>76|5=>5|80=>54|n=>n,fun|n=>n⟩
theorem Tryd.lays156:Go.Proofs.Lays.n156 Tryd.prog Tryd.lays156_ren:={
 mixed:=by kernel_rfl
 f156:=Tryd.func17.trans (congrArg some (by kernel_rfl))
 f165:=Tryd.func37.trans (congrArg some (by kernel_rfl))
 f166:=Tryd.func14.trans (congrArg some (by kernel_rfl))
 f169:=Tryd.func18.trans (congrArg some (by kernel_rfl))
 f240:=Tryd.func35.trans (congrArg some (by kernel_rfl))
 f241:=Tryd.func50.trans (congrArg some (by kernel_rfl))
 f276:=Tryd.func48.trans (congrArg some (by kernel_rfl))
 f277:=Tryd.func66.trans (congrArg some (by kernel_rfl))
 t0:=Tryd.underlying0
 a0:=Tryd.isAgg0
 z0:=Tryd.sizeOf0
 v0:=Tryd.zeroValue0
 t3:=Tryd.underlying3
 a3:=Tryd.isAgg3
 z3:=Tryd.sizeOf3
 v3:=Tryd.zeroValue3
 t4:=Tryd.underlying4
 a4:=Tryd.isAgg4
 z4:=Tryd.sizeOf4
 v4:=Tryd.zeroValue4
 t9:=Tryd.underlying9
 a9:=Tryd.isAgg9
 z9:=Tryd.sizeOf9
 v9:=Tryd.zeroValue9
 t20:=Tryd.underlying20
 a20:=Tryd.isAgg20
 z20:=Tryd.sizeOf20
 v20:=Tryd.zeroValue20
 t31:=Tryd.underlying52
 a31:=Tryd.isAgg52
 z31:=Tryd.sizeOf52
 v31:=Tryd.zeroValue52
 t37:=Tryd.underlying43
 a37:=Tryd.isAgg43
 z37:=Tryd.sizeOf43
 v37:=Tryd.zeroValue43
 t70:=Tryd.underlying42
 a70:=Tryd.isAgg42
 z70:=Tryd.sizeOf42
 v70:=Tryd.zeroValue42
 t72:=Tryd.underlying45
 a72:=Tryd.isAgg45
 z72:=Tryd.sizeOf45
 v72:=Tryd.zeroValue45
 t75:=Tryd.underlying47
 a75:=Tryd.isAgg47
 z75:=Tryd.sizeOf47
 v75:=Tryd.zeroValue47
 t76:=Tryd.underlying48
 a76:=Tryd.isAgg48
 z76:=Tryd.sizeOf48
 v76:=Tryd.zeroValue48
 t127:=Tryd.underlying68
 a127:=Tryd.isAgg68
 z127:=Tryd.sizeOf68
 v127:=Tryd.zeroValue68
 t164:=Tryd.underlying76
 a164:=Tryd.isAgg76
 z164:=Tryd.sizeOf76
 v164:=Tryd.zeroValue76}
theorem Tryd.Builder_Extra_156:Builder.Extra Tryd.prog Tryd.lays156_ren:={
 sizeBuilder:=by kernel_rfl
 liesBuilder:=by kernel_rfl
 t5:=Tryd.underlying5
 a5:=Tryd.isAgg5
 z5:=Tryd.sizeOf5
 v5:=Tryd.zeroValue5
 infoByte:=by kernel_rfl
 cellsByte:=by kernel_rfl
 sizeByte:=by kernel_rfl
 neB5:=by decide}
open Go.RowKit in
theorem Tryd.strings_Join_none (a:Option Addr) (c:Nat) (sep:ByteArray) (w:World):
  Calls Tryd.prog 17 #[.slice a 0 c,.string sep] w fun e w'=>e= .returned (.string ⟨#[]⟩)∧w'=w:=Any.strings_Join_none Tryd.lays156 Tryd.Builder_Extra_156 a c sep w
open Go.RowKit in
theorem Tryd.strings_Join (bk o c:Nat) (xs:List ByteArray) (sep:ByteArray) (w:World) (hcells:∀ (j:Nat) x,xs[j]? =some x→w.cell? ⟨bk,o+j,none⟩=some (.string x)) (hbk:bk<w.heap.size) (hN:xs.length≤140737488355328) (hcap:xs.length≤c) (hlen:(Lib.join (xs.map (·.data.toList)) sep.data.toList).length≤140737488355328):
  Calls Tryd.prog 17 #[.slice (some ⟨bk,o,none⟩) xs.length c,.string sep] w fun e w'=>e= .returned (.string ⟨(Lib.join (xs.map (·.data.toList)) sep.data.toList).toArray⟩)∧Below w.heap.size w w':=Any.strings_Join Tryd.lays156 Tryd.Builder_Extra_156 bk o c xs sep w hcells hbk hN hcap hlen
def Tryd.lays160_ren:Go.Shelf.Ren:=⟨fun|160=>42|232=>55|231=>54|227=>56|234=>58|233=>57|236=>60|235=>59|228=>67|271=>70|151=>69|197=>68|120=>78|152=>77|260=>76|137=>81|119=>82|224=>83|225=>84|217=>85|266=>86|n=>n,fun|9=>9|4=>4|3=>3|5=>5|117=>84|116=>83|0=>0|124=>87|21=>21|105=>97|46=>105|119=>109|139=>112|138=>111|n=>n,fun|3=>2|4=>3|n=>n⟩
theorem Tryd.lays160:Go.Proofs.Lays.n160 Tryd.prog Tryd.lays160_ren:={
 mixed:=by kernel_rfl
 f119:=Tryd.func82.trans (congrArg some (by kernel_rfl))
 f120:=Tryd.func78.trans (congrArg some (by kernel_rfl))
 f137:=Tryd.func81.trans (congrArg some (by kernel_rfl))
 f151:=Tryd.func69.trans (congrArg some (by kernel_rfl))
 f152:=Tryd.func77.trans (congrArg some (by kernel_rfl))
 f160:=Tryd.func42.trans (congrArg some (by kernel_rfl))
 f197:=Tryd.func68.trans (congrArg some (by kernel_rfl))
 f217:=Tryd.func85.trans (congrArg some (by kernel_rfl))
 f224:=Tryd.func83.trans (congrArg some (by kernel_rfl))
 f225:=Tryd.func84.trans (congrArg some (by kernel_rfl))
 f227:=Tryd.func56.trans (congrArg some (by kernel_rfl))
 f228:=Tryd.func67.trans (congrArg some (by kernel_rfl))
 f231:=Tryd.func54.trans (congrArg some (by kernel_rfl))
 f232:=Tryd.func55.trans (congrArg some (by kernel_rfl))
 f233:=Tryd.func57.trans (congrArg some (by kernel_rfl))
 f234:=Tryd.func58.trans (congrArg some (by kernel_rfl))
 f235:=Tryd.func59.trans (congrArg some (by kernel_rfl))
 f236:=Tryd.func60.trans (congrArg some (by kernel_rfl))
 f260:=Tryd.func76.trans (congrArg some (by kernel_rfl))
 f266:=Tryd.func86.trans (congrArg some (by kernel_rfl))
 f271:=Tryd.func70.trans (congrArg some (by kernel_rfl))
 t0:=Tryd.underlying0
 a0:=Tryd.isAgg0
 z0:=Tryd.sizeOf0
 v0:=Tryd.zeroValue0
 t3:=Tryd.underlying3
 a3:=Tryd.isAgg3
 z3:=Tryd.sizeOf3
 v3:=Tryd.zeroValue3
 t4:=Tryd.underlying4
 a4:=Tryd.isAgg4
 z4:=Tryd.sizeOf4
 v4:=Tryd.zeroValue4
 t5:=Tryd.underlying5
 a5:=Tryd.isAgg5
 z5:=Tryd.sizeOf5
 v5:=Tryd.zeroValue5
 t9:=Tryd.underlying9
 a9:=Tryd.isAgg9
 z9:=Tryd.sizeOf9
 v9:=Tryd.zeroValue9
 t21:=Tryd.underlying21
 a21:=Tryd.isAgg21
 z21:=Tryd.sizeOf21
 v21:=Tryd.zeroValue21
 t46:=Tryd.underlying105
 a46:=Tryd.isAgg105
 z46:=Tryd.sizeOf105
 v46:=Tryd.zeroValue105
 t105:=Tryd.underlying97
 a105:=Tryd.isAgg97
 z105:=Tryd.sizeOf97
 v105:=Tryd.zeroValue97
 t116:=Tryd.underlying83
 a116:=Tryd.isAgg83
 z116:=Tryd.sizeOf83
 t117:=Tryd.underlying84
 a117:=Tryd.isAgg84
 z117:=Tryd.sizeOf84
 v117:=Tryd.zeroValue84
 t119:=Tryd.underlying109
 a119:=Tryd.isAgg109
 z119:=Tryd.sizeOf109
 t124:=Tryd.underlying87
 a124:=Tryd.isAgg87
 z124:=Tryd.sizeOf87
 v124:=Tryd.zeroValue87
 t138:=Tryd.underlying111
 a138:=Tryd.isAgg111
 z138:=Tryd.sizeOf111
 v138:=Tryd.zeroValue111
 t139:=Tryd.underlying112
 a139:=Tryd.isAgg112
 z139:=Tryd.sizeOf112
 v139:=Tryd.zeroValue112
 g3:=by kernel_rfl
 g4:=by kernel_rfl}
open Go.RowKit in
open Go.RowKit Go.Lib in
theorem Tryd.strings_Trim_laid (s cutset:ByteArray) (w:World) (hs:s.size≤9223372036854775807) (hcs:cutset.size<4294967281) (hascii:∀ (j:Nat) b,cutset.data.toList[j]? =some b→b.toNat<128):
  Calls Tryd.prog 42 #[.string s,.string cutset] w fun e w'=>e= .returned (.string ⟨(Lib.trimS s.data.toList cutset.data.toList).toArray⟩)∧Below w.heap.size w w':=Any.strings_Trim_laid Tryd.lays160 (by kernel_rfl) s cutset w hs hcs hascii
def Tryd.laysM171_ren:Go.Shelf.Ren:=⟨fun|171=>15|243=>36|246=>49|283=>62|284=>63|285=>64|286=>65|129=>72|317=>71|318=>73|319=>74|320=>75|337=>79|338=>80|n=>n,fun|3=>3|9=>9|2=>2|4=>4|171=>89|0=>0|53=>90|37=>43|5=>5|173=>93|212=>102|51=>103|20=>20|213=>104|46=>105|232=>116|233=>117|n=>n,fun|17=>0|18=>4|19=>5|n=>n⟩
theorem Tryd.laysM171:Go.Proofs.LaysM.n171 Tryd.prog Tryd.laysM171_ren:={
 mixed:=by kernel_rfl
 f129:=Tryd.func72.trans (congrArg some (by kernel_rfl))
 f171:=Tryd.func15.trans (congrArg some (by kernel_rfl))
 f243:=Tryd.func36.trans (congrArg some (by kernel_rfl))
 f246:=Tryd.func49.trans (congrArg some (by kernel_rfl))
 f283:=Tryd.func62.trans (congrArg some (by kernel_rfl))
 f284:=Tryd.func63.trans (congrArg some (by kernel_rfl))
 f285:=Tryd.func64.trans (congrArg some (by kernel_rfl))
 f286:=Tryd.func65.trans (congrArg some (by kernel_rfl))
 f317:=Tryd.func71.trans (congrArg some (by kernel_rfl))
 f318:=Tryd.func73.trans (congrArg some (by kernel_rfl))
 f319:=Tryd.func74.trans (congrArg some (by kernel_rfl))
 f320:=Tryd.func75.trans (congrArg some (by kernel_rfl))
 f337:=Tryd.func79.trans (congrArg some (by kernel_rfl))
 f338:=Tryd.func80.trans (congrArg some (by kernel_rfl))
 t0:=Tryd.underlying0
 a0:=Tryd.isAgg0
 z0:=Tryd.sizeOf0
 v0:=Tryd.zeroValue0
 t2:=Tryd.underlying2
 a2:=Tryd.isAgg2
 z2:=Tryd.sizeOf2
 v2:=Tryd.zeroValue2
 t3:=Tryd.underlying3
 a3:=Tryd.isAgg3
 z3:=Tryd.sizeOf3
 v3:=Tryd.zeroValue3
 t4:=Tryd.underlying4
 a4:=Tryd.isAgg4
 z4:=Tryd.sizeOf4
 v4:=Tryd.zeroValue4
 t5:=Tryd.underlying5
 a5:=Tryd.isAgg5
 z5:=Tryd.sizeOf5
 v5:=Tryd.zeroValue5
 t9:=Tryd.underlying9
 a9:=Tryd.isAgg9
 z9:=Tryd.sizeOf9
 v9:=Tryd.zeroValue9
 t20:=Tryd.underlying20
 a20:=Tryd.isAgg20
 z20:=Tryd.sizeOf20
 v20:=Tryd.zeroValue20
 t37:=Tryd.underlying43
 a37:=Tryd.isAgg43
 z37:=Tryd.sizeOf43
 v37:=Tryd.zeroValue43
 t46:=Tryd.underlying105
 a46:=Tryd.isAgg105
 z46:=Tryd.sizeOf105
 v46:=Tryd.zeroValue105
 t51:=Tryd.underlying103
 a51:=Tryd.isAgg103
 z51:=Tryd.sizeOf103
 v51:=Tryd.zeroValue103
 t53:=Tryd.underlying90
 a53:=Tryd.isAgg90
 z53:=Tryd.sizeOf90
 v53:=Tryd.zeroValue90
 t171:=Tryd.underlying89
 a171:=Tryd.isAgg89
 z171:=Tryd.sizeOf89
 v171:=Tryd.zeroValue89
 t173:=Tryd.underlying93
 a173:=Tryd.isAgg93
 z173:=Tryd.sizeOf93
 v173:=Tryd.zeroValue93
 t212:=Tryd.underlying102
 a212:=Tryd.isAgg102
 z212:=Tryd.sizeOf102
 v212:=Tryd.zeroValue102
 t213:=Tryd.underlying104
 a213:=Tryd.isAgg104
 z213:=Tryd.sizeOf104
 t232:=Tryd.underlying116
 a232:=Tryd.isAgg116
 z232:=Tryd.sizeOf116
 v232:=Tryd.zeroValue116
 t233:=Tryd.underlying117
 a233:=Tryd.isAgg117
 z233:=Tryd.sizeOf117
 v233:=Tryd.zeroValue117
 g17:=by kernel_rfl
 g18:=by kernel_rfl
 g19:=by kernel_rfl
 i0:=by kernel_rfl
 i2:=by kernel_rfl
 i3:=by kernel_rfl
 i4:=by kernel_rfl
 i5:=by kernel_rfl
 i9:=by kernel_rfl
 i20:=by kernel_rfl
 i37:=by kernel_rfl
 i46:=by kernel_rfl
 i51:=by kernel_rfl
 i53:=by kernel_rfl
 i171:=by kernel_rfl
 i173:=by kernel_rfl
 i212:=by kernel_rfl
 i232:=by kernel_rfl
 i233:=by kernel_rfl
 m17:=by kernel_rfl
 m18:=by kernel_rfl
 m19:=by kernel_rfl}
open Go.RowKit Go.Sort Go.Lib in
theorem Tryd.strconv_Itoa (n:Int) (h0: -9223372036854775808≤n) (h1:n≤9223372036854775807) (w:World) (htab:Lib.TabIs Tryd.prog w "internal/strconv.uint64pow10" .u64 Lib.pow10Tab):
  Calls Tryd.prog 15 #[.int .i64 n] w fun e w'=>e= .returned (.string ⟨(Lib.itoa n).toArray⟩)∧∃ k os,w'=grow (w.drewN k) os:=Any.strconv_Itoa Tryd.laysM171 n h0 h1 w htab
end Go.Proofs
namespace Go.Proofs.YtelgheeinnednaaDoor
open Go Go.Itp
open Go.RowKit (Below)
set_option maxRecDepth 100000
set_option linter.unusedVariables false
theorem own:ownKnob Tryd.prog.godebug=none:=by kernel_rfl
theorem mixed:Tryd.prog.follows .mixedOrders=true:=by kernel_rfl
def prims0:List (FuncId × Prim × TypeId):= [(48,.same,0),(66,.makeNoZero,5)]
theorem prims_all:AllPrims Tryd.prog prims0:=
 ⟨⟨⟨Tryd.f48,Tryd.func48,by kernel_rfl,by kernel_rfl,by kernel_rfl,rfl⟩⟩,
  ⟨⟨Tryd.f66,Tryd.func66,by kernel_rfl,by kernel_rfl,#[3],43,by kernel_rfl,rfl,Tryd.underlying43⟩⟩,trivial⟩
def trimFn:List Value→Option Value
 | [.string s,.string t]=>if s.size<4294967281∧t.size<4294967281∧t.data.toList.all (fun b=>decide (b.toNat<128))=true then some (.string ⟨(Lib.trimS s.data.toList t.data.toList).toArray⟩) else none
 |_=>none
theorem trimP_ok {w0:World}:PrimsOK Tryd.prog (fnP 42 trimFn) w0:=by
 refine fnP_ok ⟨Tryd.f42,_,Tryd.func42,rfl,by kernel_rfl⟩ ?_ ?_
 ·intro xs v e
  unfold trimFn at e
  split at e
  ·split at e
   ·cases e;exact ⟨rfl,rfl⟩
   ·cases e
  ·cases e
 ·intro xs v e w hb
  unfold trimFn at e
  split at e
  ·split at e
   ·rename_i hc
    cases e
    exact Tryd.strings_Trim_laid _ _ w (by omega) hc.2.1 (Go.Proofs.ascii_of_all hc.2.2)
   ·cases e
  ·cases e
noncomputable abbrev PR (w:World):FuncId→List Value→St→Option (Value × List Blk):=
 orElseP (primsOf prims0) (orElseP (fnP 42 trimFn) (orElseP (itoaP 15) (joinP (oldOf w) 17)))
noncomputable abbrev EN (w:World) (n:Nat):Env:=callP (oldOf w) many fns (PR w) n
abbrev Tab (w:World):Prop:=Lib.TabIs Tryd.prog w "internal/strconv.uint64pow10" .u64 Lib.pow10Tab
theorem prims_ok (W:World) (ht:Tab W):PrimsOK Tryd.prog (PR W) W:=
 orElse_ok (primsOf_ok prims0 prims_all W) (orElse_ok trimP_ok (orElse_ok
  (itoaP_ok ⟨Tryd.f15,_,Tryd.func15,rfl,by kernel_rfl⟩ ht Tryd.strconv_Itoa)
  (joinP_ok ⟨Tryd.f17,_,Tryd.func17,rfl,by kernel_rfl⟩ (oldOf_ok W) Tryd.strings_Join_none Tryd.strings_Join)))
theorem law_of {W:World} (ht:Tab W) {f:FuncId} {af:AFun} (hf:fns f=some af) {xs:List Value} (hxs:idsL 0 xs= []) (n:Nat) {v:Value} {s':St} (hb:body (EN W n) af xs St.empty=some (v,s')) (hv:ids 0 v= []):
  Calls Tryd.prog f xs.toArray W fun e w'=>e= .returned v∧Below W.heap.size W w':=
 law_at mixed fns_ok (oldOf_ok W) (prims_ok W ht) hf hxs n hb hv
theorem itoa_s (w:World) (n:Nat) (st:VSt) (k:Int) (h0: -9223372036854775808≤k) (h1:k≤9223372036854775807):VSpecO (EN w (n+1)) 15 st [.sc (.int .i64 k)] (.sc (.string ⟨(Lib.itoa k).toArray⟩)):=
 itoa_o h0 h1 fun xs s r h=>orElse_right rfl (orElse_right rfl (orElse_left h))
theorem join_s (w:World) (n:Nat) (st:VSt) (s:Nat) (hs:s ≠ 1) (ls:List (List UInt8)) (sep:List UInt8) (hl:ls.length≤1099511627776) (hlen:(Lib.join ls sep).length≤140737488355328):
  VSpecO (EN w (n+1)) 17 st [.sl s ls.length (ls.map sD),.sc (.string ⟨sep.toArray⟩)] (.sc (.string ⟨(Lib.join ls sep).toArray⟩)):=
 join_o s hs ls sep hl hlen fun xs s r h=>orElse_right rfl (orElse_right rfl (orElse_right rfl h))
abbrev strV (l:List UInt8):V:= .sc (.string ⟨l.toArray⟩)
theorem trim_s (w:World) (n:Nat) (st:VSt) (l t:List UInt8) (hl:l.length≤1000000000) (ht:t.length≤1000000000) (ha:t.all (fun b=>decide (b.toNat<128))=true):VSpecO (EN w (n+1)) 42 st [strV l,strV t] (strV (Lib.trimS l t)):=
 fn_o (F:=trimFn) (v:= .string ⟨(Lib.trimS l t).toArray⟩) (ys:= [.string ⟨l.toArray⟩,.string ⟨t.toArray⟩]) (by simp only[trimFn];rw[if_pos ⟨by rw[mk_size];omega,by rw[mk_size];omega,ha⟩]) rfl fun xs s r h=>orElse_right rfl (orElse_left h)
end Go.Proofs.YtelgheeinnednaaDoor
namespace Go.Proofs.YtelgheeinnednaaDoor
open Go Go.Itp
set_option maxRecDepth 100000
set_option maxHeartbeats 1000000
set_option linter.unusedSimpArgs false
set_option linter.unusedVariables false
structure Dr where
 sh:Int
 tr:Int
 th:List Int
 td:List Int
 gw:Int
 gh:Int
 B:List Bool
structure Fl where
 nm:List UInt8
 d:Dr
 wp:List Int
 wf:List Int
def oD (b:Bool):D:= .sc (.bool b)
theorem oD_dv (b:Bool):dv (oD b)= .sc (.bool b):=(rfl)
abbrev iN (z:Int):V:= .sc (.int .i64 z)
abbrev iS (l:List Int):V:= .sl 3 l.length (l.map iD)
abbrev oS (B:List Bool):V:= .sl 3 B.length (B.map oD)
abbrev grV (a b:Int) (B:List Bool):V:= .agg [iN a,iN b,oS B]
abbrev drV (sh tr:Int) (th td:List Int) (gw gh:Int) (B:List Bool):V:= .agg [iN sh,iN tr,iS th,iS td,iN gw,iN gh,oS B]
abbrev flV (nm:List UInt8) (sh tr:Int) (th td:List Int) (gw gh:Int) (B:List Bool) (wp wf:List Int):V:= .agg [strV nm,iN sh,iN tr,iS th,iS td,iN gw,iN gh,oS B,iS wp,iS wf]
def chkG (a b:Int) (L:Nat):Int:=if 64<a∨64<b then 4 else if a<1∨b<1 then 8 else if (L:Int)=a*b then 0 else 8
theorem prod_le {a b:Int} (h1:1≤a) (h2:a≤64) (h3:1≤b) (h4:b≤64):1≤a*b∧a*b≤4096:=by
 have e1:a*b≤64*64:=Int.mul_le_mul h2 h4 (by omega) (by omega)
 have e2:1*1≤a*b:=Int.mul_le_mul h1 h3 (by omega) (by omega)
 omega
theorem eqB_b (a b:Bool):eqBV false (.sc (.bool a)) (.sc (.bool b))=some (.sc (.bool (a==b))):=(rfl)
theorem eqB_nb (a b:Bool):eqBV true (.sc (.bool a)) (.sc (.bool b))=some (.sc (.bool (!(a==b)))):=(rfl)
theorem eqI_of_all {a l:List Int} (h:a.length=l.length) (ha:∀ j,j<l.length→a[j]! =l[j]!):a=l:=by
 refine List.ext_getElem h fun i h1 h2=>?_
 have:=ha i h2
 rwa [getElem!_pos a i h1,getElem!_pos l i h2] at this
theorem eqO_of_all {a l:List Bool} (h:a.length=l.length) (ha:∀ j,j<l.length→a[j]! =l[j]!):a=l:=by
 refine List.ext_getElem h fun i h1 h2=>?_
 have:=ha i h2
 rwa [getElem!_pos a i h1,getElem!_pos l i h2] at this
def okC (c:Int):Bool:=decide (0≤c∧c≤15)
def inN (n c:Int):Bool:=decide (0≤c∧c<n)
theorem take_all_succ {α:Type} [Inhabited α] {p:α→Bool} {l:List α} {k:Nat} (h:k<l.length) (h1:(l.take k).all p=true) (h2:p l[k]! =true):(l.take (k+1)).all p=true:=by
 rw[List.take_add_one,List.all_append,h1,List.getElem?_eq_getElem h]
 rw[getElem!_pos l k h] at h2
 simp[h2]
theorem all_not {α:Type} [Inhabited α] {p:α→Bool} {l:List α} {k:Nat} (h:k<l.length) (h2:p l[k]! =false):l.all p=false:=by
 rw[Bool.eq_false_iff]
 intro ha
 rw[List.all_eq_true] at ha
 have:=ha l[k]! (by rw[getElem!_pos l k h];exact List.getElem_mem h)
 rw[h2] at this
 cases this
theorem take_all_end {α:Type} {p:α→Bool} {l:List α} (h:(l.take l.length).all p=true):l.all p=true:=by rwa [List.take_length] at h
section
variable (w:World) (n:Nat)
theorem great01_p (a b:Int) (B:List Bool) (hB:B.length≤140737488351232):VSpec (EN w (n+1)) 33 [grV a b B] (.sc (.bool (decide (4200<B.length)))) ⟨[],0,0⟩:=by
 refine vspec_flat rfl rfl (fun _ _=>rfl) (Nat.le_of_ble_eq_true rfl) (oldVals w) rfl fun C hC h0=>?_
 by_cases h:4200<B.length
 ·rw[decide_eq_true h]
  simp (disch:=first|omega|assumption|exact bd (by with_unfolding_all rfl)|exact Or.inl rfl|exact Or.inl trivial|exact okL_map _ (fun _=>rfl) _|(simp only[VVlen]<;>omega)|fail) only[O1,WA,slotsL,opdsA,Nat.reduceEqDiff,Nat.reduceLT,Nat.reduceAdd,Nat.reduceBEq,Int.reduceAdd,Int.reduceSub,Int.reduceLT,Int.reduceLE,Int.reduceEq,Int.reduceNeg,↓reduceIte,reduceCtorEq,List.replicate,c33]
  exact weak_flat rfl h0 rfl
 ·rw[decide_eq_false h]
  simp (disch:=first|omega|assumption|exact bd (by with_unfolding_all rfl)|exact Or.inl rfl|exact Or.inl trivial|exact okL_map _ (fun _=>rfl) _|(simp only[VVlen]<;>omega)|fail) only[O1,WA,slotsL,opdsA,Nat.reduceEqDiff,Nat.reduceLT,Nat.reduceAdd,Nat.reduceBEq,Int.reduceAdd,Int.reduceSub,Int.reduceLT,Int.reduceLE,Int.reduceEq,Int.reduceNeg,↓reduceIte,reduceCtorEq,List.replicate,c33]
  exact weak_flat rfl h0 rfl
theorem great03_p (sh tr:Int) (th td:List Int) (gw gh:Int) (B:List Bool) (h1:th.length≤140737488351232) (h2:td.length≤140737488351232) (hB:B.length≤140737488351232):VSpec (EN w (n+2)) 12 [drV sh tr th td gw gh B] (.sc (.bool (decide (70<th.length∨70<td.length∨4200<B.length)))) ⟨[],0,0⟩:=by
 refine vspec_flat rfl rfl (fun _ _=>rfl) (Nat.le_of_ble_eq_true rfl) (oldVals w) rfl fun C hC h0=>?_
 have hg:=great01_p w n gw gh B hB
 by_cases a1:70<th.length
 ·rw[decide_eq_true (Or.inl a1)]
  simp (disch:=first|omega|assumption|exact bd (by with_unfolding_all rfl)|exact Or.inl rfl|exact Or.inl trivial|exact okL_map _ (fun _=>rfl) _|(simp only[VVlen]<;>omega)|fail) only[O1,WA,slotsL,opdsA,Nat.reduceEqDiff,Nat.reduceLT,Nat.reduceAdd,Nat.reduceBEq,Int.reduceAdd,Int.reduceSub,Int.reduceLT,Int.reduceLE,Int.reduceEq,Int.reduceNeg,↓reduceIte,reduceCtorEq,List.replicate,c12]
  all_goals try (exfalso;omega)
  exact weak_flat rfl h0 rfl
 by_cases a2:70<td.length
 ·rw[decide_eq_true (Or.inr (Or.inl a2))]
  simp (disch:=first|omega|assumption|exact bd (by with_unfolding_all rfl)|exact Or.inl rfl|exact Or.inl trivial|exact okL_map _ (fun _=>rfl) _|(simp only[VVlen]<;>omega)|fail) only[O1,WA,slotsL,opdsA,Nat.reduceEqDiff,Nat.reduceLT,Nat.reduceAdd,Nat.reduceBEq,Int.reduceAdd,Int.reduceSub,Int.reduceLT,Int.reduceLE,Int.reduceEq,Int.reduceNeg,↓reduceIte,reduceCtorEq,List.replicate,c12]
  all_goals try (exfalso;omega)
  exact weak_flat rfl h0 rfl
 rw[show decide (70<th.length∨70<td.length∨4200<B.length)=decide (4200<B.length) from by simp only[a1,a2,false_or]]
 simp (disch:=first|omega|assumption|exact bd (by with_unfolding_all rfl)|exact Or.inl rfl|exact Or.inl trivial|exact okL_map _ (fun _=>rfl) _|(simp only[VVlen]<;>omega)|fail) only[O1,WA,slotsL,opdsA,Nat.reduceEqDiff,Nat.reduceLT,Nat.reduceAdd,Nat.reduceBEq,Int.reduceAdd,Int.reduceSub,Int.reduceLT,Int.reduceLE,Int.reduceEq,Int.reduceNeg,↓reduceIte,reduceCtorEq,List.replicate,c12]
 all_goals try (exfalso;omega)
 refine callV_flat (by rw[hC];exact hg.flat rfl rfl) ?_
 repeat' (first|(simp (disch:=first|omega|assumption|exact bd (by with_unfolding_all rfl)|exact Or.inl rfl|exact Or.inl trivial|exact okL_map _ (fun _=>rfl) _|(simp only[VVlen]<;>omega)|fail) only[O1,WA,slotsL,opdsA,Nat.reduceEqDiff,Nat.reduceLT,Nat.reduceAdd,Nat.reduceBEq,Int.reduceAdd,Int.reduceSub,Int.reduceLT,Int.reduceLE,Int.reduceEq,Int.reduceNeg,↓reduceIte,reduceCtorEq,List.replicate])|apply gC_drawW|((first|apply gI_dec|apply gG_dec|apply gPG_dec|apply gI_var|apply gG_var|apply gPG_var)<;>intro _))
 exact weak_flat rfl h0 rfl
def greatF (nm:List UInt8) (th td:List Int) (B:List Bool) (wp wf:List Int):Bool:=decide (70<th.length∨70<td.length∨4200<B.length)||decide (200<nm.length∨100<wp.length∨100<wf.length)
theorem great19_p (nm:List UInt8) (sh tr:Int) (th td:List Int) (gw gh:Int) (B:List Bool) (wp wf:List Int) (h1:th.length≤140737488351232) (h2:td.length≤140737488351232) (hB:B.length≤140737488351232) (h3:wp.length≤140737488351232) (h4:wf.length≤140737488351232) (h5:nm.length≤140737488351232):
  VSpec (EN w (n+3)) 4 [flV nm sh tr th td gw gh B wp wf] (.sc (.bool (greatF nm th td B wp wf))) ⟨[],0,0⟩:=by
 refine vspec_flat rfl rfl (fun _ _=>rfl) (Nat.le_of_ble_eq_true rfl) (oldVals w) rfl fun C hC h0=>?_
 have hg:=great03_p w n sh tr th td gw gh B h1 h2 hB
 unfold greatF
 generalize decide (70<th.length∨70<td.length∨4200<B.length)=g at*
 by_cases hgt:g=true
 ·subst hgt
  simp (disch:=first|omega|assumption|exact bd (by with_unfolding_all rfl)|exact Or.inl rfl|exact Or.inl trivial|exact okL_map _ (fun _=>rfl) _|(simp only[VVlen]<;>omega)|fail) only[O1,WA,slotsL,opdsA,Nat.reduceEqDiff,Nat.reduceLT,Nat.reduceAdd,Nat.reduceBEq,Int.reduceAdd,Int.reduceSub,Int.reduceLT,Int.reduceLE,Int.reduceEq,Int.reduceNeg,↓reduceIte,reduceCtorEq,List.replicate,c4]
  refine callV_flat (by rw[hC];exact hg.flat rfl rfl) ?_
  simp (disch:=first|omega|assumption|exact bd (by with_unfolding_all rfl)|exact Or.inl rfl|exact Or.inl trivial|exact okL_map _ (fun _=>rfl) _|(simp only[VVlen]<;>omega)|fail) only[O1,WA,slotsL,opdsA,Nat.reduceEqDiff,Nat.reduceLT,Nat.reduceAdd,Nat.reduceBEq,Int.reduceAdd,Int.reduceSub,Int.reduceLT,Int.reduceLE,Int.reduceEq,Int.reduceNeg,↓reduceIte,reduceCtorEq,List.replicate]
  exact weak_flat rfl h0 rfl
 rw[Bool.not_eq_true] at hgt
 subst hgt
 rw[Bool.false_or]
 by_cases a1:200<nm.length
 ·rw[decide_eq_true (Or.inl a1)]
  simp (disch:=first|omega|assumption|exact bd (by with_unfolding_all rfl)|exact Or.inl rfl|exact Or.inl trivial|exact okL_map _ (fun _=>rfl) _|(simp only[VVlen]<;>omega)|fail) only[O1,WA,slotsL,opdsA,Nat.reduceEqDiff,Nat.reduceLT,Nat.reduceAdd,Nat.reduceBEq,Int.reduceAdd,Int.reduceSub,Int.reduceLT,Int.reduceLE,Int.reduceEq,Int.reduceNeg,↓reduceIte,reduceCtorEq,List.replicate,c4]
  refine callV_flat (by rw[hC];exact hg.flat rfl rfl) ?_
  simp (disch:=first|omega|assumption|exact bd (by with_unfolding_all rfl)|exact Or.inl rfl|exact Or.inl trivial|exact okL_map _ (fun _=>rfl) _|(simp only[VVlen]<;>omega)|fail) only[O1,WA,slotsL,opdsA,Nat.reduceEqDiff,Nat.reduceLT,Nat.reduceAdd,Nat.reduceBEq,Int.reduceAdd,Int.reduceSub,Int.reduceLT,Int.reduceLE,Int.reduceEq,Int.reduceNeg,↓reduceIte,reduceCtorEq,List.replicate,mk_size]
  all_goals try (exfalso;omega)
  exact weak_flat rfl h0 rfl
 by_cases a2:100<wp.length
 ·rw[decide_eq_true (Or.inr (Or.inl a2))]
  simp (disch:=first|omega|assumption|exact bd (by with_unfolding_all rfl)|exact Or.inl rfl|exact Or.inl trivial|exact okL_map _ (fun _=>rfl) _|(simp only[VVlen]<;>omega)|fail) only[O1,WA,slotsL,opdsA,Nat.reduceEqDiff,Nat.reduceLT,Nat.reduceAdd,Nat.reduceBEq,Int.reduceAdd,Int.reduceSub,Int.reduceLT,Int.reduceLE,Int.reduceEq,Int.reduceNeg,↓reduceIte,reduceCtorEq,List.replicate,c4]
  refine callV_flat (by rw[hC];exact hg.flat rfl rfl) ?_
  simp (disch:=first|omega|assumption|exact bd (by with_unfolding_all rfl)|exact Or.inl rfl|exact Or.inl trivial|exact okL_map _ (fun _=>rfl) _|(simp only[VVlen]<;>omega)|fail) only[O1,WA,slotsL,opdsA,Nat.reduceEqDiff,Nat.reduceLT,Nat.reduceAdd,Nat.reduceBEq,Int.reduceAdd,Int.reduceSub,Int.reduceLT,Int.reduceLE,Int.reduceEq,Int.reduceNeg,↓reduceIte,reduceCtorEq,List.replicate,mk_size]
  all_goals try (exfalso;omega)
  exact weak_flat rfl h0 rfl
 rw[show decide (200<nm.length∨100<wp.length∨100<wf.length)=decide (100<wf.length) from by simp only[a1,a2,false_or]]
 by_cases a3:100<wf.length
 all_goals
  repeat' (first|(simp (disch:=first|omega|assumption|exact bd (by with_unfolding_all rfl)|exact Or.inl rfl|exact Or.inl trivial|exact okL_map _ (fun _=>rfl) _|(simp only[VVlen]<;>omega)|fail) only[O1,WA,slotsL,opdsA,Nat.reduceEqDiff,Nat.reduceLT,Nat.reduceAdd,Nat.reduceBEq,Int.reduceAdd,Int.reduceSub,Int.reduceLT,Int.reduceLE,Int.reduceEq,Int.reduceNeg,↓reduceIte,reduceCtorEq,List.replicate,c4]))
  refine callV_flat (by rw[hC];exact hg.flat rfl rfl) ?_
  repeat' (first|(simp (disch:=first|omega|assumption|exact bd (by with_unfolding_all rfl)|exact Or.inl rfl|exact Or.inl trivial|exact okL_map _ (fun _=>rfl) _|(simp only[VVlen]<;>omega)|fail) only[O1,WA,slotsL,opdsA,Nat.reduceEqDiff,Nat.reduceLT,Nat.reduceAdd,Nat.reduceBEq,Int.reduceAdd,Int.reduceSub,Int.reduceLT,Int.reduceLE,Int.reduceEq,Int.reduceNeg,↓reduceIte,reduceCtorEq,List.replicate,mk_size]))
  all_goals try (exfalso;omega)
  exact weak_flat rfl h0 rfl
end
section
variable (w:World) (n:Nat)
theorem equalI_p (a l:List Int) (ha:a.length≤140737488351232) (hl:l.length≤140737488351232):VSpec (EN w (n+1)) 30 [iS a,iS l] (.sc (.bool (decide (a=l)))) ⟨[],0,0⟩:=by
 refine vspec_flat rfl rfl (fun _ _=>rfl) (Nat.le_of_ble_eq_true rfl) (oldVals w) rfl fun C hC h0=>?_
 by_cases hlen:(a.length:Int)=(l.length:Int)
 case neg=>
  rw[decide_eq_false (fun h=>hlen (by rw[h]))]
  simp (disch:=first|omega|assumption|exact bd (by with_unfolding_all rfl)|exact Or.inl rfl|exact Or.inl trivial|exact okL_map _ (fun _=>rfl) _|(simp only[VVlen]<;>omega)|fail) only[O1,WA,slotsL,opdsA,Nat.reduceEqDiff,Nat.reduceLT,Nat.reduceAdd,Nat.reduceBEq,Int.reduceAdd,Int.reduceSub,Int.reduceLT,Int.reduceLE,Int.reduceEq,Int.reduceNeg,↓reduceIte,reduceCtorEq,List.replicate,c30]
  all_goals first|exact weak_flat rfl h0 rfl|exact absurd ‹_› hlen
 have hlen':a.length=l.length:=by omega
 simp (disch:=first|omega|assumption|exact bd (by with_unfolding_all rfl)|exact Or.inl rfl|exact Or.inl trivial|exact okL_map _ (fun _=>rfl) _|(simp only[VVlen]<;>omega)|fail) only[O1,WA,slotsL,opdsA,Nat.reduceEqDiff,Nat.reduceLT,Nat.reduceAdd,Nat.reduceBEq,Int.reduceAdd,Int.reduceSub,Int.reduceLT,Int.reduceLE,Int.reduceEq,Int.reduceNeg,↓reduceIte,reduceCtorEq,List.replicate,c30]
 all_goals try exact absurd hlen ‹¬(a.length:Int)=(l.length:Int)›
 refine g_while (fun m fr t=>∃ k:Nat,m=l.length - k∧k≤l.length∧(∀ j,j<k→a[j]! =l[j]!)∧fr= [(0,iS a),(1,iS l),(12,iN a.length),(13,iN k)]∧t=⟨[],0,0⟩) l.length ?_ ⟨_,_,.refl _ _,0,by omega,by omega,(fun j hj=>absurd hj (Nat.not_lt_zero _)),rfl,rfl⟩ ?_
 ·rw[hC,callP_rounds];unfold many;omega
 rintro m fr t ⟨k,rfl,hk,hj,rfl,rfl⟩
 by_cases hlt:k<l.length
 ·have hka:k<a.length:=by omega
  by_cases he:a[k]! =l[k]!
  ·simp (disch:=first|omega|assumption|exact bd (by with_unfolding_all rfl)|exact Or.inl rfl|exact Or.inl trivial|exact okL_map _ (fun _=>rfl) _|(simp only[VVlen]<;>omega)|fail) only[O1,WA,slotsL,opdsA,Nat.reduceEqDiff,Nat.reduceLT,Nat.reduceAdd,Nat.reduceBEq,Int.reduceAdd,Int.reduceSub,Int.reduceLT,Int.reduceLE,Int.reduceEq,Int.reduceNeg,↓reduceIte,reduceCtorEq,List.replicate,c30l0,iD_dv,he]
   all_goals first|exact ⟨_,_,_,by omega,.refl _ _,k+1,rfl,hlt,(fun j h=>by rcases Nat.lt_succ_iff_lt_or_eq.1 h with h|h;exact hj j h;subst h;exact he),rfl,rfl⟩|exact absurd he ‹_›
  ·rw[decide_eq_false (fun h=>he (by rw[h]))]
   simp (disch:=first|omega|assumption|exact bd (by with_unfolding_all rfl)|exact Or.inl rfl|exact Or.inl trivial|exact okL_map _ (fun _=>rfl) _|(simp only[VVlen]<;>omega)|fail) only[O1,WA,slotsL,opdsA,Nat.reduceEqDiff,Nat.reduceLT,Nat.reduceAdd,Nat.reduceBEq,Int.reduceAdd,Int.reduceSub,Int.reduceLT,Int.reduceLE,Int.reduceEq,Int.reduceNeg,↓reduceIte,reduceCtorEq,List.replicate,c30l0,iD_dv]
   all_goals first|exact weak_flat rfl h0 rfl|exact absurd ‹_› he
 ·have:k=l.length:=by omega
  subst this
  rw[decide_eq_true (eqI_of_all hlen' hj)]
  simp (disch:=first|omega|assumption|exact bd (by with_unfolding_all rfl)|exact Or.inl rfl|exact Or.inl trivial|exact okL_map _ (fun _=>rfl) _|(simp only[VVlen]<;>omega)|fail) only[O1,WA,slotsL,opdsA,Nat.reduceEqDiff,Nat.reduceLT,Nat.reduceAdd,Nat.reduceBEq,Int.reduceAdd,Int.reduceSub,Int.reduceLT,Int.reduceLE,Int.reduceEq,Int.reduceNeg,↓reduceIte,reduceCtorEq,List.replicate,c30l0]
  exact weak_flat rfl h0 rfl
theorem equalB_p (a l:List Bool) (ha:a.length≤140737488351232) (hl:l.length≤140737488351232):VSpec (EN w (n+1)) 61 [oS a,oS l] (.sc (.bool (decide (a=l)))) ⟨[],0,0⟩:=by
 refine vspec_flat rfl rfl (fun _ _=>rfl) (Nat.le_of_ble_eq_true rfl) (oldVals w) rfl fun C hC h0=>?_
 by_cases hlen:(a.length:Int)=(l.length:Int)
 case neg=>
  rw[decide_eq_false (fun h=>hlen (by rw[h]))]
  simp (disch:=first|omega|assumption|exact bd (by with_unfolding_all rfl)|exact Or.inl rfl|exact Or.inl trivial|exact okL_map _ (fun _=>rfl) _|(simp only[VVlen]<;>omega)|fail) only[O1,WA,slotsL,opdsA,Nat.reduceEqDiff,Nat.reduceLT,Nat.reduceAdd,Nat.reduceBEq,Int.reduceAdd,Int.reduceSub,Int.reduceLT,Int.reduceLE,Int.reduceEq,Int.reduceNeg,↓reduceIte,reduceCtorEq,List.replicate,c61]
  all_goals first|exact weak_flat rfl h0 rfl|exact absurd ‹_› hlen
 have hlen':a.length=l.length:=by omega
 simp (disch:=first|omega|assumption|exact bd (by with_unfolding_all rfl)|exact Or.inl rfl|exact Or.inl trivial|exact okL_map _ (fun _=>rfl) _|(simp only[VVlen]<;>omega)|fail) only[O1,WA,slotsL,opdsA,Nat.reduceEqDiff,Nat.reduceLT,Nat.reduceAdd,Nat.reduceBEq,Int.reduceAdd,Int.reduceSub,Int.reduceLT,Int.reduceLE,Int.reduceEq,Int.reduceNeg,↓reduceIte,reduceCtorEq,List.replicate,c61]
 all_goals try exact absurd hlen ‹¬(a.length:Int)=(l.length:Int)›
 refine g_while (fun m fr t=>∃ k:Nat,m=l.length - k∧k≤l.length∧(∀ j,j<k→a[j]! =l[j]!)∧fr= [(0,oS a),(1,oS l),(12,iN a.length),(13,iN k)]∧t=⟨[],0,0⟩) l.length ?_ ⟨_,_,.refl _ _,0,by omega,by omega,(fun j hj=>absurd hj (Nat.not_lt_zero _)),rfl,rfl⟩ ?_
 ·rw[hC,callP_rounds];unfold many;omega
 rintro m fr t ⟨k,rfl,hk,hj,rfl,rfl⟩
 by_cases hlt:k<l.length
 ·have hka:k<a.length:=by omega
  by_cases he:a[k]! =l[k]!
  ·simp (disch:=first|omega|assumption|exact bd (by with_unfolding_all rfl)|exact Or.inl rfl|exact Or.inl trivial|exact okL_map _ (fun _=>rfl) _|(simp only[VVlen]<;>omega)|fail) only[O1,WA,slotsL,opdsA,Nat.reduceEqDiff,Nat.reduceLT,Nat.reduceAdd,Nat.reduceBEq,Int.reduceAdd,Int.reduceSub,Int.reduceLT,Int.reduceLE,Int.reduceEq,Int.reduceNeg,↓reduceIte,reduceCtorEq,List.replicate,c61l0,oD_dv,he,eqB_b,eqB_nb,beq_self_eq_true]
   all_goals first|exact ⟨_,_,_,by omega,.refl _ _,k+1,rfl,hlt,(fun j h=>by rcases Nat.lt_succ_iff_lt_or_eq.1 h with h|h;exact hj j h;subst h;exact he),rfl,rfl⟩|exact absurd he ‹_›
  ·rw[decide_eq_false (fun h=>he (by rw[h]))]
   have he':(a[k]! ==l[k]!)=false:=by simpa using he
   simp (disch:=first|omega|assumption|exact bd (by with_unfolding_all rfl)|exact Or.inl rfl|exact Or.inl trivial|exact okL_map _ (fun _=>rfl) _|(simp only[VVlen]<;>omega)|fail) only[O1,WA,slotsL,opdsA,Nat.reduceEqDiff,Nat.reduceLT,Nat.reduceAdd,Nat.reduceBEq,Int.reduceAdd,Int.reduceSub,Int.reduceLT,Int.reduceLE,Int.reduceEq,Int.reduceNeg,↓reduceIte,reduceCtorEq,List.replicate,c61l0,oD_dv,eqB_b,eqB_nb,he']
   all_goals first|exact weak_flat rfl h0 rfl|exact absurd ‹_› he
 ·have:k=l.length:=by omega
  subst this
  rw[decide_eq_true (eqO_of_all hlen' hj)]
  simp (disch:=first|omega|assumption|exact bd (by with_unfolding_all rfl)|exact Or.inl rfl|exact Or.inl trivial|exact okL_map _ (fun _=>rfl) _|(simp only[VVlen]<;>omega)|fail) only[O1,WA,slotsL,opdsA,Nat.reduceEqDiff,Nat.reduceLT,Nat.reduceAdd,Nat.reduceBEq,Int.reduceAdd,Int.reduceSub,Int.reduceLT,Int.reduceLE,Int.reduceEq,Int.reduceNeg,↓reduceIte,reduceCtorEq,List.replicate,c61l0]
  exact weak_flat rfl h0 rfl
theorem same02_p (a l:List Int) (ha:a.length≤140737488351232) (hl:l.length≤140737488351232):VSpec (EN w (n+1)) 32 [iS a,iS l] (.sc (.bool (decide (a=l)))) ⟨[],0,0⟩:=by
 refine vspec_flat rfl rfl (fun _ _=>rfl) (Nat.le_of_ble_eq_true rfl) (oldVals w) rfl fun C hC h0=>?_
 by_cases hlen:(a.length:Int)=(l.length:Int)
 case neg=>
  rw[decide_eq_false (fun h=>hlen (by rw[h]))]
  simp (disch:=first|omega|assumption|exact bd (by with_unfolding_all rfl)|exact Or.inl rfl|exact Or.inl trivial|exact okL_map _ (fun _=>rfl) _|(simp only[VVlen]<;>omega)|fail) only[O1,WA,slotsL,opdsA,Nat.reduceEqDiff,Nat.reduceLT,Nat.reduceAdd,Nat.reduceBEq,Int.reduceAdd,Int.reduceSub,Int.reduceLT,Int.reduceLE,Int.reduceEq,Int.reduceNeg,↓reduceIte,reduceCtorEq,List.replicate,c32]
  all_goals first|exact weak_flat rfl h0 rfl|exact absurd ‹_› hlen
 have hlen':a.length=l.length:=by omega
 simp (disch:=first|omega|assumption|exact bd (by with_unfolding_all rfl)|exact Or.inl rfl|exact Or.inl trivial|exact okL_map _ (fun _=>rfl) _|(simp only[VVlen]<;>omega)|fail) only[O1,WA,slotsL,opdsA,Nat.reduceEqDiff,Nat.reduceLT,Nat.reduceAdd,Nat.reduceBEq,Int.reduceAdd,Int.reduceSub,Int.reduceLT,Int.reduceLE,Int.reduceEq,Int.reduceNeg,↓reduceIte,reduceCtorEq,List.replicate,c32]
 all_goals try exact absurd hlen ‹¬(a.length:Int)=(l.length:Int)›
 refine g_while (fun m fr t=>∃ k:Nat,m=l.length - k∧k≤l.length∧(∀ j,j<k→a[j]! =l[j]!)∧fr= [(0,iS a),(1,iS l),(5,iN k)]∧t=⟨[],0,0⟩) l.length ?_ ⟨_,_,.refl _ _,0,by omega,by omega,(fun j hj=>absurd hj (Nat.not_lt_zero _)),rfl,rfl⟩ ?_
 ·rw[hC,callP_rounds];unfold many;omega
 rintro m fr t ⟨k,rfl,hk,hj,rfl,rfl⟩
 by_cases hlt:k<l.length
 ·have hka:k<a.length:=by omega
  by_cases he:a[k]! =l[k]!
  ·simp (disch:=first|omega|assumption|exact bd (by with_unfolding_all rfl)|exact Or.inl rfl|exact Or.inl trivial|exact okL_map _ (fun _=>rfl) _|(simp only[VVlen]<;>omega)|fail) only[O1,WA,slotsL,opdsA,Nat.reduceEqDiff,Nat.reduceLT,Nat.reduceAdd,Nat.reduceBEq,Int.reduceAdd,Int.reduceSub,Int.reduceLT,Int.reduceLE,Int.reduceEq,Int.reduceNeg,↓reduceIte,reduceCtorEq,List.replicate,c32l0,iD_dv,he]
   all_goals first|exact ⟨_,_,_,by omega,.refl _ _,k+1,rfl,hlt,(fun j h=>by rcases Nat.lt_succ_iff_lt_or_eq.1 h with h|h;exact hj j h;subst h;exact he),rfl,rfl⟩|exact absurd he ‹_›
  ·rw[decide_eq_false (fun h=>he (by rw[h]))]
   simp (disch:=first|omega|assumption|exact bd (by with_unfolding_all rfl)|exact Or.inl rfl|exact Or.inl trivial|exact okL_map _ (fun _=>rfl) _|(simp only[VVlen]<;>omega)|fail) only[O1,WA,slotsL,opdsA,Nat.reduceEqDiff,Nat.reduceLT,Nat.reduceAdd,Nat.reduceBEq,Int.reduceAdd,Int.reduceSub,Int.reduceLT,Int.reduceLE,Int.reduceEq,Int.reduceNeg,↓reduceIte,reduceCtorEq,List.replicate,c32l0,iD_dv]
   all_goals first|exact weak_flat rfl h0 rfl|exact absurd ‹_› he
 ·have:k=l.length:=by omega
  subst this
  rw[decide_eq_true (eqI_of_all hlen' hj)]
  simp (disch:=first|omega|assumption|exact bd (by with_unfolding_all rfl)|exact Or.inl rfl|exact Or.inl trivial|exact okL_map _ (fun _=>rfl) _|(simp only[VVlen]<;>omega)|fail) only[O1,WA,slotsL,opdsA,Nat.reduceEqDiff,Nat.reduceLT,Nat.reduceAdd,Nat.reduceBEq,Int.reduceAdd,Int.reduceSub,Int.reduceLT,Int.reduceLE,Int.reduceEq,Int.reduceNeg,↓reduceIte,reduceCtorEq,List.replicate,c32l0]
  exact weak_flat rfl h0 rfl
def sameG (a b:Int) (A:List Bool) (a' b':Int) (A':List Bool):Bool:=decide (a=a'∧b=b'∧A=A')
theorem gsame_p (a b a' b':Int) (A A':List Bool) (hA:A.length≤140737488351232) (hA':A'.length≤140737488351232):VSpec (EN w (n+2)) 46 [grV a b A,grV a' b' A'] (.sc (.bool (sameG a b A a' b' A'))) ⟨[],0,0⟩:=by
 refine vspec_flat rfl rfl (fun _ _=>rfl) (Nat.le_of_ble_eq_true rfl) (oldVals w) rfl fun C hC h0=>?_
 have he:=equalB_p w n A A' hA hA'
 unfold sameG
 by_cases h1:a=a'
 case neg=>
  rw[decide_eq_false (fun h=>h1 h.1)]
  simp (disch:=first|omega|assumption|exact bd (by with_unfolding_all rfl)|exact Or.inl rfl|exact Or.inl trivial|exact okL_map _ (fun _=>rfl) _|(simp only[VVlen]<;>omega)|fail) only[O1,WA,slotsL,opdsA,Nat.reduceEqDiff,Nat.reduceLT,Nat.reduceAdd,Nat.reduceBEq,Int.reduceAdd,Int.reduceSub,Int.reduceLT,Int.reduceLE,Int.reduceEq,Int.reduceNeg,↓reduceIte,reduceCtorEq,List.replicate,c46,h1]
  exact weak_flat rfl h0 rfl
 by_cases h2:b=b'
 case neg=>
  rw[decide_eq_false (fun h=>h2 h.2.1)]
  simp (disch:=first|omega|assumption|exact bd (by with_unfolding_all rfl)|exact Or.inl rfl|exact Or.inl trivial|exact okL_map _ (fun _=>rfl) _|(simp only[VVlen]<;>omega)|fail) only[O1,WA,slotsL,opdsA,Nat.reduceEqDiff,Nat.reduceLT,Nat.reduceAdd,Nat.reduceBEq,Int.reduceAdd,Int.reduceSub,Int.reduceLT,Int.reduceLE,Int.reduceEq,Int.reduceNeg,↓reduceIte,reduceCtorEq,List.replicate,c46,h1,h2]
  exact weak_flat rfl h0 rfl
 rw[show decide (a=a'∧b=b'∧A=A')=decide (A=A') from by simp only[h1,h2,true_and]]
 simp (disch:=first|omega|assumption|exact bd (by with_unfolding_all rfl)|exact Or.inl rfl|exact Or.inl trivial|exact okL_map _ (fun _=>rfl) _|(simp only[VVlen]<;>omega)|fail) only[O1,WA,slotsL,opdsA,Nat.reduceEqDiff,Nat.reduceLT,Nat.reduceAdd,Nat.reduceBEq,Int.reduceAdd,Int.reduceSub,Int.reduceLT,Int.reduceLE,Int.reduceEq,Int.reduceNeg,↓reduceIte,reduceCtorEq,List.replicate,c46,h1,h2]
 refine callV_flat (by rw[hC];exact he.flat rfl rfl) ?_
 repeat' (first|(simp (disch:=first|omega|assumption|exact bd (by with_unfolding_all rfl)|exact Or.inl rfl|exact Or.inl trivial|exact okL_map _ (fun _=>rfl) _|(simp only[VVlen]<;>omega)|fail) only[O1,WA,slotsL,opdsA,Nat.reduceEqDiff,Nat.reduceLT,Nat.reduceAdd,Nat.reduceBEq,Int.reduceAdd,Int.reduceSub,Int.reduceLT,Int.reduceLE,Int.reduceEq,Int.reduceNeg,↓reduceIte,reduceCtorEq,List.replicate])|apply gC_drawW|((first|apply gI_dec|apply gG_dec|apply gPG_dec|apply gI_var|apply gG_var|apply gPG_var)<;>intro _))
 exact weak_flat rfl h0 rfl
theorem same01_p (a b a' b':Int) (A A':List Bool) (hA:A.length≤140737488351232) (hA':A'.length≤140737488351232):VSpec (EN w (n+1)) 47 [grV a b A,grV a' b' A'] (.sc (.bool (sameG a b A a' b' A'))) ⟨[],0,0⟩:=by
 refine vspec_flat rfl rfl (fun _ _=>rfl) (Nat.le_of_ble_eq_true rfl) (oldVals w) rfl fun C hC h0=>?_
 unfold sameG
 by_cases h1:a=a'
 case neg=>
  rw[decide_eq_false (fun h=>h1 h.1)]
  simp (disch:=first|omega|assumption|exact bd (by with_unfolding_all rfl)|exact Or.inl rfl|exact Or.inl trivial|exact okL_map _ (fun _=>rfl) _|(simp only[VVlen]<;>omega)|fail) only[O1,WA,slotsL,opdsA,Nat.reduceEqDiff,Nat.reduceLT,Nat.reduceAdd,Nat.reduceBEq,Int.reduceAdd,Int.reduceSub,Int.reduceLT,Int.reduceLE,Int.reduceEq,Int.reduceNeg,↓reduceIte,reduceCtorEq,List.replicate,c47,h1]
  exact weak_flat rfl h0 rfl
 by_cases h2:b=b'
 case neg=>
  rw[decide_eq_false (fun h=>h2 h.2.1)]
  simp (disch:=first|omega|assumption|exact bd (by with_unfolding_all rfl)|exact Or.inl rfl|exact Or.inl trivial|exact okL_map _ (fun _=>rfl) _|(simp only[VVlen]<;>omega)|fail) only[O1,WA,slotsL,opdsA,Nat.reduceEqDiff,Nat.reduceLT,Nat.reduceAdd,Nat.reduceBEq,Int.reduceAdd,Int.reduceSub,Int.reduceLT,Int.reduceLE,Int.reduceEq,Int.reduceNeg,↓reduceIte,reduceCtorEq,List.replicate,c47,h1,h2]
  exact weak_flat rfl h0 rfl
 subst h1
 subst h2
 rw[show decide (a=a∧b=b∧A=A')=decide (A=A') from by simp]
 by_cases hlen:(A.length:Int)=(A'.length:Int)
 case neg=>
  rw[decide_eq_false (fun h=>hlen (by rw[h]))]
  simp (disch:=first|omega|assumption|exact bd (by with_unfolding_all rfl)|exact Or.inl rfl|exact Or.inl trivial|exact okL_map _ (fun _=>rfl) _|(simp only[VVlen]<;>omega)|fail) only[O1,WA,slotsL,opdsA,Nat.reduceEqDiff,Nat.reduceLT,Nat.reduceAdd,Nat.reduceBEq,Int.reduceAdd,Int.reduceSub,Int.reduceLT,Int.reduceLE,Int.reduceEq,Int.reduceNeg,↓reduceIte,reduceCtorEq,List.replicate,c47,hlen]
  all_goals first|exact weak_flat rfl h0 rfl|exact absurd ‹_› hlen
 have hlen':A.length=A'.length:=by omega
 simp (disch:=first|omega|assumption|exact bd (by with_unfolding_all rfl)|exact Or.inl rfl|exact Or.inl trivial|exact okL_map _ (fun _=>rfl) _|(simp only[VVlen]<;>omega)|fail) only[O1,WA,slotsL,opdsA,Nat.reduceEqDiff,Nat.reduceLT,Nat.reduceAdd,Nat.reduceBEq,Int.reduceAdd,Int.reduceSub,Int.reduceLT,Int.reduceLE,Int.reduceEq,Int.reduceNeg,↓reduceIte,reduceCtorEq,List.replicate,c47,hlen]
 refine g_while (fun m fr st=>∃ k:Nat,m=A.length - k∧k≤A.length∧(∀ j,j<k→A[j]! =A'[j]!)∧fr= [(2,.ptr 0 0),(3,.ptr 1 0),(5,iN k)]∧st=⟨[(1,.box 25 1 [iN a,iN b,oS A']),(0,.box 25 1 [iN a,iN b,oS A])],2,0⟩) A.length ?_ ⟨_,_,.refl _ _,0,by omega,by omega,(fun j hj=>absurd hj (Nat.not_lt_zero _)),rfl,rfl⟩ ?_
 ·rw[hC,callP_rounds];unfold many;omega
 rintro m fr st ⟨k,rfl,hk,hj,rfl,rfl⟩
 by_cases hlt:k<A.length
 ·have hka:k<A'.length:=by omega
  by_cases he:A[k]! =A'[k]!
  ·simp (disch:=first|omega|assumption|exact bd (by with_unfolding_all rfl)|exact Or.inl rfl|exact Or.inl trivial|exact okL_map _ (fun _=>rfl) _|(simp only[VVlen]<;>omega)|fail) only[O1,WA,slotsL,opdsA,Nat.reduceEqDiff,Nat.reduceLT,Nat.reduceAdd,Nat.reduceBEq,Int.reduceAdd,Int.reduceSub,Int.reduceLT,Int.reduceLE,Int.reduceEq,Int.reduceNeg,↓reduceIte,reduceCtorEq,List.replicate,c47l0,oD_dv,he,eqB_b,eqB_nb,beq_self_eq_true]
   exact ⟨_,_,_,by omega,.refl _ _,k+1,rfl,hlt,(fun j h=>by rcases Nat.lt_succ_iff_lt_or_eq.1 h with h|h;exact hj j h;subst h;exact he),rfl,rfl⟩
  ·rw[decide_eq_false (fun h=>he (by rw[h]))]
   have he':(A[k]! ==A'[k]!)=false:=by simpa using he
   simp (disch:=first|omega|assumption|exact bd (by with_unfolding_all rfl)|exact Or.inl rfl|exact Or.inl trivial|exact okL_map _ (fun _=>rfl) _|(simp only[VVlen]<;>omega)|fail) only[O1,WA,slotsL,opdsA,Nat.reduceEqDiff,Nat.reduceLT,Nat.reduceAdd,Nat.reduceBEq,Int.reduceAdd,Int.reduceSub,Int.reduceLT,Int.reduceLE,Int.reduceEq,Int.reduceNeg,↓reduceIte,reduceCtorEq,List.replicate,c47l0,oD_dv,eqB_b,eqB_nb,he']
   exact weak_flat rfl h0 rfl
 ·have:k=A.length:=by omega
  subst this
  rw[decide_eq_true (eqO_of_all hlen' fun j h=>hj j (by omega))]
  simp (disch:=first|omega|assumption|exact bd (by with_unfolding_all rfl)|exact Or.inl rfl|exact Or.inl trivial|exact okL_map _ (fun _=>rfl) _|(simp only[VVlen]<;>omega)|fail) only[O1,WA,slotsL,opdsA,Nat.reduceEqDiff,Nat.reduceLT,Nat.reduceAdd,Nat.reduceBEq,Int.reduceAdd,Int.reduceSub,Int.reduceLT,Int.reduceLE,Int.reduceEq,Int.reduceNeg,↓reduceIte,reduceCtorEq,List.replicate,c47l0,oD_dv]
  exact weak_flat rfl h0 rfl
def sameD (sh tr:Int) (th td:List Int) (gw gh:Int) (B:List Bool) (sh' tr':Int) (th' td':List Int) (gw' gh':Int) (B':List Bool):Bool:=
 decide (sh=sh') && (decide (tr=tr') && (decide (th=th') && (decide (td=td') && sameG gw gh B gw' gh' B')))
theorem dsame_p (sh tr:Int) (th td:List Int) (gw gh:Int) (B:List Bool) (sh' tr':Int) (th' td':List Int) (gw' gh':Int) (B':List Bool) (h1:th.length≤140737488351232) (h2:td.length≤140737488351232) (hB:B.length≤140737488351232) (h1':th'.length≤140737488351232) (h2':td'.length≤140737488351232) (hB':B'.length≤140737488351232):
  VSpec (EN w (n+3)) 29 [drV sh tr th td gw gh B,drV sh' tr' th' td' gw' gh' B'] (.sc (.bool (sameD sh tr th td gw gh B sh' tr' th' td' gw' gh' B'))) ⟨[],0,0⟩:=by
 refine vspec_flat rfl rfl (fun _ _=>rfl) (Nat.le_of_ble_eq_true rfl) (oldVals w) rfl fun C hC h0=>?_
 have e1:=equalI_p w (n+1) th th' h1 h1'
 have e2:=equalI_p w (n+1) td td' h2 h2'
 have e3:=gsame_p w n gw gh gw' gh' B B' hB hB'
 unfold sameD
 generalize sameG gw gh B gw' gh' B'=g at*
 by_cases q1:sh=sh'
 case neg=>
  rw[decide_eq_false q1]
  simp (disch:=first|omega|assumption|exact bd (by with_unfolding_all rfl)|exact Or.inl rfl|exact Or.inl trivial|exact okL_map _ (fun _=>rfl) _|(simp only[VVlen]<;>omega)|fail) only[O1,WA,slotsL,opdsA,Nat.reduceEqDiff,Nat.reduceLT,Nat.reduceAdd,Nat.reduceBEq,Int.reduceAdd,Int.reduceSub,Int.reduceLT,Int.reduceLE,Int.reduceEq,Int.reduceNeg,↓reduceIte,reduceCtorEq,List.replicate,c29,q1]
  exact weak_flat rfl h0 rfl
 by_cases q2:tr=tr'
 case neg=>
  rw[decide_eq_false q2,decide_eq_true q1]
  simp (disch:=first|omega|assumption|exact bd (by with_unfolding_all rfl)|exact Or.inl rfl|exact Or.inl trivial|exact okL_map _ (fun _=>rfl) _|(simp only[VVlen]<;>omega)|fail) only[O1,WA,slotsL,opdsA,Nat.reduceEqDiff,Nat.reduceLT,Nat.reduceAdd,Nat.reduceBEq,Int.reduceAdd,Int.reduceSub,Int.reduceLT,Int.reduceLE,Int.reduceEq,Int.reduceNeg,↓reduceIte,reduceCtorEq,List.replicate,c29,q1,q2]
  exact weak_flat rfl h0 rfl
 rw[decide_eq_true q1,decide_eq_true q2,Bool.true_and,Bool.true_and]
 generalize decide (th=th')=b1 at*
 generalize decide (td=td')=b2 at*
 simp (disch:=first|omega|assumption|exact bd (by with_unfolding_all rfl)|exact Or.inl rfl|exact Or.inl trivial|exact okL_map _ (fun _=>rfl) _|(simp only[VVlen]<;>omega)|fail) only[O1,WA,slotsL,opdsA,Nat.reduceEqDiff,Nat.reduceLT,Nat.reduceAdd,Nat.reduceBEq,Int.reduceAdd,Int.reduceSub,Int.reduceLT,Int.reduceLE,Int.reduceEq,Int.reduceNeg,↓reduceIte,reduceCtorEq,List.replicate,c29,q1,q2]
 refine callV_flat (by rw[hC];exact e1.flat rfl rfl) ?_
 cases b1
 ·simp (disch:=first|omega|assumption|exact bd (by with_unfolding_all rfl)|exact Or.inl rfl|exact Or.inl trivial|exact okL_map _ (fun _=>rfl) _|(simp only[VVlen]<;>omega)|fail) only[O1,WA,slotsL,opdsA,Nat.reduceEqDiff,Nat.reduceLT,Nat.reduceAdd,Nat.reduceBEq,Int.reduceAdd,Int.reduceSub,Int.reduceLT,Int.reduceLE,Int.reduceEq,Int.reduceNeg,↓reduceIte,reduceCtorEq,List.replicate]
  exact weak_flat rfl h0 rfl
 simp (disch:=first|omega|assumption|exact bd (by with_unfolding_all rfl)|exact Or.inl rfl|exact Or.inl trivial|exact okL_map _ (fun _=>rfl) _|(simp only[VVlen]<;>omega)|fail) only[O1,WA,slotsL,opdsA,Nat.reduceEqDiff,Nat.reduceLT,Nat.reduceAdd,Nat.reduceBEq,Int.reduceAdd,Int.reduceSub,Int.reduceLT,Int.reduceLE,Int.reduceEq,Int.reduceNeg,↓reduceIte,reduceCtorEq,List.replicate]
 refine callV_flat (by rw[hC];exact e2.flat rfl rfl) ?_
 cases b2
 ·simp (disch:=first|omega|assumption|exact bd (by with_unfolding_all rfl)|exact Or.inl rfl|exact Or.inl trivial|exact okL_map _ (fun _=>rfl) _|(simp only[VVlen]<;>omega)|fail) only[O1,WA,slotsL,opdsA,Nat.reduceEqDiff,Nat.reduceLT,Nat.reduceAdd,Nat.reduceBEq,Int.reduceAdd,Int.reduceSub,Int.reduceLT,Int.reduceLE,Int.reduceEq,Int.reduceNeg,↓reduceIte,reduceCtorEq,List.replicate]
  exact weak_flat rfl h0 rfl
 simp (disch:=first|omega|assumption|exact bd (by with_unfolding_all rfl)|exact Or.inl rfl|exact Or.inl trivial|exact okL_map _ (fun _=>rfl) _|(simp only[VVlen]<;>omega)|fail) only[O1,WA,slotsL,opdsA,Nat.reduceEqDiff,Nat.reduceLT,Nat.reduceAdd,Nat.reduceBEq,Int.reduceAdd,Int.reduceSub,Int.reduceLT,Int.reduceLE,Int.reduceEq,Int.reduceNeg,↓reduceIte,reduceCtorEq,List.replicate]
 refine callV_flat (by rw[hC];exact e3.flat rfl rfl) ?_
 repeat' (first|(simp (disch:=first|omega|assumption|exact bd (by with_unfolding_all rfl)|exact Or.inl rfl|exact Or.inl trivial|exact okL_map _ (fun _=>rfl) _|(simp only[VVlen]<;>omega)|fail) only[O1,WA,slotsL,opdsA,Nat.reduceEqDiff,Nat.reduceLT,Nat.reduceAdd,Nat.reduceBEq,Int.reduceAdd,Int.reduceSub,Int.reduceLT,Int.reduceLE,Int.reduceEq,Int.reduceNeg,↓reduceIte,reduceCtorEq,List.replicate])|apply gC_drawW|((first|apply gI_dec|apply gG_dec|apply gPG_dec|apply gI_var|apply gG_var|apply gPG_var)<;>intro _))
 exact weak_flat rfl h0 rfl
theorem same03_p (sh tr:Int) (th td:List Int) (gw gh:Int) (B:List Bool) (sh' tr':Int) (th' td':List Int) (gw' gh':Int) (B':List Bool) (h1:th.length≤140737488351232) (h2:td.length≤140737488351232) (hB:B.length≤140737488351232) (h1':th'.length≤140737488351232) (h2':td'.length≤140737488351232) (hB':B'.length≤140737488351232):
  VSpec (EN w (n+3)) 31 [drV sh tr th td gw gh B,drV sh' tr' th' td' gw' gh' B'] (.sc (.bool (sameD sh tr th td gw gh B sh' tr' th' td' gw' gh' B'))) ⟨[],0,0⟩:=by
 refine vspec_flat rfl rfl (fun _ _=>rfl) (Nat.le_of_ble_eq_true rfl) (oldVals w) rfl fun C hC h0=>?_
 have e1:=same02_p w (n+1) th th' h1 h1'
 have e2:=same02_p w (n+1) td td' h2 h2'
 have e3:=same01_p w (n+1) gw gh gw' gh' B B' hB hB'
 unfold sameD
 generalize sameG gw gh B gw' gh' B'=g at*
 by_cases q1:sh=sh'
 case neg=>
  rw[decide_eq_false q1]
  simp (disch:=first|omega|assumption|exact bd (by with_unfolding_all rfl)|exact Or.inl rfl|exact Or.inl trivial|exact okL_map _ (fun _=>rfl) _|(simp only[VVlen]<;>omega)|fail) only[O1,WA,slotsL,opdsA,Nat.reduceEqDiff,Nat.reduceLT,Nat.reduceAdd,Nat.reduceBEq,Int.reduceAdd,Int.reduceSub,Int.reduceLT,Int.reduceLE,Int.reduceEq,Int.reduceNeg,↓reduceIte,reduceCtorEq,List.replicate,c31,q1]
  exact weak_flat rfl h0 rfl
 by_cases q2:tr=tr'
 case neg=>
  rw[decide_eq_false q2,decide_eq_true q1]
  simp (disch:=first|omega|assumption|exact bd (by with_unfolding_all rfl)|exact Or.inl rfl|exact Or.inl trivial|exact okL_map _ (fun _=>rfl) _|(simp only[VVlen]<;>omega)|fail) only[O1,WA,slotsL,opdsA,Nat.reduceEqDiff,Nat.reduceLT,Nat.reduceAdd,Nat.reduceBEq,Int.reduceAdd,Int.reduceSub,Int.reduceLT,Int.reduceLE,Int.reduceEq,Int.reduceNeg,↓reduceIte,reduceCtorEq,List.replicate,c31,q1,q2]
  exact weak_flat rfl h0 rfl
 rw[decide_eq_true q1,decide_eq_true q2,Bool.true_and,Bool.true_and]
 generalize decide (th=th')=b1 at*
 generalize decide (td=td')=b2 at*
 simp (disch:=first|omega|assumption|exact bd (by with_unfolding_all rfl)|exact Or.inl rfl|exact Or.inl trivial|exact okL_map _ (fun _=>rfl) _|(simp only[VVlen]<;>omega)|fail) only[O1,WA,slotsL,opdsA,Nat.reduceEqDiff,Nat.reduceLT,Nat.reduceAdd,Nat.reduceBEq,Int.reduceAdd,Int.reduceSub,Int.reduceLT,Int.reduceLE,Int.reduceEq,Int.reduceNeg,↓reduceIte,reduceCtorEq,List.replicate,c31,q1,q2]
 refine callV_flat (by rw[hC];exact e1.flat rfl rfl) ?_
 cases b1
 ·simp (disch:=first|omega|assumption|exact bd (by with_unfolding_all rfl)|exact Or.inl rfl|exact Or.inl trivial|exact okL_map _ (fun _=>rfl) _|(simp only[VVlen]<;>omega)|fail) only[O1,WA,slotsL,opdsA,Nat.reduceEqDiff,Nat.reduceLT,Nat.reduceAdd,Nat.reduceBEq,Int.reduceAdd,Int.reduceSub,Int.reduceLT,Int.reduceLE,Int.reduceEq,Int.reduceNeg,↓reduceIte,reduceCtorEq,List.replicate]
  exact weak_flat rfl h0 rfl
 simp (disch:=first|omega|assumption|exact bd (by with_unfolding_all rfl)|exact Or.inl rfl|exact Or.inl trivial|exact okL_map _ (fun _=>rfl) _|(simp only[VVlen]<;>omega)|fail) only[O1,WA,slotsL,opdsA,Nat.reduceEqDiff,Nat.reduceLT,Nat.reduceAdd,Nat.reduceBEq,Int.reduceAdd,Int.reduceSub,Int.reduceLT,Int.reduceLE,Int.reduceEq,Int.reduceNeg,↓reduceIte,reduceCtorEq,List.replicate]
 refine callV_flat (by rw[hC];exact e2.flat rfl rfl) ?_
 cases b2
 ·simp (disch:=first|omega|assumption|exact bd (by with_unfolding_all rfl)|exact Or.inl rfl|exact Or.inl trivial|exact okL_map _ (fun _=>rfl) _|(simp only[VVlen]<;>omega)|fail) only[O1,WA,slotsL,opdsA,Nat.reduceEqDiff,Nat.reduceLT,Nat.reduceAdd,Nat.reduceBEq,Int.reduceAdd,Int.reduceSub,Int.reduceLT,Int.reduceLE,Int.reduceEq,Int.reduceNeg,↓reduceIte,reduceCtorEq,List.replicate]
  exact weak_flat rfl h0 rfl
 simp (disch:=first|omega|assumption|exact bd (by with_unfolding_all rfl)|exact Or.inl rfl|exact Or.inl trivial|exact okL_map _ (fun _=>rfl) _|(simp only[VVlen]<;>omega)|fail) only[O1,WA,slotsL,opdsA,Nat.reduceEqDiff,Nat.reduceLT,Nat.reduceAdd,Nat.reduceBEq,Int.reduceAdd,Int.reduceSub,Int.reduceLT,Int.reduceLE,Int.reduceEq,Int.reduceNeg,↓reduceIte,reduceCtorEq,List.replicate]
 refine callV_flat (by rw[hC];exact e3.flat rfl rfl) ?_
 repeat' (first|(simp (disch:=first|omega|assumption|exact bd (by with_unfolding_all rfl)|exact Or.inl rfl|exact Or.inl trivial|exact okL_map _ (fun _=>rfl) _|(simp only[VVlen]<;>omega)|fail) only[O1,WA,slotsL,opdsA,Nat.reduceEqDiff,Nat.reduceLT,Nat.reduceAdd,Nat.reduceBEq,Int.reduceAdd,Int.reduceSub,Int.reduceLT,Int.reduceLE,Int.reduceEq,Int.reduceNeg,↓reduceIte,reduceCtorEq,List.replicate])|apply gC_drawW|((first|apply gI_dec|apply gG_dec|apply gPG_dec|apply gI_var|apply gG_var|apply gPG_var)<;>intro _))
 exact weak_flat rfl h0 rfl
end
def sameFl (nm:List UInt8) (sh tr:Int) (th td:List Int) (gw gh:Int) (B:List Bool) (wp wf:List Int) (nm':List UInt8) (sh' tr':Int) (th' td':List Int) (gw' gh':Int) (B':List Bool) (wp' wf':List Int):Bool:=
 decide (nm=nm') && (sameD sh tr th td gw gh B sh' tr' th' td' gw' gh' B' && (decide (wp=wp') && decide (wf=wf')))
section
variable (w:World) (n:Nat)
theorem fsame_p (nm:List UInt8) (sh tr:Int) (th td:List Int) (gw gh:Int) (B:List Bool) (wp wf:List Int) (nm':List UInt8) (sh' tr':Int) (th' td':List Int) (gw' gh':Int) (B':List Bool) (wp' wf':List Int) (h1:th.length≤140737488351232) (h2:td.length≤140737488351232) (hB:B.length≤140737488351232) (h1':th'.length≤140737488351232) (h2':td'.length≤140737488351232) (hB':B'.length≤140737488351232)
  (h3:wp.length≤140737488351232) (h4:wf.length≤140737488351232) (h3':wp'.length≤140737488351232) (h4':wf'.length≤140737488351232):
  VSpec (EN w (n+4)) 10 [flV nm sh tr th td gw gh B wp wf,flV nm' sh' tr' th' td' gw' gh' B' wp' wf'] (.sc (.bool (sameFl nm sh tr th td gw gh B wp wf nm' sh' tr' th' td' gw' gh' B' wp' wf'))) ⟨[],0,0⟩:=by
 refine vspec_flat rfl rfl (fun _ _=>rfl) (Nat.le_of_ble_eq_true rfl) (oldVals w) rfl fun C hC h0=>?_
 have e0:=dsame_p w n sh tr th td gw gh B sh' tr' th' td' gw' gh' B' h1 h2 hB h1' h2' hB'
 have e1:=equalI_p w (n+2) wp wp' h3 h3'
 have e2:=equalI_p w (n+2) wf wf' h4 h4'
 unfold sameFl
 generalize sameD sh tr th td gw gh B sh' tr' th' td' gw' gh' B'=g at*
 generalize decide (wp=wp')=b1 at*
 generalize decide (wf=wf')=b2 at*
 by_cases q1:nm=nm'
 case neg=>
  rw[decide_eq_false q1]
  simp (disch:=first|omega|assumption|exact bd (by with_unfolding_all rfl)|exact Or.inl rfl|exact Or.inl trivial|exact okL_map _ (fun _=>rfl) _|(simp only[VVlen]<;>omega)|fail) only[O1,WA,slotsL,opdsA,Nat.reduceEqDiff,Nat.reduceLT,Nat.reduceAdd,Nat.reduceBEq,Int.reduceAdd,Int.reduceSub,Int.reduceLT,Int.reduceLE,Int.reduceEq,Int.reduceNeg,↓reduceIte,reduceCtorEq,List.replicate,c10,q1,eq_l,mk_inj]
  exact weak_flat rfl h0 rfl
 rw[decide_eq_true q1,Bool.true_and]
 simp (disch:=first|omega|assumption|exact bd (by with_unfolding_all rfl)|exact Or.inl rfl|exact Or.inl trivial|exact okL_map _ (fun _=>rfl) _|(simp only[VVlen]<;>omega)|fail) only[O1,WA,slotsL,opdsA,Nat.reduceEqDiff,Nat.reduceLT,Nat.reduceAdd,Nat.reduceBEq,Int.reduceAdd,Int.reduceSub,Int.reduceLT,Int.reduceLE,Int.reduceEq,Int.reduceNeg,↓reduceIte,reduceCtorEq,List.replicate,c10,q1,eq_l,mk_inj]
 refine callV_flat (by rw[hC];exact e0.flat rfl rfl) ?_
 cases g
 ·simp (disch:=first|omega|assumption|exact bd (by with_unfolding_all rfl)|exact Or.inl rfl|exact Or.inl trivial|exact okL_map _ (fun _=>rfl) _|(simp only[VVlen]<;>omega)|fail) only[O1,WA,slotsL,opdsA,Nat.reduceEqDiff,Nat.reduceLT,Nat.reduceAdd,Nat.reduceBEq,Int.reduceAdd,Int.reduceSub,Int.reduceLT,Int.reduceLE,Int.reduceEq,Int.reduceNeg,↓reduceIte,reduceCtorEq,List.replicate]
  exact weak_flat rfl h0 rfl
 simp (disch:=first|omega|assumption|exact bd (by with_unfolding_all rfl)|exact Or.inl rfl|exact Or.inl trivial|exact okL_map _ (fun _=>rfl) _|(simp only[VVlen]<;>omega)|fail) only[O1,WA,slotsL,opdsA,Nat.reduceEqDiff,Nat.reduceLT,Nat.reduceAdd,Nat.reduceBEq,Int.reduceAdd,Int.reduceSub,Int.reduceLT,Int.reduceLE,Int.reduceEq,Int.reduceNeg,↓reduceIte,reduceCtorEq,List.replicate]
 refine callV_flat (by rw[hC];exact e1.flat rfl rfl) ?_
 cases b1
 ·simp (disch:=first|omega|assumption|exact bd (by with_unfolding_all rfl)|exact Or.inl rfl|exact Or.inl trivial|exact okL_map _ (fun _=>rfl) _|(simp only[VVlen]<;>omega)|fail) only[O1,WA,slotsL,opdsA,Nat.reduceEqDiff,Nat.reduceLT,Nat.reduceAdd,Nat.reduceBEq,Int.reduceAdd,Int.reduceSub,Int.reduceLT,Int.reduceLE,Int.reduceEq,Int.reduceNeg,↓reduceIte,reduceCtorEq,List.replicate]
  exact weak_flat rfl h0 rfl
 simp (disch:=first|omega|assumption|exact bd (by with_unfolding_all rfl)|exact Or.inl rfl|exact Or.inl trivial|exact okL_map _ (fun _=>rfl) _|(simp only[VVlen]<;>omega)|fail) only[O1,WA,slotsL,opdsA,Nat.reduceEqDiff,Nat.reduceLT,Nat.reduceAdd,Nat.reduceBEq,Int.reduceAdd,Int.reduceSub,Int.reduceLT,Int.reduceLE,Int.reduceEq,Int.reduceNeg,↓reduceIte,reduceCtorEq,List.replicate]
 refine callV_flat (by rw[hC];exact e2.flat rfl rfl) ?_
 repeat' (first|(simp (disch:=first|omega|assumption|exact bd (by with_unfolding_all rfl)|exact Or.inl rfl|exact Or.inl trivial|exact okL_map _ (fun _=>rfl) _|(simp only[VVlen]<;>omega)|fail) only[O1,WA,slotsL,opdsA,Nat.reduceEqDiff,Nat.reduceLT,Nat.reduceAdd,Nat.reduceBEq,Int.reduceAdd,Int.reduceSub,Int.reduceLT,Int.reduceLE,Int.reduceEq,Int.reduceNeg,↓reduceIte,reduceCtorEq,List.replicate])|apply gC_drawW|((first|apply gI_dec|apply gG_dec|apply gPG_dec|apply gI_var|apply gG_var|apply gPG_var)<;>intro _))
 exact weak_flat rfl h0 rfl
theorem same19_p (nm:List UInt8) (sh tr:Int) (th td:List Int) (gw gh:Int) (B:List Bool) (wp wf:List Int) (nm':List UInt8) (sh' tr':Int) (th' td':List Int) (gw' gh':Int) (B':List Bool) (wp' wf':List Int) (h1:th.length≤140737488351232) (h2:td.length≤140737488351232) (hB:B.length≤140737488351232) (h1':th'.length≤140737488351232) (h2':td'.length≤140737488351232) (hB':B'.length≤140737488351232)
  (h3:wp.length≤140737488351232) (h4:wf.length≤140737488351232) (h3':wp'.length≤140737488351232) (h4':wf'.length≤140737488351232):
  VSpec (EN w (n+4)) 11 [flV nm sh tr th td gw gh B wp wf,flV nm' sh' tr' th' td' gw' gh' B' wp' wf'] (.sc (.bool (sameFl nm sh tr th td gw gh B wp wf nm' sh' tr' th' td' gw' gh' B' wp' wf'))) ⟨[],0,0⟩:=by
 refine vspec_flat rfl rfl (fun _ _=>rfl) (Nat.le_of_ble_eq_true rfl) (oldVals w) rfl fun C hC h0=>?_
 have e0:=same03_p w n sh tr th td gw gh B sh' tr' th' td' gw' gh' B' h1 h2 hB h1' h2' hB'
 have e1:=same02_p w (n+2) wp wp' h3 h3'
 have e2:=same02_p w (n+2) wf wf' h4 h4'
 unfold sameFl
 generalize sameD sh tr th td gw gh B sh' tr' th' td' gw' gh' B'=g at*
 generalize decide (wp=wp')=b1 at*
 generalize decide (wf=wf')=b2 at*
 by_cases q1:nm=nm'
 case neg=>
  rw[decide_eq_false q1]
  simp (disch:=first|omega|assumption|exact bd (by with_unfolding_all rfl)|exact Or.inl rfl|exact Or.inl trivial|exact okL_map _ (fun _=>rfl) _|(simp only[VVlen]<;>omega)|fail) only[O1,WA,slotsL,opdsA,Nat.reduceEqDiff,Nat.reduceLT,Nat.reduceAdd,Nat.reduceBEq,Int.reduceAdd,Int.reduceSub,Int.reduceLT,Int.reduceLE,Int.reduceEq,Int.reduceNeg,↓reduceIte,reduceCtorEq,List.replicate,c11,q1,eq_l,mk_inj]
  exact weak_flat rfl h0 rfl
 rw[decide_eq_true q1,Bool.true_and]
 simp (disch:=first|omega|assumption|exact bd (by with_unfolding_all rfl)|exact Or.inl rfl|exact Or.inl trivial|exact okL_map _ (fun _=>rfl) _|(simp only[VVlen]<;>omega)|fail) only[O1,WA,slotsL,opdsA,Nat.reduceEqDiff,Nat.reduceLT,Nat.reduceAdd,Nat.reduceBEq,Int.reduceAdd,Int.reduceSub,Int.reduceLT,Int.reduceLE,Int.reduceEq,Int.reduceNeg,↓reduceIte,reduceCtorEq,List.replicate,c11,q1,eq_l,mk_inj]
 refine callV_flat (by rw[hC];exact e0.flat rfl rfl) ?_
 cases g
 ·simp (disch:=first|omega|assumption|exact bd (by with_unfolding_all rfl)|exact Or.inl rfl|exact Or.inl trivial|exact okL_map _ (fun _=>rfl) _|(simp only[VVlen]<;>omega)|fail) only[O1,WA,slotsL,opdsA,Nat.reduceEqDiff,Nat.reduceLT,Nat.reduceAdd,Nat.reduceBEq,Int.reduceAdd,Int.reduceSub,Int.reduceLT,Int.reduceLE,Int.reduceEq,Int.reduceNeg,↓reduceIte,reduceCtorEq,List.replicate]
  exact weak_flat rfl h0 rfl
 simp (disch:=first|omega|assumption|exact bd (by with_unfolding_all rfl)|exact Or.inl rfl|exact Or.inl trivial|exact okL_map _ (fun _=>rfl) _|(simp only[VVlen]<;>omega)|fail) only[O1,WA,slotsL,opdsA,Nat.reduceEqDiff,Nat.reduceLT,Nat.reduceAdd,Nat.reduceBEq,Int.reduceAdd,Int.reduceSub,Int.reduceLT,Int.reduceLE,Int.reduceEq,Int.reduceNeg,↓reduceIte,reduceCtorEq,List.replicate]
 refine callV_flat (by rw[hC];exact e1.flat rfl rfl) ?_
 cases b1
 ·simp (disch:=first|omega|assumption|exact bd (by with_unfolding_all rfl)|exact Or.inl rfl|exact Or.inl trivial|exact okL_map _ (fun _=>rfl) _|(simp only[VVlen]<;>omega)|fail) only[O1,WA,slotsL,opdsA,Nat.reduceEqDiff,Nat.reduceLT,Nat.reduceAdd,Nat.reduceBEq,Int.reduceAdd,Int.reduceSub,Int.reduceLT,Int.reduceLE,Int.reduceEq,Int.reduceNeg,↓reduceIte,reduceCtorEq,List.replicate]
  exact weak_flat rfl h0 rfl
 simp (disch:=first|omega|assumption|exact bd (by with_unfolding_all rfl)|exact Or.inl rfl|exact Or.inl trivial|exact okL_map _ (fun _=>rfl) _|(simp only[VVlen]<;>omega)|fail) only[O1,WA,slotsL,opdsA,Nat.reduceEqDiff,Nat.reduceLT,Nat.reduceAdd,Nat.reduceBEq,Int.reduceAdd,Int.reduceSub,Int.reduceLT,Int.reduceLE,Int.reduceEq,Int.reduceNeg,↓reduceIte,reduceCtorEq,List.replicate]
 refine callV_flat (by rw[hC];exact e2.flat rfl rfl) ?_
 repeat' (first|(simp (disch:=first|omega|assumption|exact bd (by with_unfolding_all rfl)|exact Or.inl rfl|exact Or.inl trivial|exact okL_map _ (fun _=>rfl) _|(simp only[VVlen]<;>omega)|fail) only[O1,WA,slotsL,opdsA,Nat.reduceEqDiff,Nat.reduceLT,Nat.reduceAdd,Nat.reduceBEq,Int.reduceAdd,Int.reduceSub,Int.reduceLT,Int.reduceLE,Int.reduceEq,Int.reduceNeg,↓reduceIte,reduceCtorEq,List.replicate])|apply gC_drawW|((first|apply gI_dec|apply gG_dec|apply gPG_dec|apply gI_var|apply gG_var|apply gPG_var)<;>intro _))
 exact weak_flat rfl h0 rfl
end
theorem iD_sc (l:List Int):∀ d ∈ l.map iD,∃ x,d= .sc x:=fun d hd=>by
 obtain ⟨x,_,rfl⟩:=List.mem_map.1 hd
 exact ⟨_,rfl⟩
theorem oD_sc (l:List Bool):∀ d ∈ l.map oD,∃ x,d= .sc x:=fun d hd=>by
 obtain ⟨x,_,rfl⟩:=List.mem_map.1 hd
 exact ⟨_,rfl⟩
section
variable (w:World) (n:Nat)
theorem twin01_m (a b:Int) (B:List Bool) (hB:B.length≤5000):∃ f ob,OwnF f ob B.length (B.map oD)∧∀ st0:VSt,VSpecM (EN w (n+1)) 34 st0 [grV a b B] (.agg [iN a,iN b,f st0.next]) [ob]:=by
 by_cases hz:B.length=0
 ·have:B= []:=List.eq_nil_of_length_eq_zero hz
  subst this
  refine ⟨fun o=> .ref o 0 0 0,.row 4 1 false false [],OwnF.ref rfl (oD_sc []),fun st0=>vspecM_body (v0:= .agg [iN a,iN b,.ref 2 0 0 0]) rfl rfl (fun _ _=>rfl) (Nat.le_of_ble_eq_true rfl) rfl rfl fun C hC h0=>⟨?_,?_,?_⟩⟩
  rotate_left
  ·simp (disch:=first|omega|assumption|exact bd (by with_unfolding_all rfl)|exact Or.inl rfl|exact Or.inl trivial|exact okL_map _ (fun _=>rfl) _|(simp only[VVlen]<;>omega)|fail) only[O1,WA,slotsL,opdsA,Nat.reduceEqDiff,Nat.reduceLT,Nat.reduceAdd,Nat.reduceBEq,Int.reduceAdd,Int.reduceSub,Int.reduceLT,Int.reduceLE,Int.reduceEq,Int.reduceNeg,↓reduceIte,reduceCtorEq,List.replicate,c34,oD_dv]
   exact .refl _ _
  ·exact gc_agg3 (OwnF.ref (t:=4) (c:=0) (N:=0) (L:= []) rfl (oD_sc [])) (o1:=2) rfl (Nat.zero_le _) rfl rfl
 ·refine ⟨fun o=> .gr 2 o B.length,.gro 4 1 false (B.map oD),OwnF.gr hz (by rw[List.length_map]) (oD_sc B),fun st0=>vspecM_body (v0:= .agg [iN a,iN b,.gr 2 3 B.length]) rfl rfl (fun _ _=>rfl) (Nat.le_of_ble_eq_true rfl) rfl rfl fun C hC h0=>⟨?_,?_,?_⟩⟩
  rotate_left
  ·simp (disch:=first|omega|assumption|exact bd (by with_unfolding_all rfl)|exact Or.inl rfl|exact Or.inl trivial|exact okL_map _ (fun _=>rfl) _|(simp only[VVlen]<;>omega)|fail) only[O1,WA,slotsL,opdsA,Nat.reduceEqDiff,Nat.reduceLT,Nat.reduceAdd,Nat.reduceBEq,Int.reduceAdd,Int.reduceSub,Int.reduceLT,Int.reduceLE,Int.reduceEq,Int.reduceNeg,↓reduceIte,reduceCtorEq,List.replicate,c34,oD_dv]
   exact .refl _ _
  ·exact gc_agg3 (OwnF.gr (t:=4) hz (by rw[List.length_map]) (oD_sc B)) (o1:=3) rfl (Nat.zero_le _) rfl rfl
theorem twin03_m (sh tr:Int) (th td:List Int) (gw gh:Int) (B:List Bool) (h1:th.length≤5000) (h2:td.length≤5000) (hB:B.length≤5000):∃ f1 f2 f3 ob1 ob2 ob3,OwnF f1 ob1 th.length (th.map iD)∧OwnF f2 ob2 td.length (td.map iD)∧OwnF f3 ob3 B.length (B.map oD)∧
  ∀ st0:VSt,VSpecM (EN w (n+2)) 13 st0 [drV sh tr th td gw gh B] (.agg [iN sh,iN tr,f1 st0.next,f2 (st0.next+1),iN gw,iN gh,f3 (st0.next+2)]) [ob1,ob2,ob3]:=by
 obtain ⟨f,ob,hf,hm⟩:=twin01_m w n gw gh B hB
 have hva:∀ (a b c d e g h:V) (k:Nat),vfill [a,b,c,d,e,g,h] [(4,3,.agg [iN gw,iN gh,f k])]=some [a,b,c,d,iN gw,iN gh,f k]:=fun a b c d e g h k=>by
  rw[vfill_agg _ _ _ _ _ (by simp only[List.all_cons,List.all_nil,hf.one];rfl) rfl rfl]
  rfl
 have hso:∀ (st:VSt) (t e:Nat) (x y:V) (k:Nat) (a b c d e' g h:V),st.ro≤1→oneV x=true→oneV y=true→stO st 7 1 0 (.agg [iN sh,iN tr,x,y,iN gw,iN gh,f k]) (some (.box t e [a,b,c,d,e',g,h]))=some (.tup [],⟨aset st.own 1 (.box t e [iN sh,iN tr,x,y,iN gw,iN gh,f k]),st.next,st.ro⟩):=fun st t e x y k a b c d e' g h hro hx hy=>
  stO_boxN st 1 t e 7 _ _ hro (by simp only[List.all_cons,List.all_nil,hf.one,hx,hy];rfl) rfl rfl
 by_cases z1:th.length=0
 ·have:th= []:=List.eq_nil_of_length_eq_zero z1
  subst this
  by_cases z2:td.length=0
  ·have:td= []:=List.eq_nil_of_length_eq_zero z2
   subst this
   refine ⟨(fun o=> .ref o 0 0 0),(fun o=> .ref o 0 0 0),f,(.row 3 1 false false []),(.row 3 1 false false []),ob,(OwnF.ref (t:=3) (c:=0) (N:=0) (L:= []) rfl (iD_sc [])),(OwnF.ref (t:=3) (c:=0) (N:=0) (L:= []) rfl (iD_sc [])),hf,fun st0=>vspecM_body (v0:= .agg [iN sh,iN tr,.ref 2 0 0 0,.ref 3 0 0 0,iN gw,iN gh,f 4]) rfl rfl (fun _ _=>rfl) (Nat.le_of_ble_eq_true rfl) rfl rfl fun C hC h0=>⟨?_,?_,?_⟩⟩
   rotate_left
   ·simp (disch:=first|omega|assumption|exact bd (by with_unfolding_all rfl)|exact Or.inl rfl|exact Or.inl trivial|exact okL_map _ (fun _=>rfl) _|(simp only[VVlen]<;>omega)|fail) only[O1,WA,slotsL,opdsA,Nat.reduceEqDiff,Nat.reduceLT,Nat.reduceAdd,Nat.reduceBEq,Int.reduceAdd,Int.reduceSub,Int.reduceLT,Int.reduceLE,Int.reduceEq,Int.reduceNeg,↓reduceIte,reduceCtorEq,List.replicate,c13,oD_dv]
    refine callM_of (by rw[hC];exact hm _) ?_
    simp (disch:=first|omega|assumption|exact bd (by with_unfolding_all rfl)|exact Or.inl rfl|exact Or.inl trivial|exact okL_map _ (fun _=>rfl) _|(simp only[VVlen]<;>omega)|fail) only[O1,WA,slotsL,opdsA,Nat.reduceEqDiff,Nat.reduceLT,Nat.reduceAdd,Nat.reduceBEq,Int.reduceAdd,Int.reduceSub,Int.reduceLT,Int.reduceLE,Int.reduceEq,Int.reduceNeg,↓reduceIte,reduceCtorEq,List.replicate,hva,hso]
    exact .refl _ _
   ·exact gc_agg7 (OwnF.ref (t:=3) (c:=0) (N:=0) (L:= []) rfl (iD_sc [])) (OwnF.ref (t:=3) (c:=0) (N:=0) (L:= []) rfl (iD_sc [])) hf rfl rfl rfl (Nat.zero_le _) (Nat.zero_le _) (Nat.zero_le _) (by decide) (by decide) (by decide) rfl rfl rfl rfl
  ·refine ⟨(fun o=> .ref o 0 0 0),(fun o=> .gr 2 o td.length),f,(.row 3 1 false false []),(.gro 3 1 false (td.map iD)),ob,(OwnF.ref (t:=3) (c:=0) (N:=0) (L:= []) rfl (iD_sc [])),(OwnF.gr (t:=3) z2 (by rw[List.length_map]) (iD_sc td)),hf,fun st0=>vspecM_body (v0:= .agg [iN sh,iN tr,.ref 2 0 0 0,.gr 2 4 td.length,iN gw,iN gh,f 5]) rfl rfl (fun _ _=>rfl) (Nat.le_of_ble_eq_true rfl) rfl rfl fun C hC h0=>⟨?_,?_,?_⟩⟩
   rotate_left
   ·simp (disch:=first|omega|assumption|exact bd (by with_unfolding_all rfl)|exact Or.inl rfl|exact Or.inl trivial|exact okL_map _ (fun _=>rfl) _|(simp only[VVlen]<;>omega)|fail) only[O1,WA,slotsL,opdsA,Nat.reduceEqDiff,Nat.reduceLT,Nat.reduceAdd,Nat.reduceBEq,Int.reduceAdd,Int.reduceSub,Int.reduceLT,Int.reduceLE,Int.reduceEq,Int.reduceNeg,↓reduceIte,reduceCtorEq,List.replicate,c13,oD_dv]
    refine callM_of (by rw[hC];exact hm _) ?_
    simp (disch:=first|omega|assumption|exact bd (by with_unfolding_all rfl)|exact Or.inl rfl|exact Or.inl trivial|exact okL_map _ (fun _=>rfl) _|(simp only[VVlen]<;>omega)|fail) only[O1,WA,slotsL,opdsA,Nat.reduceEqDiff,Nat.reduceLT,Nat.reduceAdd,Nat.reduceBEq,Int.reduceAdd,Int.reduceSub,Int.reduceLT,Int.reduceLE,Int.reduceEq,Int.reduceNeg,↓reduceIte,reduceCtorEq,List.replicate,hva,hso]
    exact .refl _ _
   ·exact gc_agg7 (OwnF.ref (t:=3) (c:=0) (N:=0) (L:= []) rfl (iD_sc [])) (OwnF.gr (t:=3) z2 (by rw[List.length_map]) (iD_sc td)) hf rfl rfl rfl (Nat.zero_le _) (Nat.zero_le _) (Nat.zero_le _) (by decide) (by decide) (by decide) rfl rfl rfl rfl
 ·by_cases z2:td.length=0
  ·have:td= []:=List.eq_nil_of_length_eq_zero z2
   subst this
   refine ⟨(fun o=> .gr 2 o th.length),(fun o=> .ref o 0 0 0),f,(.gro 3 1 false (th.map iD)),(.row 3 1 false false []),ob,(OwnF.gr (t:=3) z1 (by rw[List.length_map]) (iD_sc th)),(OwnF.ref (t:=3) (c:=0) (N:=0) (L:= []) rfl (iD_sc [])),hf,fun st0=>vspecM_body (v0:= .agg [iN sh,iN tr,.gr 2 3 th.length,.ref 4 0 0 0,iN gw,iN gh,f 5]) rfl rfl (fun _ _=>rfl) (Nat.le_of_ble_eq_true rfl) rfl rfl fun C hC h0=>⟨?_,?_,?_⟩⟩
   rotate_left
   ·simp (disch:=first|omega|assumption|exact bd (by with_unfolding_all rfl)|exact Or.inl rfl|exact Or.inl trivial|exact okL_map _ (fun _=>rfl) _|(simp only[VVlen]<;>omega)|fail) only[O1,WA,slotsL,opdsA,Nat.reduceEqDiff,Nat.reduceLT,Nat.reduceAdd,Nat.reduceBEq,Int.reduceAdd,Int.reduceSub,Int.reduceLT,Int.reduceLE,Int.reduceEq,Int.reduceNeg,↓reduceIte,reduceCtorEq,List.replicate,c13,oD_dv]
    refine callM_of (by rw[hC];exact hm _) ?_
    simp (disch:=first|omega|assumption|exact bd (by with_unfolding_all rfl)|exact Or.inl rfl|exact Or.inl trivial|exact okL_map _ (fun _=>rfl) _|(simp only[VVlen]<;>omega)|fail) only[O1,WA,slotsL,opdsA,Nat.reduceEqDiff,Nat.reduceLT,Nat.reduceAdd,Nat.reduceBEq,Int.reduceAdd,Int.reduceSub,Int.reduceLT,Int.reduceLE,Int.reduceEq,Int.reduceNeg,↓reduceIte,reduceCtorEq,List.replicate,hva,hso]
    exact .refl _ _
   ·exact gc_agg7 (OwnF.gr (t:=3) z1 (by rw[List.length_map]) (iD_sc th)) (OwnF.ref (t:=3) (c:=0) (N:=0) (L:= []) rfl (iD_sc [])) hf rfl rfl rfl (Nat.zero_le _) (Nat.zero_le _) (Nat.zero_le _) (by decide) (by decide) (by decide) rfl rfl rfl rfl
  ·refine ⟨(fun o=> .gr 2 o th.length),(fun o=> .gr 2 o td.length),f,(.gro 3 1 false (th.map iD)),(.gro 3 1 false (td.map iD)),ob,(OwnF.gr (t:=3) z1 (by rw[List.length_map]) (iD_sc th)),(OwnF.gr (t:=3) z2 (by rw[List.length_map]) (iD_sc td)),hf,fun st0=>vspecM_body (v0:= .agg [iN sh,iN tr,.gr 2 3 th.length,.gr 2 5 td.length,iN gw,iN gh,f 6]) rfl rfl (fun _ _=>rfl) (Nat.le_of_ble_eq_true rfl) rfl rfl fun C hC h0=>⟨?_,?_,?_⟩⟩
   rotate_left
   ·simp (disch:=first|omega|assumption|exact bd (by with_unfolding_all rfl)|exact Or.inl rfl|exact Or.inl trivial|exact okL_map _ (fun _=>rfl) _|(simp only[VVlen]<;>omega)|fail) only[O1,WA,slotsL,opdsA,Nat.reduceEqDiff,Nat.reduceLT,Nat.reduceAdd,Nat.reduceBEq,Int.reduceAdd,Int.reduceSub,Int.reduceLT,Int.reduceLE,Int.reduceEq,Int.reduceNeg,↓reduceIte,reduceCtorEq,List.replicate,c13,oD_dv]
    refine callM_of (by rw[hC];exact hm _) ?_
    simp (disch:=first|omega|assumption|exact bd (by with_unfolding_all rfl)|exact Or.inl rfl|exact Or.inl trivial|exact okL_map _ (fun _=>rfl) _|(simp only[VVlen]<;>omega)|fail) only[O1,WA,slotsL,opdsA,Nat.reduceEqDiff,Nat.reduceLT,Nat.reduceAdd,Nat.reduceBEq,Int.reduceAdd,Int.reduceSub,Int.reduceLT,Int.reduceLE,Int.reduceEq,Int.reduceNeg,↓reduceIte,reduceCtorEq,List.replicate,hva,hso]
    exact .refl _ _
   ·exact gc_agg7 (OwnF.gr (t:=3) z1 (by rw[List.length_map]) (iD_sc th)) (OwnF.gr (t:=3) z2 (by rw[List.length_map]) (iD_sc td)) hf rfl rfl rfl (Nat.zero_le _) (Nat.zero_le _) (Nat.zero_le _) (by decide) (by decide) (by decide) rfl rfl rfl rfl
end
section
variable (w:World) (n:Nat)
theorem twin19_p (nm:List UInt8) (sh tr:Int) (th td:List Int) (gw gh:Int) (B:List Bool) (wp wf:List Int) (h1:th.length≤5000) (h2:td.length≤5000) (hB:B.length≤5000) (h3:wp.length≤5000) (h4:wf.length≤5000):
  VSpec (EN w (n+3)) 5 [flV nm sh tr th td gw gh B wp wf] (flV nm sh tr th td gw gh B wp wf) ⟨[],0,0⟩:=by
 obtain ⟨f1,f2,f3,ob1,ob2,ob3,hf1,hf2,hf3,hm⟩:=twin03_m w n sh tr th td gw gh B h1 h2 hB
 have hva:∀ (a c1 c2 c3 c4 c5 c6 c7 c8 c9 x y:V) (k1 k2 k3:Nat),oneV x=true→oneV y=true→vfill [a,c1,c2,c3,c4,c5,c6,c7,c8,c9] [(1,7,.agg [iN sh,iN tr,f1 k1,f2 k2,iN gw,iN gh,f3 k3]),(8,1,x),(9,1,y)]=some [a,iN sh,iN tr,f1 k1,f2 k2,iN gw,iN gh,f3 k3,x,y]:=fun a c1 c2 c3 c4 c5 c6 c7 c8 c9 x y k1 k2 k3 hx hy=>by
  rw[vfill_agg _ _ _ _ _ (by simp only[List.all_cons,List.all_nil,hf1.one,hf2.one,hf3.one];rfl) rfl rfl]
  rw[vfill_one _ _ _ _ hx (by simp[putAll]),vfill_one _ _ _ _ hy (by simp[putAll])]
  rfl
 have hso:∀ (st:VSt) (t e:Nat) (x y:V) (k1 k2 k3:Nat) (a c1 c2 c3 c4 c5 c6 c7 c8 c9:V),st.ro≤1→oneV x=true→oneV y=true→stO st 10 1 0 (.agg [strV nm,iN sh,iN tr,f1 k1,f2 k2,iN gw,iN gh,f3 k3,x,y]) (some (.box t e [a,c1,c2,c3,c4,c5,c6,c7,c8,c9]))=some (.tup [],⟨aset st.own 1 (.box t e [strV nm,iN sh,iN tr,f1 k1,f2 k2,iN gw,iN gh,f3 k3,x,y]),st.next,st.ro⟩):=fun st t e x y k1 k2 k3 a c1 c2 c3 c4 c5 c6 c7 c8 c9 hro hx hy=>
  stO_boxN st 1 t e 10 _ _ hro (by simp only[List.all_cons,List.all_nil,hf1.one,hf2.one,hf3.one,hx,hy];rfl) rfl rfl
 refine vspec_g rfl rfl (fun _ _=>rfl) (Nat.le_of_ble_eq_true rfl) (oldVals w) (retOK_nil (by simp only[Cl,ClL,and_true];exact ⟨trivial,trivial,trivial,rfl,rfl,trivial,trivial,rfl,rfl,rfl⟩)) rfl fun C hC h0=>?_
 by_cases z1:wp.length=0
 ·have:wp= []:=List.eq_nil_of_length_eq_zero z1
  subst this
  by_cases z2:wf.length=0
  ·have:wf= []:=List.eq_nil_of_length_eq_zero z2
   subst this
   simp (disch:=first|omega|assumption|exact bd (by with_unfolding_all rfl)|exact Or.inl rfl|exact Or.inl trivial|exact okL_map _ (fun _=>rfl) _|(simp only[VVlen]<;>omega)|fail) only[O1,WA,slotsL,opdsA,Nat.reduceEqDiff,Nat.reduceLT,Nat.reduceAdd,Nat.reduceBEq,Int.reduceAdd,Int.reduceSub,Int.reduceLT,Int.reduceLE,Int.reduceEq,Int.reduceNeg,↓reduceIte,reduceCtorEq,List.replicate,c5,oD_dv]
   refine callM_of (by rw[hC];exact hm _) ?_
   simp (disch:=first|omega|assumption|exact bd (by with_unfolding_all rfl)|exact Or.inl rfl|exact Or.inl trivial|exact okL_map _ (fun _=>rfl) _|(simp only[VVlen]<;>omega)|fail) only[O1,WA,slotsL,opdsA,Nat.reduceEqDiff,Nat.reduceLT,Nat.reduceAdd,Nat.reduceBEq,Int.reduceAdd,Int.reduceSub,Int.reduceLT,Int.reduceLE,Int.reduceEq,Int.reduceNeg,↓reduceIte,reduceCtorEq,List.replicate,hva,hso]
   exact fin10 (f4:=fun o=> .ref o 0 0 0) (o4:=5) (f5:=fun o=> .ref o 0 0 0) (o5:=6) hf1 hf2 hf3 (OwnF.ref (t:=3) (c:=0) (N:=0) (L:= []) rfl (iD_sc [])) (OwnF.ref (t:=3) (c:=0) (N:=0) (L:= []) rfl (iD_sc [])) rfl rfl rfl rfl rfl h0 rfl
  ·simp (disch:=first|omega|assumption|exact bd (by with_unfolding_all rfl)|exact Or.inl rfl|exact Or.inl trivial|exact okL_map _ (fun _=>rfl) _|(simp only[VVlen]<;>omega)|fail) only[O1,WA,slotsL,opdsA,Nat.reduceEqDiff,Nat.reduceLT,Nat.reduceAdd,Nat.reduceBEq,Int.reduceAdd,Int.reduceSub,Int.reduceLT,Int.reduceLE,Int.reduceEq,Int.reduceNeg,↓reduceIte,reduceCtorEq,List.replicate,c5,oD_dv]
   refine callM_of (by rw[hC];exact hm _) ?_
   simp (disch:=first|omega|assumption|exact bd (by with_unfolding_all rfl)|exact Or.inl rfl|exact Or.inl trivial|exact okL_map _ (fun _=>rfl) _|(simp only[VVlen]<;>omega)|fail) only[O1,WA,slotsL,opdsA,Nat.reduceEqDiff,Nat.reduceLT,Nat.reduceAdd,Nat.reduceBEq,Int.reduceAdd,Int.reduceSub,Int.reduceLT,Int.reduceLE,Int.reduceEq,Int.reduceNeg,↓reduceIte,reduceCtorEq,List.replicate,hva,hso]
   exact fin10 (f4:=fun o=> .ref o 0 0 0) (o4:=5) (f5:=fun o=> .gr 2 o wf.length) (o5:=7) hf1 hf2 hf3 (OwnF.ref (t:=3) (c:=0) (N:=0) (L:= []) rfl (iD_sc [])) (OwnF.gr (t:=3) z2 (by rw[List.length_map]) (iD_sc wf)) rfl rfl rfl rfl rfl h0 rfl
 ·by_cases z2:wf.length=0
  ·have:wf= []:=List.eq_nil_of_length_eq_zero z2
   subst this
   simp (disch:=first|omega|assumption|exact bd (by with_unfolding_all rfl)|exact Or.inl rfl|exact Or.inl trivial|exact okL_map _ (fun _=>rfl) _|(simp only[VVlen]<;>omega)|fail) only[O1,WA,slotsL,opdsA,Nat.reduceEqDiff,Nat.reduceLT,Nat.reduceAdd,Nat.reduceBEq,Int.reduceAdd,Int.reduceSub,Int.reduceLT,Int.reduceLE,Int.reduceEq,Int.reduceNeg,↓reduceIte,reduceCtorEq,List.replicate,c5,oD_dv]
   refine callM_of (by rw[hC];exact hm _) ?_
   simp (disch:=first|omega|assumption|exact bd (by with_unfolding_all rfl)|exact Or.inl rfl|exact Or.inl trivial|exact okL_map _ (fun _=>rfl) _|(simp only[VVlen]<;>omega)|fail) only[O1,WA,slotsL,opdsA,Nat.reduceEqDiff,Nat.reduceLT,Nat.reduceAdd,Nat.reduceBEq,Int.reduceAdd,Int.reduceSub,Int.reduceLT,Int.reduceLE,Int.reduceEq,Int.reduceNeg,↓reduceIte,reduceCtorEq,List.replicate,hva,hso]
   exact fin10 (f4:=fun o=> .gr 2 o wp.length) (o4:=6) (f5:=fun o=> .ref o 0 0 0) (o5:=7) hf1 hf2 hf3 (OwnF.gr (t:=3) z1 (by rw[List.length_map]) (iD_sc wp)) (OwnF.ref (t:=3) (c:=0) (N:=0) (L:= []) rfl (iD_sc [])) rfl rfl rfl rfl rfl h0 rfl
  ·simp (disch:=first|omega|assumption|exact bd (by with_unfolding_all rfl)|exact Or.inl rfl|exact Or.inl trivial|exact okL_map _ (fun _=>rfl) _|(simp only[VVlen]<;>omega)|fail) only[O1,WA,slotsL,opdsA,Nat.reduceEqDiff,Nat.reduceLT,Nat.reduceAdd,Nat.reduceBEq,Int.reduceAdd,Int.reduceSub,Int.reduceLT,Int.reduceLE,Int.reduceEq,Int.reduceNeg,↓reduceIte,reduceCtorEq,List.replicate,c5,oD_dv]
   refine callM_of (by rw[hC];exact hm _) ?_
   simp (disch:=first|omega|assumption|exact bd (by with_unfolding_all rfl)|exact Or.inl rfl|exact Or.inl trivial|exact okL_map _ (fun _=>rfl) _|(simp only[VVlen]<;>omega)|fail) only[O1,WA,slotsL,opdsA,Nat.reduceEqDiff,Nat.reduceLT,Nat.reduceAdd,Nat.reduceBEq,Int.reduceAdd,Int.reduceSub,Int.reduceLT,Int.reduceLE,Int.reduceEq,Int.reduceNeg,↓reduceIte,reduceCtorEq,List.replicate,hva,hso]
   exact fin10 (f4:=fun o=> .gr 2 o wp.length) (o4:=6) (f5:=fun o=> .gr 2 o wf.length) (o5:=8) hf1 hf2 hf3 (OwnF.gr (t:=3) z1 (by rw[List.length_map]) (iD_sc wp)) (OwnF.gr (t:=3) z2 (by rw[List.length_map]) (iD_sc wf)) rfl rfl rfl rfl rfl h0 rfl
end
def mnF (l:List Int):Nat→Int
 |0=>l[0]!
 |k+1=>min (mnF l k) l[k]!
def mxF (l:List Int):Nat→Int
 |0=>l[0]!
 |k+1=>max (mxF l k) l[k]!
theorem mnF_ge (l:List Int) (z:Int):∀ k,0<k→(z≤mnF l k↔∀ j,j<k→z≤l[j]!)
 |0,h=>absurd h (Nat.lt_irrefl _)
 |1,_=>by
  simp only[mnF]
  refine ⟨fun h j hj=>?_,fun h=>?_⟩
  ·have:j=0:=by omega
   subst this;omega
  ·have:=h 0 (by omega);omega
 |k+2,_=>by
  rw[mnF]
  have ih:=mnF_ge l z (k+1) (by omega)
  refine ⟨fun h j hj=>?_,fun h=>?_⟩
  ·rcases Nat.lt_succ_iff_lt_or_eq.1 hj with h2|h2
   ·exact ih.1 (by omega) j h2
   ·subst h2;omega
  ·have h1:=ih.2 fun j hj=>h j (by omega)
   have h2:=h (k+1) (by omega)
   omega
theorem mxF_lt (l:List Int) (z:Int):∀ k,0<k→(mxF l k<z↔∀ j,j<k→l[j]! <z)
 |0,h=>absurd h (Nat.lt_irrefl _)
 |1,_=>by
  simp only[mxF]
  refine ⟨fun h j hj=>?_,fun h=>?_⟩
  ·have:j=0:=by omega
   subst this;omega
  ·have:=h 0 (by omega);omega
 |k+2,_=>by
  rw[mxF]
  have ih:=mxF_lt l z (k+1) (by omega)
  refine ⟨fun h j hj=>?_,fun h=>?_⟩
  ·rcases Nat.lt_succ_iff_lt_or_eq.1 hj with h2|h2
   ·exact ih.1 (by omega) j h2
   ·subst h2;omega
  ·have h1:=ih.2 fun j hj=>h j (by omega)
   have h2:=h (k+1) (by omega)
   omega
def wi (l:List Int) (n:Int):Bool:=l.all (inN n) && decide (0<l.length)
theorem wi_iff {l:List Int} {n:Int}:wi l n=true↔(∀ j,j<l.length→0≤l[j]! ∧l[j]! <n)∧0<l.length:=by
 unfold wi
 rw[Bool.and_eq_true,decide_eq_true_eq,List.all_eq_true]
 refine and_congr_left fun _=>⟨fun h j hj=>?_,fun h x hx=>?_⟩
 ·have:=h l[j]! (by rw[getElem!_pos l j hj];exact List.getElem_mem hj)
  simpa [inN] using this
 ·obtain ⟨j,hj,rfl⟩:=List.mem_iff_getElem.1 hx
  have:=h j hj
  rw[getElem!_pos l j hj] at this
  simpa [inN] using this
section
variable (w:World) (n:Nat)
theorem min_p (l:List Int) (hl:l.length≤140737488351232) (h0:0<l.length):VSpec (EN w (n+1)) 52 [iS l] (iN (mnF l l.length)) ⟨[],0,0⟩:=by
 refine vspec_flat rfl rfl (fun _ _=>rfl) (Nat.le_of_ble_eq_true rfl) (oldVals w) rfl fun C hC hn0=>?_
 have e1:mnF l 1=l[0]! :=by rw[mnF,mnF];omega
 simp (disch:=first|omega|assumption|exact bd (by with_unfolding_all rfl)|exact Or.inl rfl|exact Or.inl trivial|exact okL_map _ (fun _=>rfl) _|(simp only[VVlen]<;>omega)|fail) only[O1,WA,slotsL,opdsA,Nat.reduceEqDiff,Nat.reduceLT,Nat.reduceAdd,Nat.reduceBEq,Int.reduceAdd,Int.reduceSub,Int.reduceLT,Int.reduceLE,Int.reduceEq,Int.reduceNeg,↓reduceIte,reduceCtorEq,List.replicate,c52,iD_dv]
 all_goals try (exfalso;omega)
 refine g_while (fun m fr st=>∃ k:Nat,m=l.length+1 - k∧1≤k∧k≤l.length∧fr= [(0,iS l),(3,iN (mnF l k)),(4,iN k)]∧st=⟨[],0,0⟩) l.length ?_ ⟨_,_,.refl _ _,1,by omega,by omega,h0,by rw[e1];rfl,rfl⟩ ?_
 ·rw[hC,callP_rounds];unfold many;omega
 rintro m fr st ⟨k,rfl,hk1,hk,rfl,rfl⟩
 by_cases hlt:k<l.length
 ·have e2:mnF l (k+1)=min (mnF l k) l[k]! :=rfl
  simp (disch:=first|omega|assumption|exact bd (by with_unfolding_all rfl)|exact Or.inl rfl|exact Or.inl trivial|exact okL_map _ (fun _=>rfl) _|(simp only[VVlen]<;>omega)|fail) only[O1,WA,slotsL,opdsA,Nat.reduceEqDiff,Nat.reduceLT,Nat.reduceAdd,Nat.reduceBEq,Int.reduceAdd,Int.reduceSub,Int.reduceLT,Int.reduceLE,Int.reduceEq,Int.reduceNeg,↓reduceIte,reduceCtorEq,List.replicate,c52l0,iD_dv]
  all_goals try (exfalso;omega)
  exact ⟨_,_,_,by omega,.refl _ _,k+1,rfl,by omega,hlt,by rw[e2];rfl,rfl⟩
 ·have:k=l.length:=by omega
  subst this
  simp (disch:=first|omega|assumption|exact bd (by with_unfolding_all rfl)|exact Or.inl rfl|exact Or.inl trivial|exact okL_map _ (fun _=>rfl) _|(simp only[VVlen]<;>omega)|fail) only[O1,WA,slotsL,opdsA,Nat.reduceEqDiff,Nat.reduceLT,Nat.reduceAdd,Nat.reduceBEq,Int.reduceAdd,Int.reduceSub,Int.reduceLT,Int.reduceLE,Int.reduceEq,Int.reduceNeg,↓reduceIte,reduceCtorEq,List.replicate,c52l0,iD_dv]
  all_goals try (exfalso;omega)
  exact weak_flat rfl hn0 rfl
theorem max_p (l:List Int) (hl:l.length≤140737488351232) (h0:0<l.length):VSpec (EN w (n+1)) 53 [iS l] (iN (mxF l l.length)) ⟨[],0,0⟩:=by
 refine vspec_flat rfl rfl (fun _ _=>rfl) (Nat.le_of_ble_eq_true rfl) (oldVals w) rfl fun C hC hn0=>?_
 have e1:mxF l 1=l[0]! :=by rw[mxF,mxF];omega
 simp (disch:=first|omega|assumption|exact bd (by with_unfolding_all rfl)|exact Or.inl rfl|exact Or.inl trivial|exact okL_map _ (fun _=>rfl) _|(simp only[VVlen]<;>omega)|fail) only[O1,WA,slotsL,opdsA,Nat.reduceEqDiff,Nat.reduceLT,Nat.reduceAdd,Nat.reduceBEq,Int.reduceAdd,Int.reduceSub,Int.reduceLT,Int.reduceLE,Int.reduceEq,Int.reduceNeg,↓reduceIte,reduceCtorEq,List.replicate,c53,iD_dv]
 all_goals try (exfalso;omega)
 refine g_while (fun m fr st=>∃ k:Nat,m=l.length+1 - k∧1≤k∧k≤l.length∧fr= [(0,iS l),(3,iN (mxF l k)),(4,iN k)]∧st=⟨[],0,0⟩) l.length ?_ ⟨_,_,.refl _ _,1,by omega,by omega,h0,by rw[e1];rfl,rfl⟩ ?_
 ·rw[hC,callP_rounds];unfold many;omega
 rintro m fr st ⟨k,rfl,hk1,hk,rfl,rfl⟩
 by_cases hlt:k<l.length
 ·have e2:mxF l (k+1)=max (mxF l k) l[k]! :=rfl
  simp (disch:=first|omega|assumption|exact bd (by with_unfolding_all rfl)|exact Or.inl rfl|exact Or.inl trivial|exact okL_map _ (fun _=>rfl) _|(simp only[VVlen]<;>omega)|fail) only[O1,WA,slotsL,opdsA,Nat.reduceEqDiff,Nat.reduceLT,Nat.reduceAdd,Nat.reduceBEq,Int.reduceAdd,Int.reduceSub,Int.reduceLT,Int.reduceLE,Int.reduceEq,Int.reduceNeg,↓reduceIte,reduceCtorEq,List.replicate,c53l0,iD_dv]
  all_goals try (exfalso;omega)
  exact ⟨_,_,_,by omega,.refl _ _,k+1,rfl,by omega,hlt,by rw[e2];rfl,rfl⟩
 ·have:k=l.length:=by omega
  subst this
  simp (disch:=first|omega|assumption|exact bd (by with_unfolding_all rfl)|exact Or.inl rfl|exact Or.inl trivial|exact okL_map _ (fun _=>rfl) _|(simp only[VVlen]<;>omega)|fail) only[O1,WA,slotsL,opdsA,Nat.reduceEqDiff,Nat.reduceLT,Nat.reduceAdd,Nat.reduceBEq,Int.reduceAdd,Int.reduceSub,Int.reduceLT,Int.reduceLE,Int.reduceEq,Int.reduceNeg,↓reduceIte,reduceCtorEq,List.replicate,c53l0,iD_dv]
  all_goals try (exfalso;omega)
  exact weak_flat rfl hn0 rfl
theorem dwithin_p (l:List Int) (m:Int) (hl:l.length≤140737488351232):VSpec (EN w (n+2)) 40 [iS l,iN m] (.sc (.bool (wi l m))) ⟨[],0,0⟩:=by
 refine vspec_flat rfl rfl (fun _ _=>rfl) (Nat.le_of_ble_eq_true rfl) (oldVals w) rfl fun C hC h0=>?_
 by_cases hz:l.length=0
 ·have:l= []:=List.eq_nil_of_length_eq_zero hz
  subst this
  simp (disch:=first|omega|assumption|exact bd (by with_unfolding_all rfl)|exact Or.inl rfl|exact Or.inl trivial|exact okL_map _ (fun _=>rfl) _|(simp only[VVlen]<;>omega)|fail) only[O1,WA,slotsL,opdsA,Nat.reduceEqDiff,Nat.reduceLT,Nat.reduceAdd,Nat.reduceBEq,Int.reduceAdd,Int.reduceSub,Int.reduceLT,Int.reduceLE,Int.reduceEq,Int.reduceNeg,↓reduceIte,reduceCtorEq,List.replicate,c40]
  exact weak_flat rfl h0 rfl
 have hmn:=min_p w n l hl (by omega)
 have hmx:=max_p w n l hl (by omega)
 have g1:=mnF_ge l 0 l.length (by omega)
 have g2:=mxF_lt l m l.length (by omega)
 generalize mnF l l.length=a at*
 generalize mxF l l.length=b at*
 by_cases q1:0≤a
 case neg=>
  have hw:wi l m=false:=by
   rw[Bool.eq_false_iff]
   exact fun h=>q1 (g1.2 fun j hj=>((wi_iff.1 h).1 j hj).1)
  rw[hw]
  simp (disch:=first|omega|assumption|exact bd (by with_unfolding_all rfl)|exact Or.inl rfl|exact Or.inl trivial|exact okL_map _ (fun _=>rfl) _|(simp only[VVlen]<;>omega)|fail) only[O1,WA,slotsL,opdsA,Nat.reduceEqDiff,Nat.reduceLT,Nat.reduceAdd,Nat.reduceBEq,Int.reduceAdd,Int.reduceSub,Int.reduceLT,Int.reduceLE,Int.reduceEq,Int.reduceNeg,↓reduceIte,reduceCtorEq,List.replicate,c40]
  all_goals try (exfalso;omega)
  refine callV_flat (by rw[hC];exact hmn.flat rfl rfl) ?_
  simp (disch:=first|omega|assumption|exact bd (by with_unfolding_all rfl)|exact Or.inl rfl|exact Or.inl trivial|exact okL_map _ (fun _=>rfl) _|(simp only[VVlen]<;>omega)|fail) only[O1,WA,slotsL,opdsA,Nat.reduceEqDiff,Nat.reduceLT,Nat.reduceAdd,Nat.reduceBEq,Int.reduceAdd,Int.reduceSub,Int.reduceLT,Int.reduceLE,Int.reduceEq,Int.reduceNeg,↓reduceIte,reduceCtorEq,List.replicate]
  all_goals try (exfalso;omega)
  exact weak_flat rfl h0 rfl
 have hw:wi l m=decide (b<m):=by
  rw[Bool.eq_iff_iff,wi_iff,decide_eq_true_eq]
  exact ⟨fun h=>g2.2 fun j hj=>(h.1 j hj).2,fun h=>⟨fun j hj=>⟨g1.1 q1 j hj,g2.1 h j hj⟩,by omega⟩⟩
 rw[hw]
 simp (disch:=first|omega|assumption|exact bd (by with_unfolding_all rfl)|exact Or.inl rfl|exact Or.inl trivial|exact okL_map _ (fun _=>rfl) _|(simp only[VVlen]<;>omega)|fail) only[O1,WA,slotsL,opdsA,Nat.reduceEqDiff,Nat.reduceLT,Nat.reduceAdd,Nat.reduceBEq,Int.reduceAdd,Int.reduceSub,Int.reduceLT,Int.reduceLE,Int.reduceEq,Int.reduceNeg,↓reduceIte,reduceCtorEq,List.replicate,c40]
 all_goals try (exfalso;omega)
 refine callV_flat (by rw[hC];exact hmn.flat rfl rfl) ?_
 simp (disch:=first|omega|assumption|exact bd (by with_unfolding_all rfl)|exact Or.inl rfl|exact Or.inl trivial|exact okL_map _ (fun _=>rfl) _|(simp only[VVlen]<;>omega)|fail) only[O1,WA,slotsL,opdsA,Nat.reduceEqDiff,Nat.reduceLT,Nat.reduceAdd,Nat.reduceBEq,Int.reduceAdd,Int.reduceSub,Int.reduceLT,Int.reduceLE,Int.reduceEq,Int.reduceNeg,↓reduceIte,reduceCtorEq,List.replicate]
 all_goals try (exfalso;omega)
 refine callV_flat (by rw[hC];exact hmx.flat rfl rfl) ?_
 simp (disch:=first|omega|assumption|exact bd (by with_unfolding_all rfl)|exact Or.inl rfl|exact Or.inl trivial|exact okL_map _ (fun _=>rfl) _|(simp only[VVlen]<;>omega)|fail) only[O1,WA,slotsL,opdsA,Nat.reduceEqDiff,Nat.reduceLT,Nat.reduceAdd,Nat.reduceBEq,Int.reduceAdd,Int.reduceSub,Int.reduceLT,Int.reduceLE,Int.reduceEq,Int.reduceNeg,↓reduceIte,reduceCtorEq,List.replicate]
 all_goals try (exfalso;omega)
 exact weak_flat rfl h0 rfl
theorem within03_p (l:List Int) (m:Int) (hl:l.length≤140737488351232):VSpec (EN w (n+1)) 44 [iS l,iN m] (.sc (.bool (wi l m))) ⟨[],0,0⟩:=by
 refine vspec_flat rfl rfl (fun _ _=>rfl) (Nat.le_of_ble_eq_true rfl) (oldVals w) rfl fun C hC h0=>?_
 simp (disch:=first|omega|assumption|exact bd (by with_unfolding_all rfl)|exact Or.inl rfl|exact Or.inl trivial|exact okL_map _ (fun _=>rfl) _|(simp only[VVlen]<;>omega)|fail) only[O1,WA,slotsL,opdsA,Nat.reduceEqDiff,Nat.reduceLT,Nat.reduceAdd,Nat.reduceBEq,Int.reduceAdd,Int.reduceSub,Int.reduceLT,Int.reduceLE,Int.reduceEq,Int.reduceNeg,↓reduceIte,reduceCtorEq,List.replicate,c44]
 refine g_while (fun m' fr st=>∃ k:Nat,m'=l.length - k∧k≤l.length∧(l.take k).all (inN m)=true∧fr= [(0,iS l),(1,iN m),(5,iN k)]∧st=⟨[],0,0⟩) l.length ?_ ⟨_,_,.refl _ _,0,by omega,by omega,rfl,rfl,rfl⟩ ?_
 ·rw[hC,callP_rounds];unfold many;omega
 rintro m' fr st ⟨k,rfl,hk,ha,rfl,rfl⟩
 by_cases hlt:k<l.length
 ·by_cases hq:0≤l[k]! ∧l[k]! <m
  ·have hn:=take_all_succ (p:=inN m) hlt ha (by simpa [inN] using hq)
   simp (disch:=first|omega|assumption|exact bd (by with_unfolding_all rfl)|exact Or.inl rfl|exact Or.inl trivial|exact okL_map _ (fun _=>rfl) _|(simp only[VVlen]<;>omega)|fail) only[O1,WA,slotsL,opdsA,Nat.reduceEqDiff,Nat.reduceLT,Nat.reduceAdd,Nat.reduceBEq,Int.reduceAdd,Int.reduceSub,Int.reduceLT,Int.reduceLE,Int.reduceEq,Int.reduceNeg,↓reduceIte,reduceCtorEq,List.replicate,c44l0,iD_dv]
   all_goals try (exfalso;omega)
   exact ⟨_,_,_,by omega,.refl _ _,k+1,rfl,hlt,hn,rfl,rfl⟩
  ·have hw:wi l m=false:=by
    unfold wi
    rw[all_not (p:=inN m) hlt (by simpa [inN] using hq)];rfl
   rw[hw]
   repeat' (first|(simp (disch:=first|omega|assumption|exact bd (by with_unfolding_all rfl)|exact Or.inl rfl|exact Or.inl trivial|exact okL_map _ (fun _=>rfl) _|(simp only[VVlen]<;>omega)|fail) only[O1,WA,slotsL,opdsA,Nat.reduceEqDiff,Nat.reduceLT,Nat.reduceAdd,Nat.reduceBEq,Int.reduceAdd,Int.reduceSub,Int.reduceLT,Int.reduceLE,Int.reduceEq,Int.reduceNeg,↓reduceIte,reduceCtorEq,List.replicate,c44l0,iD_dv])|(apply gG_dec<;>intro _))
   all_goals first|(exfalso;omega)|exact weak_flat rfl h0 rfl
 ·have:k=l.length:=by omega
  subst this
  have hw:wi l m=decide (0<l.length):=by
   unfold wi
   rw[take_all_end ha,Bool.true_and]
  rw[hw]
  by_cases hz:0<l.length
  ·rw[decide_eq_true hz]
   simp (disch:=first|omega|assumption|exact bd (by with_unfolding_all rfl)|exact Or.inl rfl|exact Or.inl trivial|exact okL_map _ (fun _=>rfl) _|(simp only[VVlen]<;>omega)|fail) only[O1,WA,slotsL,opdsA,Nat.reduceEqDiff,Nat.reduceLT,Nat.reduceAdd,Nat.reduceBEq,Int.reduceAdd,Int.reduceSub,Int.reduceLT,Int.reduceLE,Int.reduceEq,Int.reduceNeg,↓reduceIte,reduceCtorEq,List.replicate,c44l0,iD_dv]
   all_goals try (exfalso;omega)
   exact weak_flat rfl h0 rfl
  ·rw[decide_eq_false hz]
   simp (disch:=first|omega|assumption|exact bd (by with_unfolding_all rfl)|exact Or.inl rfl|exact Or.inl trivial|exact okL_map _ (fun _=>rfl) _|(simp only[VVlen]<;>omega)|fail) only[O1,WA,slotsL,opdsA,Nat.reduceEqDiff,Nat.reduceLT,Nat.reduceAdd,Nat.reduceBEq,Int.reduceAdd,Int.reduceSub,Int.reduceLT,Int.reduceLE,Int.reduceEq,Int.reduceNeg,↓reduceIte,reduceCtorEq,List.replicate,c44l0,iD_dv]
   all_goals try (exfalso;omega)
   exact weak_flat rfl h0 rfl
end
def chkD (sh tr:Int) (th td:List Int) (gw gh:Int) (B:List Bool):Int:=
 if 40<sh∨40<tr∨64<th.length∨64<td.length then 4 else if wi th sh=true∧wi td tr=true∧chkG gw gh B.length=0∧gw=tr∧gh=sh then 0 else 8
theorem wi_pos {l:List Int} {z:Int} (h:wi l z=true):1≤z:=by
 have:=(wi_iff.1 h).1 0 (wi_iff.1 h).2
 omega
section
variable (w:World) (n:Nat)
theorem check01_p (a b:Int) (B:List Bool) (_hB:B.length≤140737488351232):VSpec (EN w (n+1)) 45 [grV a b B] (iN (chkG a b B.length)) ⟨[],0,0⟩:=by
 refine vspec_flat rfl rfl (fun _ _=>rfl) (Nat.le_of_ble_eq_true rfl) (oldVals w) rfl fun C hC h0=>?_
 by_cases h1:64<a
 ·have e:chkG a b B.length=4:=if_pos (Or.inl h1)
  rw[e]
  simp (disch:=first|omega|assumption|exact bd (by with_unfolding_all rfl)|exact Or.inl rfl|exact Or.inl trivial|exact okL_map _ (fun _=>rfl) _|(simp only[VVlen]<;>omega)|fail) only[O1,WA,slotsL,opdsA,Nat.reduceEqDiff,Nat.reduceLT,Nat.reduceAdd,Nat.reduceBEq,Int.reduceAdd,Int.reduceSub,Int.reduceLT,Int.reduceLE,Int.reduceEq,Int.reduceNeg,↓reduceIte,reduceCtorEq,List.replicate,c45]
  exact weak_flat rfl h0 rfl
 by_cases h2:64<b
 ·have e:chkG a b B.length=4:=if_pos (Or.inr h2)
  rw[e]
  simp (disch:=first|omega|assumption|exact bd (by with_unfolding_all rfl)|exact Or.inl rfl|exact Or.inl trivial|exact okL_map _ (fun _=>rfl) _|(simp only[VVlen]<;>omega)|fail) only[O1,WA,slotsL,opdsA,Nat.reduceEqDiff,Nat.reduceLT,Nat.reduceAdd,Nat.reduceBEq,Int.reduceAdd,Int.reduceSub,Int.reduceLT,Int.reduceLE,Int.reduceEq,Int.reduceNeg,↓reduceIte,reduceCtorEq,List.replicate,c45]
  exact weak_flat rfl h0 rfl
 by_cases h3:a<1
 ·have e:chkG a b B.length=8:=by unfold chkG;rw[if_neg (by omega),if_pos (Or.inl h3)]
  rw[e]
  simp (disch:=first|omega|assumption|exact bd (by with_unfolding_all rfl)|exact Or.inl rfl|exact Or.inl trivial|exact okL_map _ (fun _=>rfl) _|(simp only[VVlen]<;>omega)|fail) only[O1,WA,slotsL,opdsA,Nat.reduceEqDiff,Nat.reduceLT,Nat.reduceAdd,Nat.reduceBEq,Int.reduceAdd,Int.reduceSub,Int.reduceLT,Int.reduceLE,Int.reduceEq,Int.reduceNeg,↓reduceIte,reduceCtorEq,List.replicate,c45]
  exact weak_flat rfl h0 rfl
 by_cases h4:b<1
 ·have e:chkG a b B.length=8:=by unfold chkG;rw[if_neg (by omega),if_pos (Or.inr h4)]
  rw[e]
  simp (disch:=first|omega|assumption|exact bd (by with_unfolding_all rfl)|exact Or.inl rfl|exact Or.inl trivial|exact okL_map _ (fun _=>rfl) _|(simp only[VVlen]<;>omega)|fail) only[O1,WA,slotsL,opdsA,Nat.reduceEqDiff,Nat.reduceLT,Nat.reduceAdd,Nat.reduceBEq,Int.reduceAdd,Int.reduceSub,Int.reduceLT,Int.reduceLE,Int.reduceEq,Int.reduceNeg,↓reduceIte,reduceCtorEq,List.replicate,c45]
  exact weak_flat rfl h0 rfl
 have hp:=prod_le (a:=a) (b:=b) (by omega) (by omega) (by omega) (by omega)
 have e:chkG a b B.length=if (B.length:Int)=a*b then 0 else 8:=by unfold chkG;rw[if_neg (by omega),if_neg (by omega)]
 rw[e]
 by_cases h5:(B.length:Int)=a*b
 ·rw[if_pos h5]
  simp (disch:=first|omega|assumption|exact bd (by with_unfolding_all rfl)|exact Or.inl rfl|exact Or.inl trivial|exact okL_map _ (fun _=>rfl) _|(simp only[VVlen]<;>omega)|fail) only[O1,WA,slotsL,opdsA,Nat.reduceEqDiff,Nat.reduceLT,Nat.reduceAdd,Nat.reduceBEq,Int.reduceAdd,Int.reduceSub,Int.reduceLT,Int.reduceLE,Int.reduceEq,Int.reduceNeg,↓reduceIte,reduceCtorEq,List.replicate,c45]
  exact weak_flat rfl h0 rfl
 ·rw[if_neg h5]
  simp (disch:=first|omega|assumption|exact bd (by with_unfolding_all rfl)|exact Or.inl rfl|exact Or.inl trivial|exact okL_map _ (fun _=>rfl) _|(simp only[VVlen]<;>omega)|fail) only[O1,WA,slotsL,opdsA,Nat.reduceEqDiff,Nat.reduceLT,Nat.reduceAdd,Nat.reduceBEq,Int.reduceAdd,Int.reduceSub,Int.reduceLT,Int.reduceLE,Int.reduceEq,Int.reduceNeg,↓reduceIte,reduceCtorEq,List.replicate,c45]
  exact weak_flat rfl h0 rfl
theorem gcheck_p (a b:Int) (B:List Bool) (_hB:B.length≤140737488351232):VSpec (EN w (n+1)) 41 [grV a b B] (iN (chkG a b B.length)) ⟨[],0,0⟩:=by
 refine vspec_flat rfl rfl (fun _ _=>rfl) (Nat.le_of_ble_eq_true rfl) (oldVals w) rfl fun C hC h0=>?_
 by_cases h1:64<a∨64<b
 ·have e:chkG a b B.length=4:=if_pos h1
  rw[e]
  simp (disch:=first|omega|assumption|exact bd (by with_unfolding_all rfl)|exact Or.inl rfl|exact Or.inl trivial|exact okL_map _ (fun _=>rfl) _|(simp only[VVlen]<;>omega)|fail) only[O1,WA,slotsL,opdsA,Nat.reduceEqDiff,Nat.reduceLT,Nat.reduceAdd,Nat.reduceBEq,Int.reduceAdd,Int.reduceSub,Int.reduceLT,Int.reduceLE,Int.reduceEq,Int.reduceNeg,↓reduceIte,reduceCtorEq,List.replicate,c41]
  exact weak_flat rfl h0 rfl
 by_cases h2:a<1∨b<1
 ·have e:chkG a b B.length=8:=by unfold chkG;rw[if_neg h1,if_pos h2]
  rw[e]
  simp (disch:=first|omega|assumption|exact bd (by with_unfolding_all rfl)|exact Or.inl rfl|exact Or.inl trivial|exact okL_map _ (fun _=>rfl) _|(simp only[VVlen]<;>omega)|fail) only[O1,WA,slotsL,opdsA,Nat.reduceEqDiff,Nat.reduceLT,Nat.reduceAdd,Nat.reduceBEq,Int.reduceAdd,Int.reduceSub,Int.reduceLT,Int.reduceLE,Int.reduceEq,Int.reduceNeg,↓reduceIte,reduceCtorEq,List.replicate,c41]
  exact weak_flat rfl h0 rfl
 have hp:=prod_le (a:=a) (b:=b) (by omega) (by omega) (by omega) (by omega)
 have e:chkG a b B.length=if (B.length:Int)=a*b then 0 else 8:=by unfold chkG;rw[if_neg h1,if_neg h2]
 rw[e]
 by_cases h5:(B.length:Int)=a*b
 ·rw[if_pos h5]
  simp (disch:=first|omega|assumption|exact bd (by with_unfolding_all rfl)|exact Or.inl rfl|exact Or.inl trivial|exact okL_map _ (fun _=>rfl) _|(simp only[VVlen]<;>omega)|fail) only[O1,WA,slotsL,opdsA,Nat.reduceEqDiff,Nat.reduceLT,Nat.reduceAdd,Nat.reduceBEq,Int.reduceAdd,Int.reduceSub,Int.reduceLT,Int.reduceLE,Int.reduceEq,Int.reduceNeg,↓reduceIte,reduceCtorEq,List.replicate,c41]
  exact weak_flat rfl h0 rfl
 ·rw[if_neg h5]
  simp (disch:=first|omega|assumption|exact bd (by with_unfolding_all rfl)|exact Or.inl rfl|exact Or.inl trivial|exact okL_map _ (fun _=>rfl) _|(simp only[VVlen]<;>omega)|fail) only[O1,WA,slotsL,opdsA,Nat.reduceEqDiff,Nat.reduceLT,Nat.reduceAdd,Nat.reduceBEq,Int.reduceAdd,Int.reduceSub,Int.reduceLT,Int.reduceLE,Int.reduceEq,Int.reduceNeg,↓reduceIte,reduceCtorEq,List.replicate,c41]
  exact weak_flat rfl h0 rfl
theorem dcheck_p (sh tr:Int) (th td:List Int) (gw gh:Int) (B:List Bool) (h1:th.length≤140737488351232) (h2:td.length≤140737488351232) (hB:B.length≤140737488351232):VSpec (EN w (n+3)) 22 [drV sh tr th td gw gh B] (iN (chkD sh tr th td gw gh B)) ⟨[],0,0⟩:=by
 refine vspec_flat rfl rfl (fun _ _=>rfl) (Nat.le_of_ble_eq_true rfl) (oldVals w) rfl fun C hC h0=>?_
 have w1:=dwithin_p w n th sh h1
 have w2:=dwithin_p w n td tr h2
 have w3:=gcheck_p w (n+1) gw gh B hB
 by_cases c1:40<sh∨40<tr∨64<th.length∨64<td.length
 ·rw[show chkD sh tr th td gw gh B=4 from if_pos c1]
  by_cases d1:40<sh
  ·simp (disch:=first|omega|assumption|exact bd (by with_unfolding_all rfl)|exact Or.inl rfl|exact Or.inl trivial|exact okL_map _ (fun _=>rfl) _|(simp only[VVlen]<;>omega)|fail) only[O1,WA,slotsL,opdsA,Nat.reduceEqDiff,Nat.reduceLT,Nat.reduceAdd,Nat.reduceBEq,Int.reduceAdd,Int.reduceSub,Int.reduceLT,Int.reduceLE,Int.reduceEq,Int.reduceNeg,↓reduceIte,reduceCtorEq,List.replicate,c22]
   all_goals try (exfalso;omega)
   exact weak_flat rfl h0 rfl
  by_cases d2:40<tr
  ·simp (disch:=first|omega|assumption|exact bd (by with_unfolding_all rfl)|exact Or.inl rfl|exact Or.inl trivial|exact okL_map _ (fun _=>rfl) _|(simp only[VVlen]<;>omega)|fail) only[O1,WA,slotsL,opdsA,Nat.reduceEqDiff,Nat.reduceLT,Nat.reduceAdd,Nat.reduceBEq,Int.reduceAdd,Int.reduceSub,Int.reduceLT,Int.reduceLE,Int.reduceEq,Int.reduceNeg,↓reduceIte,reduceCtorEq,List.replicate,c22]
   all_goals try (exfalso;omega)
   exact weak_flat rfl h0 rfl
  simp (disch:=first|omega|assumption|exact bd (by with_unfolding_all rfl)|exact Or.inl rfl|exact Or.inl trivial|exact okL_map _ (fun _=>rfl) _|(simp only[VVlen]<;>omega)|fail) only[O1,WA,slotsL,opdsA,Nat.reduceEqDiff,Nat.reduceLT,Nat.reduceAdd,Nat.reduceBEq,Int.reduceAdd,Int.reduceSub,Int.reduceLT,Int.reduceLE,Int.reduceEq,Int.reduceNeg,↓reduceIte,reduceCtorEq,List.replicate,c22]
  all_goals try (exfalso;omega)
  exact weak_flat rfl h0 rfl
 rw[show chkD sh tr th td gw gh B=if wi th sh=true∧wi td tr=true∧chkG gw gh B.length=0∧gw=tr∧gh=sh then 0 else 8 from if_neg c1]
 generalize wi th sh=a1 at*
 generalize wi td tr=a2 at*
 generalize chkG gw gh B.length=g at*
 cases a1
 ·rw[if_neg (by simp)]
  simp (disch:=first|omega|assumption|exact bd (by with_unfolding_all rfl)|exact Or.inl rfl|exact Or.inl trivial|exact okL_map _ (fun _=>rfl) _|(simp only[VVlen]<;>omega)|fail) only[O1,WA,slotsL,opdsA,Nat.reduceEqDiff,Nat.reduceLT,Nat.reduceAdd,Nat.reduceBEq,Int.reduceAdd,Int.reduceSub,Int.reduceLT,Int.reduceLE,Int.reduceEq,Int.reduceNeg,↓reduceIte,reduceCtorEq,List.replicate,c22]
  all_goals try (exfalso;omega)
  refine callV_flat (by rw[hC];exact w1.flat rfl rfl) ?_
  simp (disch:=first|omega|assumption|exact bd (by with_unfolding_all rfl)|exact Or.inl rfl|exact Or.inl trivial|exact okL_map _ (fun _=>rfl) _|(simp only[VVlen]<;>omega)|fail) only[O1,WA,slotsL,opdsA,Nat.reduceEqDiff,Nat.reduceLT,Nat.reduceAdd,Nat.reduceBEq,Int.reduceAdd,Int.reduceSub,Int.reduceLT,Int.reduceLE,Int.reduceEq,Int.reduceNeg,↓reduceIte,reduceCtorEq,List.replicate]
  exact weak_flat rfl h0 rfl
 cases a2
 ·rw[if_neg (by simp)]
  simp (disch:=first|omega|assumption|exact bd (by with_unfolding_all rfl)|exact Or.inl rfl|exact Or.inl trivial|exact okL_map _ (fun _=>rfl) _|(simp only[VVlen]<;>omega)|fail) only[O1,WA,slotsL,opdsA,Nat.reduceEqDiff,Nat.reduceLT,Nat.reduceAdd,Nat.reduceBEq,Int.reduceAdd,Int.reduceSub,Int.reduceLT,Int.reduceLE,Int.reduceEq,Int.reduceNeg,↓reduceIte,reduceCtorEq,List.replicate,c22]
  all_goals try (exfalso;omega)
  refine callV_flat (by rw[hC];exact w1.flat rfl rfl) ?_
  simp (disch:=first|omega|assumption|exact bd (by with_unfolding_all rfl)|exact Or.inl rfl|exact Or.inl trivial|exact okL_map _ (fun _=>rfl) _|(simp only[VVlen]<;>omega)|fail) only[O1,WA,slotsL,opdsA,Nat.reduceEqDiff,Nat.reduceLT,Nat.reduceAdd,Nat.reduceBEq,Int.reduceAdd,Int.reduceSub,Int.reduceLT,Int.reduceLE,Int.reduceEq,Int.reduceNeg,↓reduceIte,reduceCtorEq,List.replicate]
  refine callV_flat (by rw[hC];exact w2.flat rfl rfl) ?_
  simp (disch:=first|omega|assumption|exact bd (by with_unfolding_all rfl)|exact Or.inl rfl|exact Or.inl trivial|exact okL_map _ (fun _=>rfl) _|(simp only[VVlen]<;>omega)|fail) only[O1,WA,slotsL,opdsA,Nat.reduceEqDiff,Nat.reduceLT,Nat.reduceAdd,Nat.reduceBEq,Int.reduceAdd,Int.reduceSub,Int.reduceLT,Int.reduceLE,Int.reduceEq,Int.reduceNeg,↓reduceIte,reduceCtorEq,List.replicate]
  exact weak_flat rfl h0 rfl
 by_cases d3:g=0
 case neg=>
  rw[if_neg (by simp[d3])]
  simp (disch:=first|omega|assumption|exact bd (by with_unfolding_all rfl)|exact Or.inl rfl|exact Or.inl trivial|exact okL_map _ (fun _=>rfl) _|(simp only[VVlen]<;>omega)|fail) only[O1,WA,slotsL,opdsA,Nat.reduceEqDiff,Nat.reduceLT,Nat.reduceAdd,Nat.reduceBEq,Int.reduceAdd,Int.reduceSub,Int.reduceLT,Int.reduceLE,Int.reduceEq,Int.reduceNeg,↓reduceIte,reduceCtorEq,List.replicate,c22]
  all_goals try (exfalso;omega)
  refine callV_flat (by rw[hC];exact w1.flat rfl rfl) ?_
  simp (disch:=first|omega|assumption|exact bd (by with_unfolding_all rfl)|exact Or.inl rfl|exact Or.inl trivial|exact okL_map _ (fun _=>rfl) _|(simp only[VVlen]<;>omega)|fail) only[O1,WA,slotsL,opdsA,Nat.reduceEqDiff,Nat.reduceLT,Nat.reduceAdd,Nat.reduceBEq,Int.reduceAdd,Int.reduceSub,Int.reduceLT,Int.reduceLE,Int.reduceEq,Int.reduceNeg,↓reduceIte,reduceCtorEq,List.replicate]
  refine callV_flat (by rw[hC];exact w2.flat rfl rfl) ?_
  simp (disch:=first|omega|assumption|exact bd (by with_unfolding_all rfl)|exact Or.inl rfl|exact Or.inl trivial|exact okL_map _ (fun _=>rfl) _|(simp only[VVlen]<;>omega)|fail) only[O1,WA,slotsL,opdsA,Nat.reduceEqDiff,Nat.reduceLT,Nat.reduceAdd,Nat.reduceBEq,Int.reduceAdd,Int.reduceSub,Int.reduceLT,Int.reduceLE,Int.reduceEq,Int.reduceNeg,↓reduceIte,reduceCtorEq,List.replicate]
  refine callV_flat (by rw[hC];exact w3.flat rfl rfl) ?_
  simp (disch:=first|omega|assumption|exact bd (by with_unfolding_all rfl)|exact Or.inl rfl|exact Or.inl trivial|exact okL_map _ (fun _=>rfl) _|(simp only[VVlen]<;>omega)|fail) only[O1,WA,slotsL,opdsA,Nat.reduceEqDiff,Nat.reduceLT,Nat.reduceAdd,Nat.reduceBEq,Int.reduceAdd,Int.reduceSub,Int.reduceLT,Int.reduceLE,Int.reduceEq,Int.reduceNeg,↓reduceIte,reduceCtorEq,List.replicate]
  exact weak_flat rfl h0 rfl
 subst d3
 by_cases d4:gw=tr∧gh=sh
 ·rw[if_pos ⟨rfl,rfl,rfl,d4⟩]
  obtain ⟨d4,d5⟩:=d4
  simp (disch:=first|omega|assumption|exact bd (by with_unfolding_all rfl)|exact Or.inl rfl|exact Or.inl trivial|exact okL_map _ (fun _=>rfl) _|(simp only[VVlen]<;>omega)|fail) only[O1,WA,slotsL,opdsA,Nat.reduceEqDiff,Nat.reduceLT,Nat.reduceAdd,Nat.reduceBEq,Int.reduceAdd,Int.reduceSub,Int.reduceLT,Int.reduceLE,Int.reduceEq,Int.reduceNeg,↓reduceIte,reduceCtorEq,List.replicate,c22]
  all_goals try (exfalso;omega)
  refine callV_flat (by rw[hC];exact w1.flat rfl rfl) ?_
  simp (disch:=first|omega|assumption|exact bd (by with_unfolding_all rfl)|exact Or.inl rfl|exact Or.inl trivial|exact okL_map _ (fun _=>rfl) _|(simp only[VVlen]<;>omega)|fail) only[O1,WA,slotsL,opdsA,Nat.reduceEqDiff,Nat.reduceLT,Nat.reduceAdd,Nat.reduceBEq,Int.reduceAdd,Int.reduceSub,Int.reduceLT,Int.reduceLE,Int.reduceEq,Int.reduceNeg,↓reduceIte,reduceCtorEq,List.replicate]
  refine callV_flat (by rw[hC];exact w2.flat rfl rfl) ?_
  simp (disch:=first|omega|assumption|exact bd (by with_unfolding_all rfl)|exact Or.inl rfl|exact Or.inl trivial|exact okL_map _ (fun _=>rfl) _|(simp only[VVlen]<;>omega)|fail) only[O1,WA,slotsL,opdsA,Nat.reduceEqDiff,Nat.reduceLT,Nat.reduceAdd,Nat.reduceBEq,Int.reduceAdd,Int.reduceSub,Int.reduceLT,Int.reduceLE,Int.reduceEq,Int.reduceNeg,↓reduceIte,reduceCtorEq,List.replicate]
  refine callV_flat (by rw[hC];exact w3.flat rfl rfl) ?_
  simp (disch:=first|omega|assumption|exact bd (by with_unfolding_all rfl)|exact Or.inl rfl|exact Or.inl trivial|exact okL_map _ (fun _=>rfl) _|(simp only[VVlen]<;>omega)|fail) only[O1,WA,slotsL,opdsA,Nat.reduceEqDiff,Nat.reduceLT,Nat.reduceAdd,Nat.reduceBEq,Int.reduceAdd,Int.reduceSub,Int.reduceLT,Int.reduceLE,Int.reduceEq,Int.reduceNeg,↓reduceIte,reduceCtorEq,List.replicate]
  exact weak_flat rfl h0 rfl
 ·rw[if_neg (fun h=>d4 h.2.2.2)]
  by_cases d5:gw=tr
  ·have d6:¬ gh=sh:=fun e=>d4 ⟨d5,e⟩
   simp (disch:=first|omega|assumption|exact bd (by with_unfolding_all rfl)|exact Or.inl rfl|exact Or.inl trivial|exact okL_map _ (fun _=>rfl) _|(simp only[VVlen]<;>omega)|fail) only[O1,WA,slotsL,opdsA,Nat.reduceEqDiff,Nat.reduceLT,Nat.reduceAdd,Nat.reduceBEq,Int.reduceAdd,Int.reduceSub,Int.reduceLT,Int.reduceLE,Int.reduceEq,Int.reduceNeg,↓reduceIte,reduceCtorEq,List.replicate,c22]
   all_goals try (exfalso;omega)
   refine callV_flat (by rw[hC];exact w1.flat rfl rfl) ?_
   simp (disch:=first|omega|assumption|exact bd (by with_unfolding_all rfl)|exact Or.inl rfl|exact Or.inl trivial|exact okL_map _ (fun _=>rfl) _|(simp only[VVlen]<;>omega)|fail) only[O1,WA,slotsL,opdsA,Nat.reduceEqDiff,Nat.reduceLT,Nat.reduceAdd,Nat.reduceBEq,Int.reduceAdd,Int.reduceSub,Int.reduceLT,Int.reduceLE,Int.reduceEq,Int.reduceNeg,↓reduceIte,reduceCtorEq,List.replicate]
   refine callV_flat (by rw[hC];exact w2.flat rfl rfl) ?_
   simp (disch:=first|omega|assumption|exact bd (by with_unfolding_all rfl)|exact Or.inl rfl|exact Or.inl trivial|exact okL_map _ (fun _=>rfl) _|(simp only[VVlen]<;>omega)|fail) only[O1,WA,slotsL,opdsA,Nat.reduceEqDiff,Nat.reduceLT,Nat.reduceAdd,Nat.reduceBEq,Int.reduceAdd,Int.reduceSub,Int.reduceLT,Int.reduceLE,Int.reduceEq,Int.reduceNeg,↓reduceIte,reduceCtorEq,List.replicate]
   refine callV_flat (by rw[hC];exact w3.flat rfl rfl) ?_
   simp (disch:=first|omega|assumption|exact bd (by with_unfolding_all rfl)|exact Or.inl rfl|exact Or.inl trivial|exact okL_map _ (fun _=>rfl) _|(simp only[VVlen]<;>omega)|fail) only[O1,WA,slotsL,opdsA,Nat.reduceEqDiff,Nat.reduceLT,Nat.reduceAdd,Nat.reduceBEq,Int.reduceAdd,Int.reduceSub,Int.reduceLT,Int.reduceLE,Int.reduceEq,Int.reduceNeg,↓reduceIte,reduceCtorEq,List.replicate]
   exact weak_flat rfl h0 rfl
  ·simp (disch:=first|omega|assumption|exact bd (by with_unfolding_all rfl)|exact Or.inl rfl|exact Or.inl trivial|exact okL_map _ (fun _=>rfl) _|(simp only[VVlen]<;>omega)|fail) only[O1,WA,slotsL,opdsA,Nat.reduceEqDiff,Nat.reduceLT,Nat.reduceAdd,Nat.reduceBEq,Int.reduceAdd,Int.reduceSub,Int.reduceLT,Int.reduceLE,Int.reduceEq,Int.reduceNeg,↓reduceIte,reduceCtorEq,List.replicate,c22]
   all_goals try (exfalso;omega)
   refine callV_flat (by rw[hC];exact w1.flat rfl rfl) ?_
   simp (disch:=first|omega|assumption|exact bd (by with_unfolding_all rfl)|exact Or.inl rfl|exact Or.inl trivial|exact okL_map _ (fun _=>rfl) _|(simp only[VVlen]<;>omega)|fail) only[O1,WA,slotsL,opdsA,Nat.reduceEqDiff,Nat.reduceLT,Nat.reduceAdd,Nat.reduceBEq,Int.reduceAdd,Int.reduceSub,Int.reduceLT,Int.reduceLE,Int.reduceEq,Int.reduceNeg,↓reduceIte,reduceCtorEq,List.replicate]
   refine callV_flat (by rw[hC];exact w2.flat rfl rfl) ?_
   simp (disch:=first|omega|assumption|exact bd (by with_unfolding_all rfl)|exact Or.inl rfl|exact Or.inl trivial|exact okL_map _ (fun _=>rfl) _|(simp only[VVlen]<;>omega)|fail) only[O1,WA,slotsL,opdsA,Nat.reduceEqDiff,Nat.reduceLT,Nat.reduceAdd,Nat.reduceBEq,Int.reduceAdd,Int.reduceSub,Int.reduceLT,Int.reduceLE,Int.reduceEq,Int.reduceNeg,↓reduceIte,reduceCtorEq,List.replicate]
   refine callV_flat (by rw[hC];exact w3.flat rfl rfl) ?_
   simp (disch:=first|omega|assumption|exact bd (by with_unfolding_all rfl)|exact Or.inl rfl|exact Or.inl trivial|exact okL_map _ (fun _=>rfl) _|(simp only[VVlen]<;>omega)|fail) only[O1,WA,slotsL,opdsA,Nat.reduceEqDiff,Nat.reduceLT,Nat.reduceAdd,Nat.reduceBEq,Int.reduceAdd,Int.reduceSub,Int.reduceLT,Int.reduceLE,Int.reduceEq,Int.reduceNeg,↓reduceIte,reduceCtorEq,List.replicate]
   exact weak_flat rfl h0 rfl
theorem check03_p (sh tr:Int) (th td:List Int) (gw gh:Int) (B:List Bool) (h1:th.length≤140737488351232) (h2:td.length≤140737488351232) (hB:B.length≤140737488351232):VSpec (EN w (n+2)) 26 [drV sh tr th td gw gh B] (iN (chkD sh tr th td gw gh B)) ⟨[],0,0⟩:=by
 refine vspec_flat rfl rfl (fun _ _=>rfl) (Nat.le_of_ble_eq_true rfl) (oldVals w) rfl fun C hC h0=>?_
 have w1:=within03_p w n th sh h1
 have w2:=within03_p w n td tr h2
 have w3:=check01_p w n gw gh B hB
 by_cases c1:40<sh∨40<tr∨64<th.length∨64<td.length
 ·rw[show chkD sh tr th td gw gh B=4 from if_pos c1]
  by_cases d1:40<sh
  ·simp (disch:=first|omega|assumption|exact bd (by with_unfolding_all rfl)|exact Or.inl rfl|exact Or.inl trivial|exact okL_map _ (fun _=>rfl) _|(simp only[VVlen]<;>omega)|fail) only[O1,WA,slotsL,opdsA,Nat.reduceEqDiff,Nat.reduceLT,Nat.reduceAdd,Nat.reduceBEq,Int.reduceAdd,Int.reduceSub,Int.reduceLT,Int.reduceLE,Int.reduceEq,Int.reduceNeg,↓reduceIte,reduceCtorEq,List.replicate,c26]
   all_goals try (exfalso;omega)
   exact weak_flat rfl h0 rfl
  by_cases d2:40<tr
  ·simp (disch:=first|omega|assumption|exact bd (by with_unfolding_all rfl)|exact Or.inl rfl|exact Or.inl trivial|exact okL_map _ (fun _=>rfl) _|(simp only[VVlen]<;>omega)|fail) only[O1,WA,slotsL,opdsA,Nat.reduceEqDiff,Nat.reduceLT,Nat.reduceAdd,Nat.reduceBEq,Int.reduceAdd,Int.reduceSub,Int.reduceLT,Int.reduceLE,Int.reduceEq,Int.reduceNeg,↓reduceIte,reduceCtorEq,List.replicate,c26]
   all_goals try (exfalso;omega)
   exact weak_flat rfl h0 rfl
  by_cases d3:64<th.length
  ·simp (disch:=first|omega|assumption|exact bd (by with_unfolding_all rfl)|exact Or.inl rfl|exact Or.inl trivial|exact okL_map _ (fun _=>rfl) _|(simp only[VVlen]<;>omega)|fail) only[O1,WA,slotsL,opdsA,Nat.reduceEqDiff,Nat.reduceLT,Nat.reduceAdd,Nat.reduceBEq,Int.reduceAdd,Int.reduceSub,Int.reduceLT,Int.reduceLE,Int.reduceEq,Int.reduceNeg,↓reduceIte,reduceCtorEq,List.replicate,c26]
   all_goals try (exfalso;omega)
   exact weak_flat rfl h0 rfl
  simp (disch:=first|omega|assumption|exact bd (by with_unfolding_all rfl)|exact Or.inl rfl|exact Or.inl trivial|exact okL_map _ (fun _=>rfl) _|(simp only[VVlen]<;>omega)|fail) only[O1,WA,slotsL,opdsA,Nat.reduceEqDiff,Nat.reduceLT,Nat.reduceAdd,Nat.reduceBEq,Int.reduceAdd,Int.reduceSub,Int.reduceLT,Int.reduceLE,Int.reduceEq,Int.reduceNeg,↓reduceIte,reduceCtorEq,List.replicate,c26]
  all_goals try (exfalso;omega)
  exact weak_flat rfl h0 rfl
 rw[show chkD sh tr th td gw gh B=if wi th sh=true∧wi td tr=true∧chkG gw gh B.length=0∧gw=tr∧gh=sh then 0 else 8 from if_neg c1]
 have p1:=fun h=>wi_pos (l:=th) (z:=sh) h
 have p2:=fun h=>wi_pos (l:=td) (z:=tr) h
 generalize wi th sh=a1 at*
 generalize wi td tr=a2 at*
 generalize chkG gw gh B.length=g at*
 by_cases d1:sh<1
 ·rw[if_neg (fun h=>by have:=p1 h.1;omega)]
  simp (disch:=first|omega|assumption|exact bd (by with_unfolding_all rfl)|exact Or.inl rfl|exact Or.inl trivial|exact okL_map _ (fun _=>rfl) _|(simp only[VVlen]<;>omega)|fail) only[O1,WA,slotsL,opdsA,Nat.reduceEqDiff,Nat.reduceLT,Nat.reduceAdd,Nat.reduceBEq,Int.reduceAdd,Int.reduceSub,Int.reduceLT,Int.reduceLE,Int.reduceEq,Int.reduceNeg,↓reduceIte,reduceCtorEq,List.replicate,c26]
  all_goals try (exfalso;omega)
  exact weak_flat rfl h0 rfl
 by_cases d2:tr<1
 ·rw[if_neg (fun h=>by have:=p2 h.2.1;omega)]
  simp (disch:=first|omega|assumption|exact bd (by with_unfolding_all rfl)|exact Or.inl rfl|exact Or.inl trivial|exact okL_map _ (fun _=>rfl) _|(simp only[VVlen]<;>omega)|fail) only[O1,WA,slotsL,opdsA,Nat.reduceEqDiff,Nat.reduceLT,Nat.reduceAdd,Nat.reduceBEq,Int.reduceAdd,Int.reduceSub,Int.reduceLT,Int.reduceLE,Int.reduceEq,Int.reduceNeg,↓reduceIte,reduceCtorEq,List.replicate,c26]
  all_goals try (exfalso;omega)
  exact weak_flat rfl h0 rfl
 clear p1 p2
 cases a1
 ·rw[if_neg (by simp)]
  simp (disch:=first|omega|assumption|exact bd (by with_unfolding_all rfl)|exact Or.inl rfl|exact Or.inl trivial|exact okL_map _ (fun _=>rfl) _|(simp only[VVlen]<;>omega)|fail) only[O1,WA,slotsL,opdsA,Nat.reduceEqDiff,Nat.reduceLT,Nat.reduceAdd,Nat.reduceBEq,Int.reduceAdd,Int.reduceSub,Int.reduceLT,Int.reduceLE,Int.reduceEq,Int.reduceNeg,↓reduceIte,reduceCtorEq,List.replicate,c26]
  all_goals try (exfalso;omega)
  refine callV_flat (by rw[hC];exact w1.flat rfl rfl) ?_
  simp (disch:=first|omega|assumption|exact bd (by with_unfolding_all rfl)|exact Or.inl rfl|exact Or.inl trivial|exact okL_map _ (fun _=>rfl) _|(simp only[VVlen]<;>omega)|fail) only[O1,WA,slotsL,opdsA,Nat.reduceEqDiff,Nat.reduceLT,Nat.reduceAdd,Nat.reduceBEq,Int.reduceAdd,Int.reduceSub,Int.reduceLT,Int.reduceLE,Int.reduceEq,Int.reduceNeg,↓reduceIte,reduceCtorEq,List.replicate]
  exact weak_flat rfl h0 rfl
 cases a2
 ·rw[if_neg (by simp)]
  simp (disch:=first|omega|assumption|exact bd (by with_unfolding_all rfl)|exact Or.inl rfl|exact Or.inl trivial|exact okL_map _ (fun _=>rfl) _|(simp only[VVlen]<;>omega)|fail) only[O1,WA,slotsL,opdsA,Nat.reduceEqDiff,Nat.reduceLT,Nat.reduceAdd,Nat.reduceBEq,Int.reduceAdd,Int.reduceSub,Int.reduceLT,Int.reduceLE,Int.reduceEq,Int.reduceNeg,↓reduceIte,reduceCtorEq,List.replicate,c26]
  all_goals try (exfalso;omega)
  refine callV_flat (by rw[hC];exact w1.flat rfl rfl) ?_
  simp (disch:=first|omega|assumption|exact bd (by with_unfolding_all rfl)|exact Or.inl rfl|exact Or.inl trivial|exact okL_map _ (fun _=>rfl) _|(simp only[VVlen]<;>omega)|fail) only[O1,WA,slotsL,opdsA,Nat.reduceEqDiff,Nat.reduceLT,Nat.reduceAdd,Nat.reduceBEq,Int.reduceAdd,Int.reduceSub,Int.reduceLT,Int.reduceLE,Int.reduceEq,Int.reduceNeg,↓reduceIte,reduceCtorEq,List.replicate]
  refine callV_flat (by rw[hC];exact w2.flat rfl rfl) ?_
  simp (disch:=first|omega|assumption|exact bd (by with_unfolding_all rfl)|exact Or.inl rfl|exact Or.inl trivial|exact okL_map _ (fun _=>rfl) _|(simp only[VVlen]<;>omega)|fail) only[O1,WA,slotsL,opdsA,Nat.reduceEqDiff,Nat.reduceLT,Nat.reduceAdd,Nat.reduceBEq,Int.reduceAdd,Int.reduceSub,Int.reduceLT,Int.reduceLE,Int.reduceEq,Int.reduceNeg,↓reduceIte,reduceCtorEq,List.replicate]
  exact weak_flat rfl h0 rfl
 by_cases d3:g=0
 case neg=>
  rw[if_neg (by simp[d3])]
  simp (disch:=first|omega|assumption|exact bd (by with_unfolding_all rfl)|exact Or.inl rfl|exact Or.inl trivial|exact okL_map _ (fun _=>rfl) _|(simp only[VVlen]<;>omega)|fail) only[O1,WA,slotsL,opdsA,Nat.reduceEqDiff,Nat.reduceLT,Nat.reduceAdd,Nat.reduceBEq,Int.reduceAdd,Int.reduceSub,Int.reduceLT,Int.reduceLE,Int.reduceEq,Int.reduceNeg,↓reduceIte,reduceCtorEq,List.replicate,c26]
  all_goals try (exfalso;omega)
  refine callV_flat (by rw[hC];exact w1.flat rfl rfl) ?_
  simp (disch:=first|omega|assumption|exact bd (by with_unfolding_all rfl)|exact Or.inl rfl|exact Or.inl trivial|exact okL_map _ (fun _=>rfl) _|(simp only[VVlen]<;>omega)|fail) only[O1,WA,slotsL,opdsA,Nat.reduceEqDiff,Nat.reduceLT,Nat.reduceAdd,Nat.reduceBEq,Int.reduceAdd,Int.reduceSub,Int.reduceLT,Int.reduceLE,Int.reduceEq,Int.reduceNeg,↓reduceIte,reduceCtorEq,List.replicate]
  refine callV_flat (by rw[hC];exact w2.flat rfl rfl) ?_
  simp (disch:=first|omega|assumption|exact bd (by with_unfolding_all rfl)|exact Or.inl rfl|exact Or.inl trivial|exact okL_map _ (fun _=>rfl) _|(simp only[VVlen]<;>omega)|fail) only[O1,WA,slotsL,opdsA,Nat.reduceEqDiff,Nat.reduceLT,Nat.reduceAdd,Nat.reduceBEq,Int.reduceAdd,Int.reduceSub,Int.reduceLT,Int.reduceLE,Int.reduceEq,Int.reduceNeg,↓reduceIte,reduceCtorEq,List.replicate]
  refine callV_flat (by rw[hC];exact w3.flat rfl rfl) ?_
  simp (disch:=first|omega|assumption|exact bd (by with_unfolding_all rfl)|exact Or.inl rfl|exact Or.inl trivial|exact okL_map _ (fun _=>rfl) _|(simp only[VVlen]<;>omega)|fail) only[O1,WA,slotsL,opdsA,Nat.reduceEqDiff,Nat.reduceLT,Nat.reduceAdd,Nat.reduceBEq,Int.reduceAdd,Int.reduceSub,Int.reduceLT,Int.reduceLE,Int.reduceEq,Int.reduceNeg,↓reduceIte,reduceCtorEq,List.replicate]
  exact weak_flat rfl h0 rfl
 subst d3
 by_cases d4:gw=tr
 case neg=>
  rw[if_neg (fun h=>d4 h.2.2.2.1)]
  simp (disch:=first|omega|assumption|exact bd (by with_unfolding_all rfl)|exact Or.inl rfl|exact Or.inl trivial|exact okL_map _ (fun _=>rfl) _|(simp only[VVlen]<;>omega)|fail) only[O1,WA,slotsL,opdsA,Nat.reduceEqDiff,Nat.reduceLT,Nat.reduceAdd,Nat.reduceBEq,Int.reduceAdd,Int.reduceSub,Int.reduceLT,Int.reduceLE,Int.reduceEq,Int.reduceNeg,↓reduceIte,reduceCtorEq,List.replicate,c26]
  all_goals try (exfalso;omega)
  refine callV_flat (by rw[hC];exact w1.flat rfl rfl) ?_
  simp (disch:=first|omega|assumption|exact bd (by with_unfolding_all rfl)|exact Or.inl rfl|exact Or.inl trivial|exact okL_map _ (fun _=>rfl) _|(simp only[VVlen]<;>omega)|fail) only[O1,WA,slotsL,opdsA,Nat.reduceEqDiff,Nat.reduceLT,Nat.reduceAdd,Nat.reduceBEq,Int.reduceAdd,Int.reduceSub,Int.reduceLT,Int.reduceLE,Int.reduceEq,Int.reduceNeg,↓reduceIte,reduceCtorEq,List.replicate]
  refine callV_flat (by rw[hC];exact w2.flat rfl rfl) ?_
  simp (disch:=first|omega|assumption|exact bd (by with_unfolding_all rfl)|exact Or.inl rfl|exact Or.inl trivial|exact okL_map _ (fun _=>rfl) _|(simp only[VVlen]<;>omega)|fail) only[O1,WA,slotsL,opdsA,Nat.reduceEqDiff,Nat.reduceLT,Nat.reduceAdd,Nat.reduceBEq,Int.reduceAdd,Int.reduceSub,Int.reduceLT,Int.reduceLE,Int.reduceEq,Int.reduceNeg,↓reduceIte,reduceCtorEq,List.replicate]
  refine callV_flat (by rw[hC];exact w3.flat rfl rfl) ?_
  simp (disch:=first|omega|assumption|exact bd (by with_unfolding_all rfl)|exact Or.inl rfl|exact Or.inl trivial|exact okL_map _ (fun _=>rfl) _|(simp only[VVlen]<;>omega)|fail) only[O1,WA,slotsL,opdsA,Nat.reduceEqDiff,Nat.reduceLT,Nat.reduceAdd,Nat.reduceBEq,Int.reduceAdd,Int.reduceSub,Int.reduceLT,Int.reduceLE,Int.reduceEq,Int.reduceNeg,↓reduceIte,reduceCtorEq,List.replicate]
  exact weak_flat rfl h0 rfl
 by_cases d5:gh=sh
 ·rw[if_pos ⟨rfl,rfl,rfl,d4,d5⟩]
  simp (disch:=first|omega|assumption|exact bd (by with_unfolding_all rfl)|exact Or.inl rfl|exact Or.inl trivial|exact okL_map _ (fun _=>rfl) _|(simp only[VVlen]<;>omega)|fail) only[O1,WA,slotsL,opdsA,Nat.reduceEqDiff,Nat.reduceLT,Nat.reduceAdd,Nat.reduceBEq,Int.reduceAdd,Int.reduceSub,Int.reduceLT,Int.reduceLE,Int.reduceEq,Int.reduceNeg,↓reduceIte,reduceCtorEq,List.replicate,c26]
  all_goals try (exfalso;omega)
  refine callV_flat (by rw[hC];exact w1.flat rfl rfl) ?_
  simp (disch:=first|omega|assumption|exact bd (by with_unfolding_all rfl)|exact Or.inl rfl|exact Or.inl trivial|exact okL_map _ (fun _=>rfl) _|(simp only[VVlen]<;>omega)|fail) only[O1,WA,slotsL,opdsA,Nat.reduceEqDiff,Nat.reduceLT,Nat.reduceAdd,Nat.reduceBEq,Int.reduceAdd,Int.reduceSub,Int.reduceLT,Int.reduceLE,Int.reduceEq,Int.reduceNeg,↓reduceIte,reduceCtorEq,List.replicate]
  refine callV_flat (by rw[hC];exact w2.flat rfl rfl) ?_
  simp (disch:=first|omega|assumption|exact bd (by with_unfolding_all rfl)|exact Or.inl rfl|exact Or.inl trivial|exact okL_map _ (fun _=>rfl) _|(simp only[VVlen]<;>omega)|fail) only[O1,WA,slotsL,opdsA,Nat.reduceEqDiff,Nat.reduceLT,Nat.reduceAdd,Nat.reduceBEq,Int.reduceAdd,Int.reduceSub,Int.reduceLT,Int.reduceLE,Int.reduceEq,Int.reduceNeg,↓reduceIte,reduceCtorEq,List.replicate]
  refine callV_flat (by rw[hC];exact w3.flat rfl rfl) ?_
  simp (disch:=first|omega|assumption|exact bd (by with_unfolding_all rfl)|exact Or.inl rfl|exact Or.inl trivial|exact okL_map _ (fun _=>rfl) _|(simp only[VVlen]<;>omega)|fail) only[O1,WA,slotsL,opdsA,Nat.reduceEqDiff,Nat.reduceLT,Nat.reduceAdd,Nat.reduceBEq,Int.reduceAdd,Int.reduceSub,Int.reduceLT,Int.reduceLE,Int.reduceEq,Int.reduceNeg,↓reduceIte,reduceCtorEq,List.replicate]
  exact weak_flat rfl h0 rfl
 ·rw[if_neg (fun h=>d5 h.2.2.2.2)]
  simp (disch:=first|omega|assumption|exact bd (by with_unfolding_all rfl)|exact Or.inl rfl|exact Or.inl trivial|exact okL_map _ (fun _=>rfl) _|(simp only[VVlen]<;>omega)|fail) only[O1,WA,slotsL,opdsA,Nat.reduceEqDiff,Nat.reduceLT,Nat.reduceAdd,Nat.reduceBEq,Int.reduceAdd,Int.reduceSub,Int.reduceLT,Int.reduceLE,Int.reduceEq,Int.reduceNeg,↓reduceIte,reduceCtorEq,List.replicate,c26]
  all_goals try (exfalso;omega)
  refine callV_flat (by rw[hC];exact w1.flat rfl rfl) ?_
  simp (disch:=first|omega|assumption|exact bd (by with_unfolding_all rfl)|exact Or.inl rfl|exact Or.inl trivial|exact okL_map _ (fun _=>rfl) _|(simp only[VVlen]<;>omega)|fail) only[O1,WA,slotsL,opdsA,Nat.reduceEqDiff,Nat.reduceLT,Nat.reduceAdd,Nat.reduceBEq,Int.reduceAdd,Int.reduceSub,Int.reduceLT,Int.reduceLE,Int.reduceEq,Int.reduceNeg,↓reduceIte,reduceCtorEq,List.replicate]
  refine callV_flat (by rw[hC];exact w2.flat rfl rfl) ?_
  simp (disch:=first|omega|assumption|exact bd (by with_unfolding_all rfl)|exact Or.inl rfl|exact Or.inl trivial|exact okL_map _ (fun _=>rfl) _|(simp only[VVlen]<;>omega)|fail) only[O1,WA,slotsL,opdsA,Nat.reduceEqDiff,Nat.reduceLT,Nat.reduceAdd,Nat.reduceBEq,Int.reduceAdd,Int.reduceSub,Int.reduceLT,Int.reduceLE,Int.reduceEq,Int.reduceNeg,↓reduceIte,reduceCtorEq,List.replicate]
  refine callV_flat (by rw[hC];exact w3.flat rfl rfl) ?_
  simp (disch:=first|omega|assumption|exact bd (by with_unfolding_all rfl)|exact Or.inl rfl|exact Or.inl trivial|exact okL_map _ (fun _=>rfl) _|(simp only[VVlen]<;>omega)|fail) only[O1,WA,slotsL,opdsA,Nat.reduceEqDiff,Nat.reduceLT,Nat.reduceAdd,Nat.reduceBEq,Int.reduceAdd,Int.reduceSub,Int.reduceLT,Int.reduceLE,Int.reduceEq,Int.reduceNeg,↓reduceIte,reduceCtorEq,List.replicate]
  exact weak_flat rfl h0 rfl
end
def nmL (b:UInt8):Bool:=decide (97≤b.toNat∧b.toNat≤122)
def nmC (b:UInt8):Bool:=decide ((97≤b.toNat∧b.toNat≤122)∨b.toNat=45∨(48≤b.toNat∧b.toNat≤57))
def isName (s:List UInt8):Bool:=decide (1≤s.length∧s.length≤40) && (nmL s[0]! && s.all nmC)
def cutS:List UInt8:= [97,98,99,100,101,102,103,104,105,106,107,108,109,110,111,112,113,114,115,116,117,118,119,120,121,122,48,49,50,51,52,53,54,55,56,57,45]
theorem cutS_has:∀ b:UInt8,cutS.contains b=nmC b:=by
 have h:∀ k:Fin 256,cutS.contains (UInt8.ofNat k.1)=nmC (UInt8.ofNat k.1):=by decide+kernel
 intro b
 have:=h ⟨b.toNat,b.toNat_lt⟩
 simpa using this
theorem dropWhile_head {α:Type} (p:α→Bool):∀ (l:List α) (c:α) (t:List α),l.dropWhile p=c::t→p c=false
 | [],c,t,h=>by simp at h
 |x::l,c,t,h=>by
  rw[List.dropWhile_cons] at h
  split at h
  ·exact dropWhile_head p l c t h
  ·cases h;rename_i hx;simpa using hx
theorem dropWhile_all {α:Type} (p:α→Bool):∀ (l:List α),l.dropWhile p= []↔l.all p=true
 | []=>by simp
 |x::l=>by
  rw[List.dropWhile_cons,List.all_cons,Bool.and_eq_true]
  by_cases h:p x=true
  ·rw[if_pos h,dropWhile_all p l];exact ⟨fun q=>⟨h,q⟩,fun q=>q.2⟩
  ·rw[if_neg h];exact ⟨(fun q=>by cases q),fun q=>absurd q.1 h⟩
theorem trim_nil (l cs:List UInt8):Lib.trimS l cs= []↔l.all (fun b=>cs.contains b)=true:=by
 unfold Lib.trimS Lib.trimLeftS Lib.trimRightS
 rw[dropWhile_all]
 constructor
 ·intro h
  cases hm:l.reverse.dropWhile (fun b=>cs.contains b) with
  |nil=>
   have:=(dropWhile_all _ _).1 hm
   rwa [List.all_reverse] at this
  |cons c t=>
   have h1:=dropWhile_head _ _ _ _ hm
   rw[hm,List.all_reverse,List.all_cons,Bool.and_eq_true] at h
   rw[h1] at h
   exact absurd h.1 (by decide)
 ·intro h
  have:l.reverse.dropWhile (fun b=>cs.contains b)= []:=(dropWhile_all _ _).2 (by rw[List.all_reverse];exact h)
  rw[this];rfl
section
variable (w:World) (n:Nat)
theorem named_p (s:List UInt8) (hs:s.length≤1000000):VSpec (EN w (n+2)) 24 [strV s] (.sc (.bool (isName s))) ⟨[],0,0⟩:=by
 refine vspec_flat rfl rfl (fun _ _=>rfl) (Nat.le_of_ble_eq_true rfl) (oldVals w) rfl fun C hC h0=>?_
 unfold isName
 by_cases h1:1≤s.length∧s.length≤40
 case neg=>
  rw[decide_eq_false h1,Bool.false_and]
  by_cases h2:s.length<1
  ·simp (disch:=first|omega|assumption|exact bd (by with_unfolding_all rfl)|exact Or.inl rfl|exact Or.inl trivial|exact okL_map _ (fun _=>rfl) _|(simp only[VVlen]<;>omega)|fail) only[O1,WA,slotsL,opdsA,Nat.reduceEqDiff,Nat.reduceLT,Nat.reduceAdd,Nat.reduceBEq,Int.reduceAdd,Int.reduceSub,Int.reduceLT,Int.reduceLE,Int.reduceEq,Int.reduceNeg,↓reduceIte,reduceCtorEq,List.replicate,c24,mk_size]
   all_goals try (exfalso;omega)
   exact weak_flat rfl h0 rfl
  ·simp (disch:=first|omega|assumption|exact bd (by with_unfolding_all rfl)|exact Or.inl rfl|exact Or.inl trivial|exact okL_map _ (fun _=>rfl) _|(simp only[VVlen]<;>omega)|fail) only[O1,WA,slotsL,opdsA,Nat.reduceEqDiff,Nat.reduceLT,Nat.reduceAdd,Nat.reduceBEq,Int.reduceAdd,Int.reduceSub,Int.reduceLT,Int.reduceLE,Int.reduceEq,Int.reduceNeg,↓reduceIte,reduceCtorEq,List.replicate,c24,mk_size]
   all_goals try (exfalso;omega)
   exact weak_flat rfl h0 rfl
 rw[decide_eq_true h1,Bool.true_and]
 have hb:=idxStr_l s .i64 0 (by omega) (by omega)
 have htr:=fun st=>trim_s w n st s cutS (by omega) (by decide) (by decide)
 have ht:=trim_nil s cutS
 simp only[cutS_has] at ht
 rw[show (0:Int).toNat=0 from rfl] at hb
 have hcs:(⟨#[97,98,99,100,101,102,103,104,105,106,107,108,109,110,111,112,113,114,115,116,117,118,119,120,121,122,48,49,50,51,52,53,54,55,56,57,45]⟩:ByteArray)=⟨cutS.toArray⟩:=rfl
 have hem:(⟨#[]⟩:ByteArray)=⟨([]:List UInt8).toArray⟩:=rfl
 unfold nmL
 generalize s[0]!.toNat=b at*
 by_cases h2:97≤b∧b≤122
 case neg=>
  rw[decide_eq_false h2,Bool.false_and]
  by_cases h3:b<97
  ·simp (disch:=first|omega|assumption|exact bd (by with_unfolding_all rfl)|exact Or.inl rfl|exact Or.inl trivial|exact okL_map _ (fun _=>rfl) _|(simp only[VVlen]<;>omega)|fail) only[O1,WA,slotsL,opdsA,Nat.reduceEqDiff,Nat.reduceLT,Nat.reduceAdd,Nat.reduceBEq,Int.reduceAdd,Int.reduceSub,Int.reduceLT,Int.reduceLE,Int.reduceEq,Int.reduceNeg,↓reduceIte,reduceCtorEq,List.replicate,c24,mk_size,hb]
   all_goals try (exfalso;omega)
   exact weak_flat rfl h0 rfl
  ·simp (disch:=first|omega|assumption|exact bd (by with_unfolding_all rfl)|exact Or.inl rfl|exact Or.inl trivial|exact okL_map _ (fun _=>rfl) _|(simp only[VVlen]<;>omega)|fail) only[O1,WA,slotsL,opdsA,Nat.reduceEqDiff,Nat.reduceLT,Nat.reduceAdd,Nat.reduceBEq,Int.reduceAdd,Int.reduceSub,Int.reduceLT,Int.reduceLE,Int.reduceEq,Int.reduceNeg,↓reduceIte,reduceCtorEq,List.replicate,c24,mk_size,hb]
   all_goals try (exfalso;omega)
   exact weak_flat rfl h0 rfl
 rw[decide_eq_true h2,Bool.true_and]
 have hd:s.all nmC=decide (Lib.trimS s cutS= []):=by
  rw[Bool.eq_iff_iff,decide_eq_true_eq,ht]
 rw[hd]
 generalize Lib.trimS s cutS=T at*
 simp (disch:=first|omega|assumption|exact bd (by with_unfolding_all rfl)|exact Or.inl rfl|exact Or.inl trivial|exact okL_map _ (fun _=>rfl) _|(simp only[VVlen]<;>omega)|fail) only[O1,WA,slotsL,opdsA,Nat.reduceEqDiff,Nat.reduceLT,Nat.reduceAdd,Nat.reduceBEq,Int.reduceAdd,Int.reduceSub,Int.reduceLT,Int.reduceLE,Int.reduceEq,Int.reduceNeg,↓reduceIte,reduceCtorEq,List.replicate,c24,mk_size,hb]
 all_goals try (exfalso;omega)
 rw[hcs]
 refine callV_flat (by rw[hC];exact htr _) ?_
 rw[hem]
 simp (disch:=first|omega|assumption|exact bd (by with_unfolding_all rfl)|exact Or.inl rfl|exact Or.inl trivial|exact okL_map _ (fun _=>rfl) _|(simp only[VVlen]<;>omega)|fail) only[O1,WA,slotsL,opdsA,Nat.reduceEqDiff,Nat.reduceLT,Nat.reduceAdd,Nat.reduceBEq,Int.reduceAdd,Int.reduceSub,Int.reduceLT,Int.reduceLE,Int.reduceEq,Int.reduceNeg,↓reduceIte,reduceCtorEq,List.replicate,eq_l,mk_inj]
 exact weak_flat rfl h0 rfl
theorem name_p (s:List UInt8) (hs:s.length≤1000000):VSpec (EN w (n+1)) 27 [strV s] (.sc (.bool (isName s))) ⟨[],0,0⟩:=by
 refine vspec_flat rfl rfl (fun _ _=>rfl) (Nat.le_of_ble_eq_true rfl) (oldVals w) rfl fun C hC h0=>?_
 simp (disch:=first|omega|assumption|exact bd (by with_unfolding_all rfl)|exact Or.inl rfl|exact Or.inl trivial|exact okL_map _ (fun _=>rfl) _|(simp only[VVlen]<;>omega)|fail) only[O1,WA,slotsL,opdsA,Nat.reduceEqDiff,Nat.reduceLT,Nat.reduceAdd,Nat.reduceBEq,Int.reduceAdd,Int.reduceSub,Int.reduceLT,Int.reduceLE,Int.reduceEq,Int.reduceNeg,↓reduceIte,reduceCtorEq,List.replicate,c27]
 refine g_while (fun m fr st=>∃ k:Nat,m=s.length - k∧k≤s.length∧(s.take k).all nmC=true∧(0<k→nmL s[0]! =true)∧fr= [(0,strV s),(3,iN k)]∧st=⟨[],0,0⟩) s.length ?_ ⟨_,_,.refl _ _,0,by omega,by omega,rfl,fun h=>absurd h (Nat.lt_irrefl _),rfl,rfl⟩ ?_
 ·rw[hC,callP_rounds];unfold many;omega
 rintro m fr st ⟨k,rfl,hk,ha,hf,rfl,rfl⟩
 by_cases hlt:k<s.length
 case neg=>
  have:k=s.length:=by omega
  subst this
  have hw:isName s=decide (1≤s.length∧s.length≤40):=by
   unfold isName
   by_cases hz:0<s.length
   ·rw[take_all_end ha,hf hz];simp
   ·rw[decide_eq_false (by omega:¬ (1≤s.length∧s.length≤40)),Bool.false_and]
  rw[hw]
  by_cases q1:1≤s.length
  ·rw[show decide (1≤s.length∧s.length≤40)=decide (s.length≤40) from by simp[q1]]
   by_cases q2:s.length≤40
   ·rw[decide_eq_true q2]
    simp (disch:=first|omega|assumption|exact bd (by with_unfolding_all rfl)|exact Or.inl rfl|exact Or.inl trivial|exact okL_map _ (fun _=>rfl) _|(simp only[VVlen]<;>omega)|fail) only[O1,WA,slotsL,opdsA,Nat.reduceEqDiff,Nat.reduceLT,Nat.reduceAdd,Nat.reduceBEq,Int.reduceAdd,Int.reduceSub,Int.reduceLT,Int.reduceLE,Int.reduceEq,Int.reduceNeg,↓reduceIte,reduceCtorEq,List.replicate,c27l0,mk_size]
    all_goals try (exfalso;omega)
    exact weak_flat rfl h0 rfl
   ·rw[decide_eq_false q2]
    simp (disch:=first|omega|assumption|exact bd (by with_unfolding_all rfl)|exact Or.inl rfl|exact Or.inl trivial|exact okL_map _ (fun _=>rfl) _|(simp only[VVlen]<;>omega)|fail) only[O1,WA,slotsL,opdsA,Nat.reduceEqDiff,Nat.reduceLT,Nat.reduceAdd,Nat.reduceBEq,Int.reduceAdd,Int.reduceSub,Int.reduceLT,Int.reduceLE,Int.reduceEq,Int.reduceNeg,↓reduceIte,reduceCtorEq,List.replicate,c27l0,mk_size]
    all_goals try (exfalso;omega)
    exact weak_flat rfl h0 rfl
  ·rw[decide_eq_false (by omega:¬ (1≤s.length∧s.length≤40))]
   simp (disch:=first|omega|assumption|exact bd (by with_unfolding_all rfl)|exact Or.inl rfl|exact Or.inl trivial|exact okL_map _ (fun _=>rfl) _|(simp only[VVlen]<;>omega)|fail) only[O1,WA,slotsL,opdsA,Nat.reduceEqDiff,Nat.reduceLT,Nat.reduceAdd,Nat.reduceBEq,Int.reduceAdd,Int.reduceSub,Int.reduceLT,Int.reduceLE,Int.reduceEq,Int.reduceNeg,↓reduceIte,reduceCtorEq,List.replicate,c27l0,mk_size]
   all_goals try (exfalso;omega)
   exact weak_flat rfl h0 rfl
 have hb:=idxStr_l s .i64 k (by omega) (by omega)
 rw[Int.toNat_natCast] at hb
 by_cases hl:nmL s[k]! =true
 ·have hc:nmC s[k]! =true:=by unfold nmC;unfold nmL at hl;simp only[decide_eq_true_eq] at hl ⊢;exact .inl hl
  have hn:=take_all_succ (p:=nmC) hlt ha hc
  have hf':0<k+1→nmL s[0]! =true:=fun _=>by
   rcases Nat.eq_zero_or_pos k with e|e
   ·subst e;exact hl
   ·exact hf e
  unfold nmL at hl
  simp only[decide_eq_true_eq] at hl
  generalize s[k]!.toNat=b at*
  simp (disch:=first|omega|assumption|exact bd (by with_unfolding_all rfl)|exact Or.inl rfl|exact Or.inl trivial|exact okL_map _ (fun _=>rfl) _|(simp only[VVlen]<;>omega)|fail) only[O1,WA,slotsL,opdsA,Nat.reduceEqDiff,Nat.reduceLT,Nat.reduceAdd,Nat.reduceBEq,Int.reduceAdd,Int.reduceSub,Int.reduceLT,Int.reduceLE,Int.reduceEq,Int.reduceNeg,↓reduceIte,reduceCtorEq,List.replicate,c27l0,mk_size,hb]
  all_goals try (exfalso;omega)
  exact ⟨_,_,_,by omega,.refl _ _,k+1,rfl,hlt,hn,hf',rfl,rfl⟩
 by_cases hk0:k=0
 ·subst hk0
  have hw:isName s=false:=by
   unfold isName
   rw[Bool.not_eq_true] at hl
   rw[hl];simp
  rw[hw]
  unfold nmL at hl
  simp only[decide_eq_true_eq] at hl
  generalize s[0]!.toNat=b at*
  by_cases q1:97≤b
  ·simp (disch:=first|omega|assumption|exact bd (by with_unfolding_all rfl)|exact Or.inl rfl|exact Or.inl trivial|exact okL_map _ (fun _=>rfl) _|(simp only[VVlen]<;>omega)|fail) only[O1,WA,slotsL,opdsA,Nat.reduceEqDiff,Nat.reduceLT,Nat.reduceAdd,Nat.reduceBEq,Int.reduceAdd,Int.reduceSub,Int.reduceLT,Int.reduceLE,Int.reduceEq,Int.reduceNeg,↓reduceIte,reduceCtorEq,List.replicate,c27l0,mk_size,hb]
   all_goals try (exfalso;omega)
   exact weak_flat rfl h0 rfl
  ·simp (disch:=first|omega|assumption|exact bd (by with_unfolding_all rfl)|exact Or.inl rfl|exact Or.inl trivial|exact okL_map _ (fun _=>rfl) _|(simp only[VVlen]<;>omega)|fail) only[O1,WA,slotsL,opdsA,Nat.reduceEqDiff,Nat.reduceLT,Nat.reduceAdd,Nat.reduceBEq,Int.reduceAdd,Int.reduceSub,Int.reduceLT,Int.reduceLE,Int.reduceEq,Int.reduceNeg,↓reduceIte,reduceCtorEq,List.replicate,c27l0,mk_size,hb]
   all_goals try (exfalso;omega)
   exact weak_flat rfl h0 rfl
 by_cases hc:nmC s[k]! =true
 ·have hn:=take_all_succ (p:=nmC) hlt ha hc
  have hf':0<k+1→nmL s[0]! =true:=fun _=>hf (by omega)
  unfold nmL at hl
  unfold nmC at hc
  simp only[decide_eq_true_eq] at hl hc
  generalize s[k]!.toNat=b at*
  by_cases q1:97≤b
  ·exfalso;omega
  by_cases q2:b=45
  ·simp (disch:=first|omega|assumption|exact bd (by with_unfolding_all rfl)|exact Or.inl rfl|exact Or.inl trivial|exact okL_map _ (fun _=>rfl) _|(simp only[VVlen]<;>omega)|fail) only[O1,WA,slotsL,opdsA,Nat.reduceEqDiff,Nat.reduceLT,Nat.reduceAdd,Nat.reduceBEq,Int.reduceAdd,Int.reduceSub,Int.reduceLT,Int.reduceLE,Int.reduceEq,Int.reduceNeg,↓reduceIte,reduceCtorEq,List.replicate,c27l0,mk_size,hb]
   all_goals try (exfalso;omega)
   exact ⟨_,_,_,by omega,.refl _ _,k+1,rfl,hlt,hn,hf',rfl,rfl⟩
  ·simp (disch:=first|omega|assumption|exact bd (by with_unfolding_all rfl)|exact Or.inl rfl|exact Or.inl trivial|exact okL_map _ (fun _=>rfl) _|(simp only[VVlen]<;>omega)|fail) only[O1,WA,slotsL,opdsA,Nat.reduceEqDiff,Nat.reduceLT,Nat.reduceAdd,Nat.reduceBEq,Int.reduceAdd,Int.reduceSub,Int.reduceLT,Int.reduceLE,Int.reduceEq,Int.reduceNeg,↓reduceIte,reduceCtorEq,List.replicate,c27l0,mk_size,hb]
   all_goals try (exfalso;omega)
   exact ⟨_,_,_,by omega,.refl _ _,k+1,rfl,hlt,hn,hf',rfl,rfl⟩
 ·have hw:isName s=false:=by
   unfold isName
   rw[all_not (p:=nmC) hlt (by simpa using hc)];simp
  rw[hw]
  unfold nmL at hl
  unfold nmC at hc
  simp only[decide_eq_true_eq] at hl hc
  generalize s[k]!.toNat=b at*
  by_cases q1:97≤b
  ·simp (disch:=first|omega|assumption|exact bd (by with_unfolding_all rfl)|exact Or.inl rfl|exact Or.inl trivial|exact okL_map _ (fun _=>rfl) _|(simp only[VVlen]<;>omega)|fail) only[O1,WA,slotsL,opdsA,Nat.reduceEqDiff,Nat.reduceLT,Nat.reduceAdd,Nat.reduceBEq,Int.reduceAdd,Int.reduceSub,Int.reduceLT,Int.reduceLE,Int.reduceEq,Int.reduceNeg,↓reduceIte,reduceCtorEq,List.replicate,c27l0,mk_size,hb]
   all_goals try (exfalso;omega)
   exact weak_flat rfl h0 rfl
  by_cases q2:b<48
  ·simp (disch:=first|omega|assumption|exact bd (by with_unfolding_all rfl)|exact Or.inl rfl|exact Or.inl trivial|exact okL_map _ (fun _=>rfl) _|(simp only[VVlen]<;>omega)|fail) only[O1,WA,slotsL,opdsA,Nat.reduceEqDiff,Nat.reduceLT,Nat.reduceAdd,Nat.reduceBEq,Int.reduceAdd,Int.reduceSub,Int.reduceLT,Int.reduceLE,Int.reduceEq,Int.reduceNeg,↓reduceIte,reduceCtorEq,List.replicate,c27l0,mk_size,hb]
   all_goals try (exfalso;omega)
   exact weak_flat rfl h0 rfl
  ·simp (disch:=first|omega|assumption|exact bd (by with_unfolding_all rfl)|exact Or.inl rfl|exact Or.inl trivial|exact okL_map _ (fun _=>rfl) _|(simp only[VVlen]<;>omega)|fail) only[O1,WA,slotsL,opdsA,Nat.reduceEqDiff,Nat.reduceLT,Nat.reduceAdd,Nat.reduceBEq,Int.reduceAdd,Int.reduceSub,Int.reduceLT,Int.reduceLE,Int.reduceEq,Int.reduceNeg,↓reduceIte,reduceCtorEq,List.replicate,c27l0,mk_size,hb]
   all_goals try (exfalso;omega)
   exact weak_flat rfl h0 rfl
theorem fine_p (l:List Int) (hl:l.length≤140737488351232):VSpec (EN w (n+1)) 28 [iS l] (.sc (.bool (l.all okC))) ⟨[],0,0⟩:=by
 refine vspec_flat rfl rfl (fun _ _=>rfl) (Nat.le_of_ble_eq_true rfl) (oldVals w) rfl fun C hC h0=>?_
 simp (disch:=first|omega|assumption|exact bd (by with_unfolding_all rfl)|exact Or.inl rfl|exact Or.inl trivial|exact okL_map _ (fun _=>rfl) _|(simp only[VVlen]<;>omega)|fail) only[O1,WA,slotsL,opdsA,Nat.reduceEqDiff,Nat.reduceLT,Nat.reduceAdd,Nat.reduceBEq,Int.reduceAdd,Int.reduceSub,Int.reduceLT,Int.reduceLE,Int.reduceEq,Int.reduceNeg,↓reduceIte,reduceCtorEq,List.replicate,c28]
 refine g_while (fun m' fr st=>∃ k:Nat,m'=l.length - k∧k≤l.length∧(l.take k).all okC=true∧fr= [(0,iS l),(3,iN k)]∧st=⟨[],0,0⟩) l.length ?_ ⟨_,_,.refl _ _,0,by omega,by omega,rfl,rfl,rfl⟩ ?_
 ·rw[hC,callP_rounds];unfold many;omega
 rintro m' fr st ⟨k,rfl,hk,ha,rfl,rfl⟩
 by_cases hlt:k<l.length
 ·by_cases hq:0≤l[k]! ∧l[k]! ≤15
  ·have hn:=take_all_succ (p:=okC) hlt ha (by simpa [okC] using hq)
   simp (disch:=first|omega|assumption|exact bd (by with_unfolding_all rfl)|exact Or.inl rfl|exact Or.inl trivial|exact okL_map _ (fun _=>rfl) _|(simp only[VVlen]<;>omega)|fail) only[O1,WA,slotsL,opdsA,Nat.reduceEqDiff,Nat.reduceLT,Nat.reduceAdd,Nat.reduceBEq,Int.reduceAdd,Int.reduceSub,Int.reduceLT,Int.reduceLE,Int.reduceEq,Int.reduceNeg,↓reduceIte,reduceCtorEq,List.replicate,c28l0,iD_dv]
   all_goals try (exfalso;omega)
   exact ⟨_,_,_,by omega,.refl _ _,k+1,rfl,hlt,hn,rfl,rfl⟩
  ·rw[all_not (p:=okC) hlt (by simpa [okC] using hq)]
   repeat' (first|(simp (disch:=first|omega|assumption|exact bd (by with_unfolding_all rfl)|exact Or.inl rfl|exact Or.inl trivial|exact okL_map _ (fun _=>rfl) _|(simp only[VVlen]<;>omega)|fail) only[O1,WA,slotsL,opdsA,Nat.reduceEqDiff,Nat.reduceLT,Nat.reduceAdd,Nat.reduceBEq,Int.reduceAdd,Int.reduceSub,Int.reduceLT,Int.reduceLE,Int.reduceEq,Int.reduceNeg,↓reduceIte,reduceCtorEq,List.replicate,c28l0,iD_dv])|(apply gG_dec<;>intro _))
   all_goals first|(exfalso;omega)|exact weak_flat rfl h0 rfl
 ·have:k=l.length:=by omega
  subst this
  rw[take_all_end ha]
  simp (disch:=first|omega|assumption|exact bd (by with_unfolding_all rfl)|exact Or.inl rfl|exact Or.inl trivial|exact okL_map _ (fun _=>rfl) _|(simp only[VVlen]<;>omega)|fail) only[O1,WA,slotsL,opdsA,Nat.reduceEqDiff,Nat.reduceLT,Nat.reduceAdd,Nat.reduceBEq,Int.reduceAdd,Int.reduceSub,Int.reduceLT,Int.reduceLE,Int.reduceEq,Int.reduceNeg,↓reduceIte,reduceCtorEq,List.replicate,c28l0,iD_dv]
  all_goals try (exfalso;omega)
  exact weak_flat rfl h0 rfl
theorem odd_p (c:Int):VSpec (EN w (n+1)) 23 [iN c] (.sc (.bool (!okC c))) ⟨[],0,0⟩:=by
 refine vspec_flat rfl rfl (fun _ _=>rfl) (Nat.le_of_ble_eq_true rfl) (oldVals w) rfl fun C hC h0=>?_
 unfold okC
 by_cases h1:c<0
 ·rw[decide_eq_false (by omega:¬ (0≤c∧c≤15))]
  simp (disch:=first|omega|assumption|exact bd (by with_unfolding_all rfl)|exact Or.inl rfl|exact Or.inl trivial|exact okL_map _ (fun _=>rfl) _|(simp only[VVlen]<;>omega)|fail) only[O1,WA,slotsL,opdsA,Nat.reduceEqDiff,Nat.reduceLT,Nat.reduceAdd,Nat.reduceBEq,Int.reduceAdd,Int.reduceSub,Int.reduceLT,Int.reduceLE,Int.reduceEq,Int.reduceNeg,↓reduceIte,reduceCtorEq,List.replicate,c23]
  all_goals try (exfalso;omega)
  exact weak_flat rfl h0 rfl
 ·rw[show decide (0≤c∧c≤15)= !decide (15<c) from by rw[← decide_not];exact decide_eq_decide.2 ⟨fun h=>by omega,fun h=>by omega⟩,Bool.not_not]
  simp (disch:=first|omega|assumption|exact bd (by with_unfolding_all rfl)|exact Or.inl rfl|exact Or.inl trivial|exact okL_map _ (fun _=>rfl) _|(simp only[VVlen]<;>omega)|fail) only[O1,WA,slotsL,opdsA,Nat.reduceEqDiff,Nat.reduceLT,Nat.reduceAdd,Nat.reduceBEq,Int.reduceAdd,Int.reduceSub,Int.reduceLT,Int.reduceLE,Int.reduceEq,Int.reduceNeg,↓reduceIte,reduceCtorEq,List.replicate,c23]
  all_goals try (exfalso;omega)
  exact weak_flat rfl h0 rfl
theorem contains_p (l:List Int) (hl:l.length≤140737488351232):VSpec (EN w (n+3)) 25 [iS l,.sc (.func (.func 23) #[] #[])] (.sc (.bool (!(l.all okC)))) ⟨[],0,0⟩:=by
 have hix:∃ r:Int,(l.all okC=true→r= -1)∧(¬ l.all okC=true→0≤r)∧VSpec (EN w (n+2)) 43 [iS l,.sc (.func (.func 23) #[] #[])] (iN r) ⟨[],0,0⟩:=by
  have main:∀ (j:Nat),j≤l.length→(l.take j).all okC=true→(j<l.length→okC l[j]! =false)→VSpec (EN w (n+2)) 43 [iS l,.sc (.func (.func 23) #[] #[])] (iN (if j<l.length then (j:Int) else -1)) ⟨[],0,0⟩:=by
   intro j hj hall hbad
   refine vspec_flat rfl rfl (fun _ _=>rfl) (Nat.le_of_ble_eq_true rfl) (oldVals w) rfl fun C hC h0=>?_
   simp (disch:=first|omega|assumption|exact bd (by with_unfolding_all rfl)|exact Or.inl rfl|exact Or.inl trivial|exact okL_map _ (fun _=>rfl) _|(simp only[VVlen]<;>omega)|fail) only[O1,WA,slotsL,opdsA,Nat.reduceEqDiff,Nat.reduceLT,Nat.reduceAdd,Nat.reduceBEq,Int.reduceAdd,Int.reduceSub,Int.reduceLT,Int.reduceLE,Int.reduceEq,Int.reduceNeg,↓reduceIte,reduceCtorEq,List.replicate,c43]
   refine g_while (fun m fr st=>∃ (k:Nat),m=l.length - k∧k≤j∧fr= [(0,iS l),(1,.sc (.func (.func 23) #[] #[])),(7,iN l.length),(8,iN k)]∧st=⟨[],0,0⟩) l.length ?_ ⟨_,_,.refl _ _,0,by omega,Nat.zero_le _,rfl,rfl⟩ ?_
   ·rw[hC,callP_rounds];unfold many;omega
   rintro m fr st ⟨k,rfl,hk,rfl,rfl⟩
   by_cases hlt:k<l.length
   case neg=>
    rw[if_neg (by omega)]
    simp (disch:=first|omega|assumption|exact bd (by with_unfolding_all rfl)|exact Or.inl rfl|exact Or.inl trivial|exact okL_map _ (fun _=>rfl) _|(simp only[VVlen]<;>omega)|fail) only[O1,WA,slotsL,opdsA,Nat.reduceEqDiff,Nat.reduceLT,Nat.reduceAdd,Nat.reduceBEq,Int.reduceAdd,Int.reduceSub,Int.reduceLT,Int.reduceLE,Int.reduceEq,Int.reduceNeg,↓reduceIte,reduceCtorEq,List.replicate,c43l0]
    all_goals try (exfalso;omega)
    exact weak_flat rfl h0 rfl
   have h1:=odd_p w n l[k]!
   by_cases hkj:k=j
   ·subst hkj
    rw[hbad hlt] at h1
    rw[if_pos hlt]
    simp (disch:=first|omega|assumption|exact bd (by with_unfolding_all rfl)|exact Or.inl rfl|exact Or.inl trivial|exact okL_map _ (fun _=>rfl) _|(simp only[VVlen]<;>omega)|fail) only[O1,WA,slotsL,opdsA,Nat.reduceEqDiff,Nat.reduceLT,Nat.reduceAdd,Nat.reduceBEq,Int.reduceAdd,Int.reduceSub,Int.reduceLT,Int.reduceLE,Int.reduceEq,Int.reduceNeg,↓reduceIte,reduceCtorEq,List.replicate,c43l0,iD_dv]
    all_goals try (exfalso;omega)
    refine callV_flat (by rw[hC];exact h1.flat rfl rfl) ?_
    simp (disch:=first|omega|assumption|exact bd (by with_unfolding_all rfl)|exact Or.inl rfl|exact Or.inl trivial|exact okL_map _ (fun _=>rfl) _|(simp only[VVlen]<;>omega)|fail) only[O1,WA,slotsL,opdsA,Nat.reduceEqDiff,Nat.reduceLT,Nat.reduceAdd,Nat.reduceBEq,Int.reduceAdd,Int.reduceSub,Int.reduceLT,Int.reduceLE,Int.reduceEq,Int.reduceNeg,↓reduceIte,reduceCtorEq,List.replicate]
    exact weak_flat rfl h0 rfl
   ·have ho:okC l[k]! =true:=List.all_eq_true.1 hall _ (by
     rw[getElem!_pos _ k hlt]
     exact List.mem_iff_getElem.2 ⟨k,by rw[List.length_take];omega,List.getElem_take⟩)
    rw[ho] at h1
    simp (disch:=first|omega|assumption|exact bd (by with_unfolding_all rfl)|exact Or.inl rfl|exact Or.inl trivial|exact okL_map _ (fun _=>rfl) _|(simp only[VVlen]<;>omega)|fail) only[O1,WA,slotsL,opdsA,Nat.reduceEqDiff,Nat.reduceLT,Nat.reduceAdd,Nat.reduceBEq,Int.reduceAdd,Int.reduceSub,Int.reduceLT,Int.reduceLE,Int.reduceEq,Int.reduceNeg,↓reduceIte,reduceCtorEq,List.replicate,c43l0,iD_dv]
    all_goals try (exfalso;omega)
    refine callV_flat (by rw[hC];exact h1.flat rfl rfl) ?_
    simp (disch:=first|omega|assumption|exact bd (by with_unfolding_all rfl)|exact Or.inl rfl|exact Or.inl trivial|exact okL_map _ (fun _=>rfl) _|(simp only[VVlen]<;>omega)|fail) only[O1,WA,slotsL,opdsA,Nat.reduceEqDiff,Nat.reduceLT,Nat.reduceAdd,Nat.reduceBEq,Int.reduceAdd,Int.reduceSub,Int.reduceLT,Int.reduceLE,Int.reduceEq,Int.reduceNeg,↓reduceIte,reduceCtorEq,List.replicate]
    exact ⟨l.length - (k+1),_,_,by omega,.refl _ _,k+1,rfl,by omega,rfl,rfl⟩
  have hex:∀ m,m≤l.length→(l.take m).all okC=true∨∃ j,j<m∧(l.take j).all okC=true∧okC l[j]! =false:=by
   intro m
   induction m with
   |zero=>intro _;exact .inl rfl
   |succ m ih=>
    intro hm
    rcases ih (by omega) with h|⟨j,h1,h2,h3⟩
    ·cases hc:okC l[m]! with
     |true=>exact .inl (take_all_succ (by omega) h hc)
     |false=>exact .inr ⟨m,by omega,h,hc⟩
    ·exact .inr ⟨j,by omega,h2,h3⟩
  rcases hex l.length (Nat.le_refl _) with h|⟨j,h1,h2,h3⟩
  ·refine ⟨_,fun _=>?_,fun hn=>absurd (take_all_end h) hn,main l.length (Nat.le_refl _) h fun h=>absurd h (Nat.lt_irrefl _)⟩
   rw[if_neg (Nat.lt_irrefl _)]
  ·refine ⟨_,fun ha=>?_,fun _=>?_,main j (by omega) h2 fun _=>h3⟩
   ·rw[all_not h1 h3] at ha;cases ha
   ·rw[if_pos h1];omega
 obtain ⟨r,h1,h2,hr⟩:=hix
 by_cases ha:l.all okC=true
 ·have e:=h1 ha
  subst e
  rw[ha]
  refine vspec_flat rfl rfl (fun _ _=>rfl) (Nat.le_of_ble_eq_true rfl) (oldVals w) rfl fun C hC h0=>?_
  simp (disch:=first|omega|assumption|exact bd (by with_unfolding_all rfl)|exact Or.inl rfl|exact Or.inl trivial|exact okL_map _ (fun _=>rfl) _|(simp only[VVlen]<;>omega)|fail) only[O1,WA,slotsL,opdsA,Nat.reduceEqDiff,Nat.reduceLT,Nat.reduceAdd,Nat.reduceBEq,Int.reduceAdd,Int.reduceSub,Int.reduceLT,Int.reduceLE,Int.reduceEq,Int.reduceNeg,↓reduceIte,reduceCtorEq,List.replicate,c25]
  refine callV_flat (by rw[hC];exact hr.flat rfl rfl) ?_
  simp (disch:=first|omega|assumption|exact bd (by with_unfolding_all rfl)|exact Or.inl rfl|exact Or.inl trivial|exact okL_map _ (fun _=>rfl) _|(simp only[VVlen]<;>omega)|fail) only[O1,WA,slotsL,opdsA,Nat.reduceEqDiff,Nat.reduceLT,Nat.reduceAdd,Nat.reduceBEq,Int.reduceAdd,Int.reduceSub,Int.reduceLT,Int.reduceLE,Int.reduceEq,Int.reduceNeg,↓reduceIte,reduceCtorEq,List.replicate]
  exact weak_flat rfl h0 rfl
 ·have e:=h2 ha
  rw[Bool.not_eq_true] at ha
  rw[ha]
  refine vspec_flat rfl rfl (fun _ _=>rfl) (Nat.le_of_ble_eq_true rfl) (oldVals w) rfl fun C hC h0=>?_
  simp (disch:=first|omega|assumption|exact bd (by with_unfolding_all rfl)|exact Or.inl rfl|exact Or.inl trivial|exact okL_map _ (fun _=>rfl) _|(simp only[VVlen]<;>omega)|fail) only[O1,WA,slotsL,opdsA,Nat.reduceEqDiff,Nat.reduceLT,Nat.reduceAdd,Nat.reduceBEq,Int.reduceAdd,Int.reduceSub,Int.reduceLT,Int.reduceLE,Int.reduceEq,Int.reduceNeg,↓reduceIte,reduceCtorEq,List.replicate,c25]
  refine callV_flat (by rw[hC];exact hr.flat rfl rfl) ?_
  simp (disch:=first|omega|assumption|exact bd (by with_unfolding_all rfl)|exact Or.inl rfl|exact Or.inl trivial|exact okL_map _ (fun _=>rfl) _|(simp only[VVlen]<;>omega)|fail) only[O1,WA,slotsL,opdsA,Nat.reduceEqDiff,Nat.reduceLT,Nat.reduceAdd,Nat.reduceBEq,Int.reduceAdd,Int.reduceSub,Int.reduceLT,Int.reduceLE,Int.reduceEq,Int.reduceNeg,↓reduceIte,reduceCtorEq,List.replicate]
  all_goals try (exfalso;omega)
  exact weak_flat rfl h0 rfl
end
def chkF (nm:List UInt8) (sh tr:Int) (th td:List Int) (gw gh:Int) (B:List Bool) (wp wf:List Int):Int:=
 if chkD sh tr th td gw gh B=0 then (if wp.length=th.length∧wf.length=td.length then (if (isName nm && (wp.all okC && wf.all okC))=true then 0 else 8) else 26) else chkD sh tr th td gw gh B
section
variable (w:World) (n:Nat)
theorem fcheck_p (nm:List UInt8) (sh tr:Int) (th td:List Int) (gw gh:Int) (B:List Bool) (wp wf:List Int) (h1:th.length≤140737488351232) (h2:td.length≤140737488351232) (hB:B.length≤140737488351232) (h3:wp.length≤140737488351232) (h4:wf.length≤140737488351232) (h5:nm.length≤1000000):
  VSpec (EN w (n+4)) 8 [flV nm sh tr th td gw gh B wp wf] (iN (chkF nm sh tr th td gw gh B wp wf)) ⟨[],0,0⟩:=by
 have w0:=dcheck_p w n sh tr th td gw gh B h1 h2 hB
 have w1:=named_p w (n+1) nm h5
 have w2:=contains_p w n wp h3
 have w3:=contains_p w n wf h4
 unfold chkF
 refine vspec_flat rfl rfl (fun _ _=>rfl) (Nat.le_of_ble_eq_true rfl) (oldVals w) rfl fun C hC h0=>?_
 generalize chkD sh tr th td gw gh B=D at*
 generalize isName nm=a1 at*
 generalize wp.all okC=a2 at*
 generalize wf.all okC=a3 at*
 by_cases c1:D=0
 case neg=>
  rw[if_neg c1]
  simp (disch:=first|omega|assumption|exact bd (by with_unfolding_all rfl)|exact Or.inl rfl|exact Or.inl trivial|exact okL_map _ (fun _=>rfl) _|(simp only[VVlen]<;>omega)|fail) only[O1,WA,slotsL,opdsA,Nat.reduceEqDiff,Nat.reduceLT,Nat.reduceAdd,Nat.reduceBEq,Int.reduceAdd,Int.reduceSub,Int.reduceLT,Int.reduceLE,Int.reduceEq,Int.reduceNeg,↓reduceIte,reduceCtorEq,List.replicate,c8]
  refine callV_flat (by rw[hC];exact w0.flat rfl rfl) ?_
  simp (disch:=first|omega|assumption|exact bd (by with_unfolding_all rfl)|exact Or.inl rfl|exact Or.inl trivial|exact okL_map _ (fun _=>rfl) _|(simp only[VVlen]<;>omega)|fail) only[O1,WA,slotsL,opdsA,Nat.reduceEqDiff,Nat.reduceLT,Nat.reduceAdd,Nat.reduceBEq,Int.reduceAdd,Int.reduceSub,Int.reduceLT,Int.reduceLE,Int.reduceEq,Int.reduceNeg,↓reduceIte,reduceCtorEq,List.replicate,c1]
  exact weak_flat rfl h0 rfl
 rw[if_pos c1]
 subst c1
 by_cases c2:wp.length=th.length
 case neg=>
  rw[if_neg (fun h=>c2 h.1)]
  simp (disch:=first|omega|assumption|exact bd (by with_unfolding_all rfl)|exact Or.inl rfl|exact Or.inl trivial|exact okL_map _ (fun _=>rfl) _|(simp only[VVlen]<;>omega)|fail) only[O1,WA,slotsL,opdsA,Nat.reduceEqDiff,Nat.reduceLT,Nat.reduceAdd,Nat.reduceBEq,Int.reduceAdd,Int.reduceSub,Int.reduceLT,Int.reduceLE,Int.reduceEq,Int.reduceNeg,↓reduceIte,reduceCtorEq,List.replicate,c8]
  refine callV_flat (by rw[hC];exact w0.flat rfl rfl) ?_
  simp (disch:=first|omega|assumption|exact bd (by with_unfolding_all rfl)|exact Or.inl rfl|exact Or.inl trivial|exact okL_map _ (fun _=>rfl) _|(simp only[VVlen]<;>omega)|fail) only[O1,WA,slotsL,opdsA,Nat.reduceEqDiff,Nat.reduceLT,Nat.reduceAdd,Nat.reduceBEq,Int.reduceAdd,Int.reduceSub,Int.reduceLT,Int.reduceLE,Int.reduceEq,Int.reduceNeg,↓reduceIte,reduceCtorEq,List.replicate]
  all_goals try (exfalso;omega)
  exact weak_flat rfl h0 rfl
 by_cases c3:wf.length=td.length
 case neg=>
  rw[if_neg (fun h=>c3 h.2)]
  simp (disch:=first|omega|assumption|exact bd (by with_unfolding_all rfl)|exact Or.inl rfl|exact Or.inl trivial|exact okL_map _ (fun _=>rfl) _|(simp only[VVlen]<;>omega)|fail) only[O1,WA,slotsL,opdsA,Nat.reduceEqDiff,Nat.reduceLT,Nat.reduceAdd,Nat.reduceBEq,Int.reduceAdd,Int.reduceSub,Int.reduceLT,Int.reduceLE,Int.reduceEq,Int.reduceNeg,↓reduceIte,reduceCtorEq,List.replicate,c8]
  refine callV_flat (by rw[hC];exact w0.flat rfl rfl) ?_
  simp (disch:=first|omega|assumption|exact bd (by with_unfolding_all rfl)|exact Or.inl rfl|exact Or.inl trivial|exact okL_map _ (fun _=>rfl) _|(simp only[VVlen]<;>omega)|fail) only[O1,WA,slotsL,opdsA,Nat.reduceEqDiff,Nat.reduceLT,Nat.reduceAdd,Nat.reduceBEq,Int.reduceAdd,Int.reduceSub,Int.reduceLT,Int.reduceLE,Int.reduceEq,Int.reduceNeg,↓reduceIte,reduceCtorEq,List.replicate]
  all_goals try (exfalso;omega)
  exact weak_flat rfl h0 rfl
 rw[if_pos ⟨c2,c3⟩]
 cases a1
 ·simp (disch:=first|omega|assumption|exact bd (by with_unfolding_all rfl)|exact Or.inl rfl|exact Or.inl trivial|exact okL_map _ (fun _=>rfl) _|(simp only[VVlen]<;>omega)|fail) only[O1,WA,slotsL,opdsA,Nat.reduceEqDiff,Nat.reduceLT,Nat.reduceAdd,Nat.reduceBEq,Int.reduceAdd,Int.reduceSub,Int.reduceLT,Int.reduceLE,Int.reduceEq,Int.reduceNeg,↓reduceIte,reduceCtorEq,List.replicate,c8]
  refine callV_flat (by rw[hC];exact w0.flat rfl rfl) ?_
  simp (disch:=first|omega|assumption|exact bd (by with_unfolding_all rfl)|exact Or.inl rfl|exact Or.inl trivial|exact okL_map _ (fun _=>rfl) _|(simp only[VVlen]<;>omega)|fail) only[O1,WA,slotsL,opdsA,Nat.reduceEqDiff,Nat.reduceLT,Nat.reduceAdd,Nat.reduceBEq,Int.reduceAdd,Int.reduceSub,Int.reduceLT,Int.reduceLE,Int.reduceEq,Int.reduceNeg,↓reduceIte,reduceCtorEq,List.replicate]
  all_goals try (exfalso;omega)
  refine callV_flat (by rw[hC];exact w1.flat rfl rfl) ?_
  simp (disch:=first|omega|assumption|exact bd (by with_unfolding_all rfl)|exact Or.inl rfl|exact Or.inl trivial|exact okL_map _ (fun _=>rfl) _|(simp only[VVlen]<;>omega)|fail) only[O1,WA,slotsL,opdsA,Nat.reduceEqDiff,Nat.reduceLT,Nat.reduceAdd,Nat.reduceBEq,Int.reduceAdd,Int.reduceSub,Int.reduceLT,Int.reduceLE,Int.reduceEq,Int.reduceNeg,↓reduceIte,reduceCtorEq,List.replicate]
  exact weak_flat rfl h0 rfl
 cases a2
 ·simp (disch:=first|omega|assumption|exact bd (by with_unfolding_all rfl)|exact Or.inl rfl|exact Or.inl trivial|exact okL_map _ (fun _=>rfl) _|(simp only[VVlen]<;>omega)|fail) only[O1,WA,slotsL,opdsA,Nat.reduceEqDiff,Nat.reduceLT,Nat.reduceAdd,Nat.reduceBEq,Int.reduceAdd,Int.reduceSub,Int.reduceLT,Int.reduceLE,Int.reduceEq,Int.reduceNeg,↓reduceIte,reduceCtorEq,List.replicate,c8]
  refine callV_flat (by rw[hC];exact w0.flat rfl rfl) ?_
  simp (disch:=first|omega|assumption|exact bd (by with_unfolding_all rfl)|exact Or.inl rfl|exact Or.inl trivial|exact okL_map _ (fun _=>rfl) _|(simp only[VVlen]<;>omega)|fail) only[O1,WA,slotsL,opdsA,Nat.reduceEqDiff,Nat.reduceLT,Nat.reduceAdd,Nat.reduceBEq,Int.reduceAdd,Int.reduceSub,Int.reduceLT,Int.reduceLE,Int.reduceEq,Int.reduceNeg,↓reduceIte,reduceCtorEq,List.replicate]
  all_goals try (exfalso;omega)
  refine callV_flat (by rw[hC];exact w1.flat rfl rfl) ?_
  simp (disch:=first|omega|assumption|exact bd (by with_unfolding_all rfl)|exact Or.inl rfl|exact Or.inl trivial|exact okL_map _ (fun _=>rfl) _|(simp only[VVlen]<;>omega)|fail) only[O1,WA,slotsL,opdsA,Nat.reduceEqDiff,Nat.reduceLT,Nat.reduceAdd,Nat.reduceBEq,Int.reduceAdd,Int.reduceSub,Int.reduceLT,Int.reduceLE,Int.reduceEq,Int.reduceNeg,↓reduceIte,reduceCtorEq,List.replicate]
  refine callV_flat (by rw[hC];exact w2.flat rfl rfl) ?_
  simp (disch:=first|omega|assumption|exact bd (by with_unfolding_all rfl)|exact Or.inl rfl|exact Or.inl trivial|exact okL_map _ (fun _=>rfl) _|(simp only[VVlen]<;>omega)|fail) only[O1,WA,slotsL,opdsA,Nat.reduceEqDiff,Nat.reduceLT,Nat.reduceAdd,Nat.reduceBEq,Int.reduceAdd,Int.reduceSub,Int.reduceLT,Int.reduceLE,Int.reduceEq,Int.reduceNeg,↓reduceIte,reduceCtorEq,List.replicate]
  exact weak_flat rfl h0 rfl
 cases a3
 all_goals
  repeat' (first|(simp (disch:=first|omega|assumption|exact bd (by with_unfolding_all rfl)|exact Or.inl rfl|exact Or.inl trivial|exact okL_map _ (fun _=>rfl) _|(simp only[VVlen]<;>omega)|fail) only[O1,WA,slotsL,opdsA,Nat.reduceEqDiff,Nat.reduceLT,Nat.reduceAdd,Nat.reduceBEq,Int.reduceAdd,Int.reduceSub,Int.reduceLT,Int.reduceLE,Int.reduceEq,Int.reduceNeg,↓reduceIte,reduceCtorEq,List.replicate,c8]))
  refine callV_flat (by rw[hC];exact w0.flat rfl rfl) ?_
  repeat' (first|(simp (disch:=first|omega|assumption|exact bd (by with_unfolding_all rfl)|exact Or.inl rfl|exact Or.inl trivial|exact okL_map _ (fun _=>rfl) _|(simp only[VVlen]<;>omega)|fail) only[O1,WA,slotsL,opdsA,Nat.reduceEqDiff,Nat.reduceLT,Nat.reduceAdd,Nat.reduceBEq,Int.reduceAdd,Int.reduceSub,Int.reduceLT,Int.reduceLE,Int.reduceEq,Int.reduceNeg,↓reduceIte,reduceCtorEq,List.replicate]))
  all_goals try (exfalso;omega)
  refine callV_flat (by rw[hC];exact w1.flat rfl rfl) ?_
  repeat' (first|(simp (disch:=first|omega|assumption|exact bd (by with_unfolding_all rfl)|exact Or.inl rfl|exact Or.inl trivial|exact okL_map _ (fun _=>rfl) _|(simp only[VVlen]<;>omega)|fail) only[O1,WA,slotsL,opdsA,Nat.reduceEqDiff,Nat.reduceLT,Nat.reduceAdd,Nat.reduceBEq,Int.reduceAdd,Int.reduceSub,Int.reduceLT,Int.reduceLE,Int.reduceEq,Int.reduceNeg,↓reduceIte,reduceCtorEq,List.replicate]))
  refine callV_flat (by rw[hC];exact w2.flat rfl rfl) ?_
  repeat' (first|(simp (disch:=first|omega|assumption|exact bd (by with_unfolding_all rfl)|exact Or.inl rfl|exact Or.inl trivial|exact okL_map _ (fun _=>rfl) _|(simp only[VVlen]<;>omega)|fail) only[O1,WA,slotsL,opdsA,Nat.reduceEqDiff,Nat.reduceLT,Nat.reduceAdd,Nat.reduceBEq,Int.reduceAdd,Int.reduceSub,Int.reduceLT,Int.reduceLE,Int.reduceEq,Int.reduceNeg,↓reduceIte,reduceCtorEq,List.replicate]))
  refine callV_flat (by rw[hC];exact w3.flat rfl rfl) ?_
  repeat' (first|(simp (disch:=first|omega|assumption|exact bd (by with_unfolding_all rfl)|exact Or.inl rfl|exact Or.inl trivial|exact okL_map _ (fun _=>rfl) _|(simp only[VVlen]<;>omega)|fail) only[O1,WA,slotsL,opdsA,Nat.reduceEqDiff,Nat.reduceLT,Nat.reduceAdd,Nat.reduceBEq,Int.reduceAdd,Int.reduceSub,Int.reduceLT,Int.reduceLE,Int.reduceEq,Int.reduceNeg,↓reduceIte,reduceCtorEq,List.replicate]))
  exact weak_flat rfl h0 rfl
theorem check19_p (nm:List UInt8) (sh tr:Int) (th td:List Int) (gw gh:Int) (B:List Bool) (wp wf:List Int) (h1:th.length≤140737488351232) (h2:td.length≤140737488351232) (hB:B.length≤140737488351232) (h3:wp.length≤140737488351232) (h4:wf.length≤140737488351232) (h5:nm.length≤1000000):
  VSpec (EN w (n+3)) 9 [flV nm sh tr th td gw gh B wp wf] (iN (chkF nm sh tr th td gw gh B wp wf)) ⟨[],0,0⟩:=by
 have w0:=check03_p w n sh tr th td gw gh B h1 h2 hB
 have w1:=name_p w (n+1) nm h5
 have w2:=fine_p w (n+1) wp h3
 have w3:=fine_p w (n+1) wf h4
 unfold chkF
 refine vspec_flat rfl rfl (fun _ _=>rfl) (Nat.le_of_ble_eq_true rfl) (oldVals w) rfl fun C hC h0=>?_
 generalize chkD sh tr th td gw gh B=D at*
 generalize isName nm=a1 at*
 generalize wp.all okC=a2 at*
 generalize wf.all okC=a3 at*
 by_cases c1:D=0
 case neg=>
  rw[if_neg c1]
  simp (disch:=first|omega|assumption|exact bd (by with_unfolding_all rfl)|exact Or.inl rfl|exact Or.inl trivial|exact okL_map _ (fun _=>rfl) _|(simp only[VVlen]<;>omega)|fail) only[O1,WA,slotsL,opdsA,Nat.reduceEqDiff,Nat.reduceLT,Nat.reduceAdd,Nat.reduceBEq,Int.reduceAdd,Int.reduceSub,Int.reduceLT,Int.reduceLE,Int.reduceEq,Int.reduceNeg,↓reduceIte,reduceCtorEq,List.replicate,c9]
  refine callV_flat (by rw[hC];exact w0.flat rfl rfl) ?_
  simp (disch:=first|omega|assumption|exact bd (by with_unfolding_all rfl)|exact Or.inl rfl|exact Or.inl trivial|exact okL_map _ (fun _=>rfl) _|(simp only[VVlen]<;>omega)|fail) only[O1,WA,slotsL,opdsA,Nat.reduceEqDiff,Nat.reduceLT,Nat.reduceAdd,Nat.reduceBEq,Int.reduceAdd,Int.reduceSub,Int.reduceLT,Int.reduceLE,Int.reduceEq,Int.reduceNeg,↓reduceIte,reduceCtorEq,List.replicate,c1]
  refine callV_flat (by rw[hC];exact w0.flat rfl rfl) ?_
  repeat' (first|(simp (disch:=first|omega|assumption|exact bd (by with_unfolding_all rfl)|exact Or.inl rfl|exact Or.inl trivial|exact okL_map _ (fun _=>rfl) _|(simp only[VVlen]<;>omega)|fail) only[O1,WA,slotsL,opdsA,Nat.reduceEqDiff,Nat.reduceLT,Nat.reduceAdd,Nat.reduceBEq,Int.reduceAdd,Int.reduceSub,Int.reduceLT,Int.reduceLE,Int.reduceEq,Int.reduceNeg,↓reduceIte,reduceCtorEq,List.replicate,c1])|apply gC_drawW|((first|apply gI_dec|apply gG_dec|apply gPG_dec|apply gI_var|apply gG_var|apply gPG_var)<;>intro _))
  exact weak_flat rfl h0 rfl
 rw[if_pos c1]
 subst c1
 by_cases c2:wp.length=th.length
 case neg=>
  rw[if_neg (fun h=>c2 h.1)]
  simp (disch:=first|omega|assumption|exact bd (by with_unfolding_all rfl)|exact Or.inl rfl|exact Or.inl trivial|exact okL_map _ (fun _=>rfl) _|(simp only[VVlen]<;>omega)|fail) only[O1,WA,slotsL,opdsA,Nat.reduceEqDiff,Nat.reduceLT,Nat.reduceAdd,Nat.reduceBEq,Int.reduceAdd,Int.reduceSub,Int.reduceLT,Int.reduceLE,Int.reduceEq,Int.reduceNeg,↓reduceIte,reduceCtorEq,List.replicate,c9]
  refine callV_flat (by rw[hC];exact w0.flat rfl rfl) ?_
  simp (disch:=first|omega|assumption|exact bd (by with_unfolding_all rfl)|exact Or.inl rfl|exact Or.inl trivial|exact okL_map _ (fun _=>rfl) _|(simp only[VVlen]<;>omega)|fail) only[O1,WA,slotsL,opdsA,Nat.reduceEqDiff,Nat.reduceLT,Nat.reduceAdd,Nat.reduceBEq,Int.reduceAdd,Int.reduceSub,Int.reduceLT,Int.reduceLE,Int.reduceEq,Int.reduceNeg,↓reduceIte,reduceCtorEq,List.replicate]
  all_goals try (exfalso;omega)
  exact weak_flat rfl h0 rfl
 by_cases c3:wf.length=td.length
 case neg=>
  rw[if_neg (fun h=>c3 h.2)]
  simp (disch:=first|omega|assumption|exact bd (by with_unfolding_all rfl)|exact Or.inl rfl|exact Or.inl trivial|exact okL_map _ (fun _=>rfl) _|(simp only[VVlen]<;>omega)|fail) only[O1,WA,slotsL,opdsA,Nat.reduceEqDiff,Nat.reduceLT,Nat.reduceAdd,Nat.reduceBEq,Int.reduceAdd,Int.reduceSub,Int.reduceLT,Int.reduceLE,Int.reduceEq,Int.reduceNeg,↓reduceIte,reduceCtorEq,List.replicate,c9]
  refine callV_flat (by rw[hC];exact w0.flat rfl rfl) ?_
  simp (disch:=first|omega|assumption|exact bd (by with_unfolding_all rfl)|exact Or.inl rfl|exact Or.inl trivial|exact okL_map _ (fun _=>rfl) _|(simp only[VVlen]<;>omega)|fail) only[O1,WA,slotsL,opdsA,Nat.reduceEqDiff,Nat.reduceLT,Nat.reduceAdd,Nat.reduceBEq,Int.reduceAdd,Int.reduceSub,Int.reduceLT,Int.reduceLE,Int.reduceEq,Int.reduceNeg,↓reduceIte,reduceCtorEq,List.replicate]
  all_goals try (exfalso;omega)
  exact weak_flat rfl h0 rfl
 rw[if_pos ⟨c2,c3⟩]
 cases a1
 ·simp (disch:=first|omega|assumption|exact bd (by with_unfolding_all rfl)|exact Or.inl rfl|exact Or.inl trivial|exact okL_map _ (fun _=>rfl) _|(simp only[VVlen]<;>omega)|fail) only[O1,WA,slotsL,opdsA,Nat.reduceEqDiff,Nat.reduceLT,Nat.reduceAdd,Nat.reduceBEq,Int.reduceAdd,Int.reduceSub,Int.reduceLT,Int.reduceLE,Int.reduceEq,Int.reduceNeg,↓reduceIte,reduceCtorEq,List.replicate,c9]
  refine callV_flat (by rw[hC];exact w0.flat rfl rfl) ?_
  simp (disch:=first|omega|assumption|exact bd (by with_unfolding_all rfl)|exact Or.inl rfl|exact Or.inl trivial|exact okL_map _ (fun _=>rfl) _|(simp only[VVlen]<;>omega)|fail) only[O1,WA,slotsL,opdsA,Nat.reduceEqDiff,Nat.reduceLT,Nat.reduceAdd,Nat.reduceBEq,Int.reduceAdd,Int.reduceSub,Int.reduceLT,Int.reduceLE,Int.reduceEq,Int.reduceNeg,↓reduceIte,reduceCtorEq,List.replicate]
  all_goals try (exfalso;omega)
  refine callV_flat (by rw[hC];exact w1.flat rfl rfl) ?_
  simp (disch:=first|omega|assumption|exact bd (by with_unfolding_all rfl)|exact Or.inl rfl|exact Or.inl trivial|exact okL_map _ (fun _=>rfl) _|(simp only[VVlen]<;>omega)|fail) only[O1,WA,slotsL,opdsA,Nat.reduceEqDiff,Nat.reduceLT,Nat.reduceAdd,Nat.reduceBEq,Int.reduceAdd,Int.reduceSub,Int.reduceLT,Int.reduceLE,Int.reduceEq,Int.reduceNeg,↓reduceIte,reduceCtorEq,List.replicate]
  exact weak_flat rfl h0 rfl
 cases a2
 ·simp (disch:=first|omega|assumption|exact bd (by with_unfolding_all rfl)|exact Or.inl rfl|exact Or.inl trivial|exact okL_map _ (fun _=>rfl) _|(simp only[VVlen]<;>omega)|fail) only[O1,WA,slotsL,opdsA,Nat.reduceEqDiff,Nat.reduceLT,Nat.reduceAdd,Nat.reduceBEq,Int.reduceAdd,Int.reduceSub,Int.reduceLT,Int.reduceLE,Int.reduceEq,Int.reduceNeg,↓reduceIte,reduceCtorEq,List.replicate,c9]
  refine callV_flat (by rw[hC];exact w0.flat rfl rfl) ?_
  simp (disch:=first|omega|assumption|exact bd (by with_unfolding_all rfl)|exact Or.inl rfl|exact Or.inl trivial|exact okL_map _ (fun _=>rfl) _|(simp only[VVlen]<;>omega)|fail) only[O1,WA,slotsL,opdsA,Nat.reduceEqDiff,Nat.reduceLT,Nat.reduceAdd,Nat.reduceBEq,Int.reduceAdd,Int.reduceSub,Int.reduceLT,Int.reduceLE,Int.reduceEq,Int.reduceNeg,↓reduceIte,reduceCtorEq,List.replicate]
  all_goals try (exfalso;omega)
  refine callV_flat (by rw[hC];exact w1.flat rfl rfl) ?_
  simp (disch:=first|omega|assumption|exact bd (by with_unfolding_all rfl)|exact Or.inl rfl|exact Or.inl trivial|exact okL_map _ (fun _=>rfl) _|(simp only[VVlen]<;>omega)|fail) only[O1,WA,slotsL,opdsA,Nat.reduceEqDiff,Nat.reduceLT,Nat.reduceAdd,Nat.reduceBEq,Int.reduceAdd,Int.reduceSub,Int.reduceLT,Int.reduceLE,Int.reduceEq,Int.reduceNeg,↓reduceIte,reduceCtorEq,List.replicate]
  refine callV_flat (by rw[hC];exact w2.flat rfl rfl) ?_
  simp (disch:=first|omega|assumption|exact bd (by with_unfolding_all rfl)|exact Or.inl rfl|exact Or.inl trivial|exact okL_map _ (fun _=>rfl) _|(simp only[VVlen]<;>omega)|fail) only[O1,WA,slotsL,opdsA,Nat.reduceEqDiff,Nat.reduceLT,Nat.reduceAdd,Nat.reduceBEq,Int.reduceAdd,Int.reduceSub,Int.reduceLT,Int.reduceLE,Int.reduceEq,Int.reduceNeg,↓reduceIte,reduceCtorEq,List.replicate]
  exact weak_flat rfl h0 rfl
 cases a3
 all_goals
  repeat' (first|(simp (disch:=first|omega|assumption|exact bd (by with_unfolding_all rfl)|exact Or.inl rfl|exact Or.inl trivial|exact okL_map _ (fun _=>rfl) _|(simp only[VVlen]<;>omega)|fail) only[O1,WA,slotsL,opdsA,Nat.reduceEqDiff,Nat.reduceLT,Nat.reduceAdd,Nat.reduceBEq,Int.reduceAdd,Int.reduceSub,Int.reduceLT,Int.reduceLE,Int.reduceEq,Int.reduceNeg,↓reduceIte,reduceCtorEq,List.replicate,c9]))
  refine callV_flat (by rw[hC];exact w0.flat rfl rfl) ?_
  repeat' (first|(simp (disch:=first|omega|assumption|exact bd (by with_unfolding_all rfl)|exact Or.inl rfl|exact Or.inl trivial|exact okL_map _ (fun _=>rfl) _|(simp only[VVlen]<;>omega)|fail) only[O1,WA,slotsL,opdsA,Nat.reduceEqDiff,Nat.reduceLT,Nat.reduceAdd,Nat.reduceBEq,Int.reduceAdd,Int.reduceSub,Int.reduceLT,Int.reduceLE,Int.reduceEq,Int.reduceNeg,↓reduceIte,reduceCtorEq,List.replicate]))
  all_goals try (exfalso;omega)
  refine callV_flat (by rw[hC];exact w1.flat rfl rfl) ?_
  repeat' (first|(simp (disch:=first|omega|assumption|exact bd (by with_unfolding_all rfl)|exact Or.inl rfl|exact Or.inl trivial|exact okL_map _ (fun _=>rfl) _|(simp only[VVlen]<;>omega)|fail) only[O1,WA,slotsL,opdsA,Nat.reduceEqDiff,Nat.reduceLT,Nat.reduceAdd,Nat.reduceBEq,Int.reduceAdd,Int.reduceSub,Int.reduceLT,Int.reduceLE,Int.reduceEq,Int.reduceNeg,↓reduceIte,reduceCtorEq,List.replicate]))
  refine callV_flat (by rw[hC];exact w2.flat rfl rfl) ?_
  repeat' (first|(simp (disch:=first|omega|assumption|exact bd (by with_unfolding_all rfl)|exact Or.inl rfl|exact Or.inl trivial|exact okL_map _ (fun _=>rfl) _|(simp only[VVlen]<;>omega)|fail) only[O1,WA,slotsL,opdsA,Nat.reduceEqDiff,Nat.reduceLT,Nat.reduceAdd,Nat.reduceBEq,Int.reduceAdd,Int.reduceSub,Int.reduceLT,Int.reduceLE,Int.reduceEq,Int.reduceNeg,↓reduceIte,reduceCtorEq,List.replicate]))
  refine callV_flat (by rw[hC];exact w3.flat rfl rfl) ?_
  repeat' (first|(simp (disch:=first|omega|assumption|exact bd (by with_unfolding_all rfl)|exact Or.inl rfl|exact Or.inl trivial|exact okL_map _ (fun _=>rfl) _|(simp only[VVlen]<;>omega)|fail) only[O1,WA,slotsL,opdsA,Nat.reduceEqDiff,Nat.reduceLT,Nat.reduceAdd,Nat.reduceBEq,Int.reduceAdd,Int.reduceSub,Int.reduceLT,Int.reduceLE,Int.reduceEq,Int.reduceNeg,↓reduceIte,reduceCtorEq,List.replicate]))
  exact weak_flat rfl h0 rfl
end
section
variable (w:World) (n:Nat)
def selfP (b:Nat) (p:V):Prop:=p= .sc (.pointer none)∨p= .ptr b 0
theorem copyCheck_w {C:Ctx} {st:VSt} {Q:V→VSt→Prop} (hC:C.E=EN w (n+2)) (b e:Nat) (p g:V) (hb:aget st.own b=some (.box 45 e [p,g])) (hp:selfP b p) (hro:st.ro≤b)
  (hq:Q (.tup []) ⟨aset st.own b (.box 45 e [.ptr b 0,g]),st.next,st.ro⟩):CallV C 35 [.ptr b 0] st Q:=by
 refine callV_w hC rfl rfl (fun _ _=>rfl) (Nat.le_of_ble_eq_true rfl) hq fun C' hC' hn=>?_
 obtain ⟨H,nx,ro⟩:=st
 have h2:(2:Nat)≤ [p,g].length:=Nat.le_refl _
 rcases hp with rfl|rfl
 ·simp (disch:=first|omega|assumption|exact bd (by with_unfolding_all rfl)|exact Or.inl rfl|exact Or.inl trivial|exact okL_map _ (fun _=>rfl) _|(simp only[VVlen]<;>omega)|fail) only[O1,WA,slotsL,opdsA,Nat.reduceEqDiff,Nat.reduceLT,Nat.reduceAdd,Nat.reduceBEq,Int.reduceAdd,Int.reduceSub,Int.reduceLT,Int.reduceLE,Int.reduceEq,Int.reduceNeg,↓reduceIte,reduceCtorEq,List.replicate,c35,hb,eqNilP_ptr,eqNilP_nil]
  refine callV_same hC' (fun x s=>?_) ?_
  ·show PR w _ [x] s=some (x,[])
   rfl
  simp (disch:=first|omega|assumption|exact bd (by with_unfolding_all rfl)|exact Or.inl rfl|exact Or.inl trivial|exact okL_map _ (fun _=>rfl) _|(simp only[VVlen]<;>omega)|fail) only[O1,WA,slotsL,opdsA,Nat.reduceEqDiff,Nat.reduceLT,Nat.reduceAdd,Nat.reduceBEq,Int.reduceAdd,Int.reduceSub,Int.reduceLT,Int.reduceLE,Int.reduceEq,Int.reduceNeg,↓reduceIte,reduceCtorEq,List.replicate,hb,eqNilP_ptr]
  exact .refl _ _
 ·have hs:aset H b (.box 45 e [.ptr b 0,g])=H:=aset_self _ _ _ hb
  simp (disch:=first|omega|assumption|exact bd (by with_unfolding_all rfl)|exact Or.inl rfl|exact Or.inl trivial|exact okL_map _ (fun _=>rfl) _|(simp only[VVlen]<;>omega)|fail) only[O1,WA,slotsL,opdsA,Nat.reduceEqDiff,Nat.reduceLT,Nat.reduceAdd,Nat.reduceBEq,Int.reduceAdd,Int.reduceSub,Int.reduceLT,Int.reduceLE,Int.reduceEq,Int.reduceNeg,↓reduceIte,reduceCtorEq,List.replicate,c35,hb,eqPtrV_same,eqNilP_ptr,eqNilP_nil]
  rw[hs]
  exact .refl _ _
theorem writeString_w {C:Ctx} {st:VSt} {Q:V→VSt→Prop} (hC:C.E=EN w (n+3)) (b r:Nat) (p:V) (acc s:ByteArray) (hb:aget st.own b=some (.box 45 1 [p,.gr 2 r acc.size])) (hr:aget st.own r=some (.gro 5 1 false (strD acc))) (hp:selfP b p) (hro:st.ro≤b) (hro2:st.ro≤r) (hrb:r ≠ b) (hlt:b ≠ st.next)
  (hsz:acc.size+s.size≤1099511627776) (hq:Q (.tup [.sc (.int .i64 s.size),.sc .nilIface]) ⟨(st.next,.gro 5 1 false (strD (acc++s)))::aset (adel r st.own) b (.box 45 1 [.ptr b 0,.gr 2 st.next (acc.size+s.size)]),st.next+1,st.ro⟩):
  CallV C 14 [.ptr b 0,.sc (.string s)] st Q:=by
 refine callV_w hC rfl rfl (fun _ _=>rfl) (Nat.le_of_ble_eq_true rfl) hq fun C' hC' hn=>?_
 obtain ⟨H,nx,ro⟩:=st
 have h1:=strD_len acc
 have h2:=strD_ok s
 have a1:aget (aset H b (.box 45 1 [.ptr b 0,.gr 2 r acc.size])) b=some (.box 45 1 [.ptr b 0,.gr 2 r acc.size]):=aget_aset_eq hb
 have a2:aget (aset H b (.box 45 1 [.ptr b 0,.gr 2 r acc.size])) r=some (.gro 5 1 false (strD acc)):=by rw[aget_aset _ _ _ _ _ hb,if_neg hrb];exact hr
 have hbr:¬ b=r:=fun e=>hrb e.symm
 have a3:aget (adel r (aset H b (.box 45 1 [.ptr b 0,.gr 2 r acc.size]))) b=some (.box 45 1 [.ptr b 0,.gr 2 r acc.size]):=by rw[aget_adel,if_neg hbr];exact a1
 simp (disch:=first|omega|assumption|exact bd (by with_unfolding_all rfl)|exact Or.inl rfl|exact Or.inl trivial|exact okL_map _ (fun _=>rfl) _|(simp only[VVlen]<;>omega)|fail) only[O1,WA,slotsL,opdsA,Nat.reduceEqDiff,Nat.reduceLT,Nat.reduceAdd,Nat.reduceBEq,Int.reduceAdd,Int.reduceSub,Int.reduceLT,Int.reduceLE,Int.reduceEq,Int.reduceNeg,↓reduceIte,reduceCtorEq,List.replicate,c14]
 refine copyCheck_w w n hC' b 1 p _ hb hp hro ?_
 simp (disch:=first|omega|assumption|exact bd (by with_unfolding_all rfl)|exact Or.inl rfl|exact Or.inl trivial|exact okL_map _ (fun _=>rfl) _|(simp only[VVlen]<;>omega)|fail) only[O1,WA,slotsL,opdsA,Nat.reduceEqDiff,Nat.reduceLT,Nat.reduceAdd,Nat.reduceBEq,Int.reduceAdd,Int.reduceSub,Int.reduceLT,Int.reduceLE,Int.reduceEq,Int.reduceNeg,↓reduceIte,reduceCtorEq,List.replicate,a1,a2,a3,srcOf_str,strD_eq,hbr,hlt,strD_append,frozA_none]
 rw[adel_aset _ _ _ _ hrb,aset_aset]
 exact .refl _ _
theorem string_w {C:Ctx} {st:VSt} {Q:V→VSt→Prop} (hC:C.E=EN w (n+1)) (b r:Nat) (p:V) (acc:ByteArray) (hb:aget st.own b=some (.box 45 1 [p,.gr 2 r acc.size])) (hr:aget st.own r=some (.gro 5 1 false (strD acc))) (hro:st.ro≤b) (hro2:st.ro≤r)
  (hsz:acc.size≤1099511627776) (hq:∀ st',st'.ro=st.ro→Q (.sc (.string acc)) st'):CallV C 18 [.ptr b 0] st Q:=by
 obtain ⟨H,nx,ro⟩:=st
 by_cases h0:acc.size=0
 ·rw[h0] at hb
  have hs:acc=ByteArray.empty:=by
   apply ByteArray.ext;apply Array.ext'
   rw[List.eq_nil_of_length_eq_zero (show acc.data.toList.length=0 by simpa using h0)]
   rfl
  refine callV_wW (st':=⟨aset H b (.box 45 1 [p,.sc (.slice none 0 0)]),nx,ro⟩) hC rfl rfl (fun _ _=>rfl) (Nat.le_of_ble_eq_true rfl) (hq ⟨aset H b (.box 45 1 [p,.sc (.slice none 0 0)]),nx,ro⟩ rfl) (fun C' hn=>?_) fun C' hC' hn=>?_
  ·exact weak_cell (C:=C') (st:=⟨H,nx,ro⟩) (k:=1) hb rfl same_gr0
  have a1:aget (aset H b (.box 45 1 [p,.sc (.slice none 0 0)])) b=some (.box 45 1 [p,.sc (.slice none 0 0)]):=aget_aset_eq hb
  rw[hs]
  simp (disch:=first|omega|assumption|exact bd (by with_unfolding_all rfl)|exact Or.inl rfl|exact Or.inl trivial|exact okL_map _ (fun _=>rfl) _|(simp only[VVlen]<;>omega)|fail) only[O1,WA,slotsL,opdsA,Nat.reduceEqDiff,Nat.reduceLT,Nat.reduceAdd,Nat.reduceBEq,Int.reduceAdd,Int.reduceSub,Int.reduceLT,Int.reduceLE,Int.reduceEq,Int.reduceNeg,↓reduceIte,reduceCtorEq,List.replicate,c18,a1,vustr_nil]
  exact .refl _ _
 ·refine callV_w hC rfl rfl (fun _ _=>rfl) (Nat.le_of_ble_eq_true rfl) (hq ⟨adel r H,nx,ro⟩ rfl) fun C' hC' hn=>?_
  have hv:=vustr_gro ⟨H,nx,ro⟩ 5 1 r acc hr hro2 (by omega) hsz
  simp (disch:=first|omega|assumption|exact bd (by with_unfolding_all rfl)|exact Or.inl rfl|exact Or.inl trivial|exact okL_map _ (fun _=>rfl) _|(simp only[VVlen]<;>omega)|fail) only[O1,WA,slotsL,opdsA,Nat.reduceEqDiff,Nat.reduceLT,Nat.reduceAdd,Nat.reduceBEq,Int.reduceAdd,Int.reduceSub,Int.reduceLT,Int.reduceLE,Int.reduceEq,Int.reduceNeg,↓reduceIte,reduceCtorEq,List.replicate,c18,hb,h0,hv]
  exact .refl _ _
theorem wStr_w {C:Ctx} {st:VSt} {Q:V→VSt→Prop} (hC:C.E=EN w (n+3)) (b r:Nat) (p:V) (l x:List UInt8) (hb:aget st.own b=some (.box 45 1 [p,.gr 2 r l.length])) (hr:aget st.own r=some (.gro 5 1 false (strD ⟨l.toArray⟩))) (hp:selfP b p) (hro:st.ro≤b) (hro2:st.ro≤r) (hrb:r ≠ b) (hlt:b ≠ st.next)
  (hsz:l.length+x.length≤1099511627776) (hq:Q (.tup [.sc (.int .i64 x.length),.sc .nilIface]) ⟨(st.next,.gro 5 1 false (strD ⟨(l++x).toArray⟩))::aset (adel r st.own) b (.box 45 1 [.ptr b 0,.gr 2 st.next (l.length+x.length)]),st.next+1,st.ro⟩):
  CallV C 14 [.ptr b 0,strV x] st Q:=by
 have h1:=mk_size l
 have h2:=mk_size x
 have h3:(ByteArray.mk l.toArray)++(ByteArray.mk x.toArray)=⟨(l++x).toArray⟩:=by
  apply ByteArray.ext;apply Array.ext'
  rw[ByteArray.data_append,Array.toList_append]
 refine writeString_w w n hC b r p ⟨l.toArray⟩ ⟨x.toArray⟩ (by rw[h1];exact hb) hr hp hro hro2 hrb hlt (by rw[h1,h2];exact hsz) ?_
 rw[h1,h2,h3]
 exact hq
end
def lineK (k:Nat) (z:Int):List UInt8:=Lib.itoa ((k:Int)+1)++61::(Lib.itoa z++ [10])
def keysTo (l:List Int) (m:Int):Nat→List UInt8
 |0=> []
 |k+1=>keysTo l m k++lineK k (l[k]! +m)
theorem lineK_len (k:Nat) (z:Int) (hk:k≤1000000) (h0:0≤z) (h1:z≤1000000):(lineK k z).length≤50:=by
 have a:=Lib.itoa_length_le ((k:Int)+1) (by omega) (by omega)
 have b:=Lib.itoa_length_le z (by omega) (by omega)
 simp only[lineK,List.length_append,List.length_cons,List.length_nil]
 omega
def numsOK (l:List Int) (m:Int):Prop:=l.length≤1000∧∀ j,j<l.length→0≤l[j]! +m∧l[j]! +m≤1000000
theorem keysTo_len (l:List Int) (m:Int) (h:numsOK l m):∀ k,k≤l.length→(keysTo l m k).length≤50*k
 |0,_=>Nat.le_refl _
 |k+1,hk=>by
  have ih:=keysTo_len l m h k (by omega)
  have h2:=h.2 k (by omega)
  have:=lineK_len k (l[k]! +m) (by have:=h.1;omega) h2.1 h2.2
  rw[keysTo,List.length_append]
  omega
def upL (B:List Bool) (tr t:Nat):Nat→List (List UInt8)
 |0=> []
 |s+1=>upL B tr t s++(if B[s*tr+t]! then [Lib.itoa ((s:Int)+1)] else [])
def tieK (B:List Bool) (tr sh t:Nat):List UInt8:=Lib.itoa ((t:Int)+1)++61::(join 44 (upL B tr t sh)++ [10])
def tieTo (B:List Bool) (tr sh:Nat):Nat→List UInt8
 |0=> []
 |t+1=>tieTo B tr sh t++tieK B tr sh t
theorem upL_len (B:List Bool) (tr t:Nat):∀ s,(upL B tr t s).length≤s
 |0=>Nat.le_refl _
 |s+1=>by
  have:=upL_len B tr t s
  rw[upL,List.length_append]
  split<;>simp<;>omega
theorem join_upL (B:List Bool) (tr t:Nat) (s:Nat):join 44 (upL B tr t (s+1))=if B[s*tr+t]! then (if upL B tr t s= [] then Lib.itoa ((s:Int)+1) else join 44 (upL B tr t s)++44::Lib.itoa ((s:Int)+1)) else join 44 (upL B tr t s):=by
 rw[upL]
 split
 ·split
  ·rename_i h;rw[h];rfl
  ·rename_i h;exact join_snoc _ _ h
 ·rw[List.append_nil]
theorem join_upL_len (B:List Bool) (tr t:Nat):∀ s,s≤1000→(join 44 (upL B tr t s)).length≤22*s
 |0,_=>Nat.le_refl _
 |s+1,h=>by
  have ih:=join_upL_len B tr t s (by omega)
  have a:=Lib.itoa_length_le ((s:Int)+1) (by omega) (by omega)
  rw[join_upL]
  split
  ·split
   ·omega
   ·rw[List.length_append,List.length_cons];omega
  ·omega
theorem tieK_len (B:List Bool) (tr sh t:Nat) (hs:sh≤40) (ht:t≤1000):(tieK B tr sh t).length≤1000:=by
 have a:=Lib.itoa_length_le ((t:Int)+1) (by omega) (by omega)
 have b:=join_upL_len B tr t sh (by omega)
 simp only[tieK,List.length_append,List.length_cons,List.length_nil]
 omega
theorem tieTo_len (B:List Bool) (tr sh:Nat) (hs:sh≤40):∀ t,t≤1000→(tieTo B tr sh t).length≤1000*t
 |0,_=>Nat.le_refl _
 |t+1,h=>by
  have ih:=tieTo_len B tr sh hs t (by omega)
  have:=tieK_len B tr sh t hs (by omega)
  rw[tieTo,List.length_append]
  omega
section
variable (w:World) (n:Nat)
theorem decimal_p (x:Nat) (hx:x≤1000000000000):VSpec (EN w (n+1)) 38 [.sc (.int .i64 x)] (strV (Lib.decDigits x)) ⟨[],0,0⟩:=by
 refine vspec_flat rfl rfl (fun _ _=>rfl) (Nat.le_of_ble_eq_true rfl) (oldVals w) rfl fun C hC h0=>?_
 simp (disch:=first|omega|assumption|exact bd (by with_unfolding_all rfl)|exact Or.inl rfl|exact Or.inl trivial|exact okL_map _ (fun _=>rfl) _|(simp only[VVlen]<;>omega)|fail) only[O1,WA,slotsL,opdsA,Nat.reduceEqDiff,Nat.reduceLT,Nat.reduceAdd,Nat.reduceBEq,Int.reduceAdd,Int.reduceSub,Int.reduceLT,Int.reduceLE,Int.reduceEq,Int.reduceNeg,↓reduceIte,reduceCtorEq,List.replicate,c38]
 refine g_while (fun m fr st=>∃ (k:Nat) (s:List UInt8),m=k∧k≤x∧Lib.decDigits x=Lib.decDigits k++s∧s.length+k≤x∧fr= [(0,.sc (.int .i64 k)),(3,strV s)]∧st=⟨[],0,0⟩) x ?_ ⟨_,_,.refl _ _,x,[],?_⟩ ?_
 ·rw[hC,callP_rounds];unfold many;omega
 ·exact ⟨rfl,Nat.le_refl _,by simp,by simp,rfl,rfl⟩
 ·rintro k fr st ⟨_,s,rfl,hk,hd,hsl,rfl,rfl⟩
  have hs1:∀ c:UInt8,(ByteArray.mk [c].toArray).size+(ByteArray.mk s.toArray).size<9223372036854775807:=fun c=>by
   show 1+s.toArray.size<_
   simp;omega
  by_cases hlt:9<k
  ·have hd':=dec_step hd hlt
   have e1:(k:Int) % 10=((k % 10:Nat):Int):=by omega
   have e2:(k:Int) / 10=((k / 10:Nat):Int):=by omega
   have e4:(48:Int)+((k % 10:Nat):Int)=((48+k % 10:Nat):Int):=by omega
   have e3:=wrap_byte (48+k % 10) (by omega)
   have e5:=b2s_one (o:=0) (t:=5) (g:=false) (z:=false) (H:= [(0,.row 5 1 false false [.sc (.int .u8 ((48+k % 10:Nat):Int))])]) (48+k % 10) (by omega) rfl 1
   simp (disch:=first|omega|assumption|exact bd (by with_unfolding_all rfl)|exact Or.inl rfl|exact Or.inl trivial|exact okL_map _ (fun _=>rfl) _|(simp only[VVlen]<;>omega)|fail) only[O1,WA,slotsL,opdsA,Nat.reduceEqDiff,Nat.reduceLT,Nat.reduceAdd,Nat.reduceBEq,Int.reduceAdd,Int.reduceSub,Int.reduceLT,Int.reduceLE,Int.reduceEq,Int.reduceNeg,↓reduceIte,reduceCtorEq,List.replicate,c38l0,e1,e2,e4,e3,e5,b_sadd _ _ (hs1 (UInt8.ofNat (48+k % 10))),bytes_cat]
   refine ⟨_,_,_,?_,weak_to [] 0 h0 rfl rfl rfl rfl,k / 10,UInt8.ofNat (48+k % 10)::s,rfl,by omega,hd',by simp;omega,?_,?_⟩
   ·omega
   ·simp[renF,vren]
   ·simp[renH]
  ·have e4:(48:Int)+(k:Int)=((48+k:Nat):Int):=by omega
   have e3:=wrap_byte (48+k) (by omega)
   have e5:=b2s_one (o:=0) (t:=5) (g:=false) (z:=false) (H:= [(0,.row 5 1 false false [.sc (.int .u8 ((48+k:Nat):Int))])]) (48+k) (by omega) rfl 1
   have hd':Lib.decDigits x= [UInt8.ofNat (48+k)]++s:=by rw[hd,Lib.decDigits,dif_pos (by omega)]
   rw[hd']
   simp (disch:=first|omega|assumption|exact bd (by with_unfolding_all rfl)|exact Or.inl rfl|exact Or.inl trivial|exact okL_map _ (fun _=>rfl) _|(simp only[VVlen]<;>omega)|fail) only[O1,WA,slotsL,opdsA,Nat.reduceEqDiff,Nat.reduceLT,Nat.reduceAdd,Nat.reduceBEq,Int.reduceAdd,Int.reduceSub,Int.reduceLT,Int.reduceLE,Int.reduceEq,Int.reduceNeg,↓reduceIte,reduceCtorEq,List.replicate,c38l0,e4,e3,e5,b_sadd _ _ (hs1 (UInt8.ofNat (48+k))),bytes_cat]
   exact weak_flat rfl h0 rfl
theorem dec_p (z:Int) (h0:0≤z) (h1:z≤1000000000000):VSpec (EN w (n+2)) 19 [iN z] (strV (Lib.itoa z)) ⟨[],0,0⟩:=by
 obtain ⟨x,rfl⟩:∃ x:Nat,z=x:=⟨z.toNat,by omega⟩
 have hd:=decimal_p w n x (by omega)
 rw[Lib.itoa_nonneg]
 refine vspec_flat rfl rfl (fun _ _=>rfl) (Nat.le_of_ble_eq_true rfl) (oldVals w) rfl fun C hC h0=>?_
 simp (disch:=first|omega|assumption|exact bd (by with_unfolding_all rfl)|exact Or.inl rfl|exact Or.inl trivial|exact okL_map _ (fun _=>rfl) _|(simp only[VVlen]<;>omega)|fail) only[O1,WA,slotsL,opdsA,Nat.reduceEqDiff,Nat.reduceLT,Nat.reduceAdd,Nat.reduceBEq,Int.reduceAdd,Int.reduceSub,Int.reduceLT,Int.reduceLE,Int.reduceEq,Int.reduceNeg,↓reduceIte,reduceCtorEq,List.replicate,c19]
 refine callV_flat (by rw[hC];exact hd.flat rfl rfl) ?_
 repeat' (first|(simp (disch:=first|omega|assumption|exact bd (by with_unfolding_all rfl)|exact Or.inl rfl|exact Or.inl trivial|exact okL_map _ (fun _=>rfl) _|(simp only[VVlen]<;>omega)|fail) only[O1,WA,slotsL,opdsA,Nat.reduceEqDiff,Nat.reduceLT,Nat.reduceAdd,Nat.reduceBEq,Int.reduceAdd,Int.reduceSub,Int.reduceLT,Int.reduceLE,Int.reduceEq,Int.reduceNeg,↓reduceIte,reduceCtorEq,List.replicate])|apply gC_drawW|((first|apply gI_dec|apply gG_dec|apply gPG_dec|apply gI_var|apply gG_var|apply gPG_var)<;>intro _))
 exact weak_flat rfl h0 rfl
theorem keys_p (l:List Int) (m:Int) (hm:0≤m∧m≤1) (h:numsOK l m):VSpec (EN w (n+3)) 20 [iS l,iN m] (strV (keysTo l m l.length)) ⟨[],0,0⟩:=by
 refine vspec_flat rfl rfl (fun _ _=>rfl) (Nat.le_of_ble_eq_true rfl) (oldVals w) rfl fun C hC h0=>?_
 have hl:=h.1
 simp (disch:=first|omega|assumption|exact bd (by with_unfolding_all rfl)|exact Or.inl rfl|exact Or.inl trivial|exact okL_map _ (fun _=>rfl) _|(simp only[VVlen]<;>omega)|fail) only[O1,WA,slotsL,opdsA,Nat.reduceEqDiff,Nat.reduceLT,Nat.reduceAdd,Nat.reduceBEq,Int.reduceAdd,Int.reduceSub,Int.reduceLT,Int.reduceLE,Int.reduceEq,Int.reduceNeg,↓reduceIte,reduceCtorEq,List.replicate,c20]
 refine g_while (fun m' fr st=>∃ k:Nat,m'=l.length - k∧k≤l.length∧fr= [(0,iS l),(1,iN m),(5,strV (keysTo l m k)),(6,iN k)]∧st=⟨[],0,0⟩) l.length ?_ ⟨_,_,.refl _ _,0,by omega,by omega,rfl,rfl⟩ ?_
 ·rw[hC,callP_rounds];unfold many;omega
 rintro m' fr st ⟨k,rfl,hk,rfl,rfl⟩
 have hkl:=keysTo_len l m h k hk
 by_cases hlt:k<l.length
 ·have h2:=h.2 k hlt
  have d1:∀ st:VSt,VSpecO C.E 19 st [iN ((k:Int)+1)] (strV (Lib.itoa ((k:Int)+1))):=fun st=>(dec_p w n ((k:Int)+1) (by omega) (by omega)).of hC rfl st rfl
  have d2:∀ st:VSt,VSpecO C.E 19 st [iN (l[k]! +m)] (strV (Lib.itoa (l[k]! +m))):=fun st=>(dec_p w n (l[k]! +m) h2.1 (by omega)).of hC rfl st rfl
  have e:keysTo l m (k+1)=keysTo l m k++(Lib.itoa ((k:Int)+1)++61::(Lib.itoa (l[k]! +m)++ [10])):=rfl
  have a:=Lib.itoa_length_le ((k:Int)+1) (by omega) (by omega)
  have b:=Lib.itoa_length_le (l[k]! +m) (by omega) (by omega)
  generalize keysTo l m k=T at*
  generalize Lib.itoa ((k:Int)+1)=A at*
  generalize Lib.itoa (l[k]! +m)=D at*
  simp (disch:=first|omega|assumption|exact bd (by with_unfolding_all rfl)|exact Or.inl rfl|exact Or.inl trivial|exact okL_map _ (fun _=>rfl) _|(simp only[VVlen]<;>omega)|fail) only[O1,WA,slotsL,opdsA,Nat.reduceEqDiff,Nat.reduceLT,Nat.reduceAdd,Nat.reduceBEq,Int.reduceAdd,Int.reduceSub,Int.reduceLT,Int.reduceLE,Int.reduceEq,Int.reduceNeg,↓reduceIte,reduceCtorEq,List.replicate,c20l0,iD_dv]
  refine call0_of (d1 _) ?_
  simp (disch:=first|omega|assumption|exact bd (by with_unfolding_all rfl)|exact Or.inl rfl|exact Or.inl trivial|exact okL_map _ (fun _=>rfl) _|(simp only[VVlen]<;>omega)|fail) only[O1,WA,slotsL,opdsA,Nat.reduceEqDiff,Nat.reduceLT,Nat.reduceAdd,Nat.reduceBEq,Int.reduceAdd,Int.reduceSub,Int.reduceLT,Int.reduceLE,Int.reduceEq,Int.reduceNeg,↓reduceIte,reduceCtorEq,List.replicate,cat_l,iD_dv,List.append_assoc]
  all_goals try (exfalso;omega)
  refine call0_of (d2 _) ?_
  simp (disch:=first|omega|assumption|exact bd (by with_unfolding_all rfl)|exact Or.inl rfl|exact Or.inl trivial|exact okL_map _ (fun _=>rfl) _|(simp only[VVlen]<;>omega)|fail) only[O1,WA,slotsL,opdsA,Nat.reduceEqDiff,Nat.reduceLT,Nat.reduceAdd,Nat.reduceBEq,Int.reduceAdd,Int.reduceSub,Int.reduceLT,Int.reduceLE,Int.reduceEq,Int.reduceNeg,↓reduceIte,reduceCtorEq,List.replicate,cat_l,iD_dv,List.append_assoc]
  all_goals try (exfalso;omega)
  exact ⟨_,_,_,by omega,.refl _ _,k+1,rfl,hlt,by rw[e];rfl,rfl⟩
 ·have:k=l.length:=by omega
  subst this
  simp (disch:=first|omega|assumption|exact bd (by with_unfolding_all rfl)|exact Or.inl rfl|exact Or.inl trivial|exact okL_map _ (fun _=>rfl) _|(simp only[VVlen]<;>omega)|fail) only[O1,WA,slotsL,opdsA,Nat.reduceEqDiff,Nat.reduceLT,Nat.reduceAdd,Nat.reduceBEq,Int.reduceAdd,Int.reduceSub,Int.reduceLT,Int.reduceLE,Int.reduceEq,Int.reduceNeg,↓reduceIte,reduceCtorEq,List.replicate,c20l0,iD_dv]
  all_goals try (exfalso;omega)
  exact weak_flat rfl h0 rfl
theorem list_w {C:Ctx} {Q:V→VSt→Prop} (hC:C.E=EN w (n+4)) (k:Nat) (p:V) (X:Itp.Obj) (F name:List UInt8) (l:List Int) (m:Int) (hm:0≤m∧m≤1) (h:numsOK l m) (hp:selfP 1 p) (hF:F.length≤1000000) (hn:name.length≤100)
  (hq:∀ k',Q (.tup []) ⟨[(k'+2,.gro 5 1 false (strD ⟨(F++91::(name++93::10::keysTo l m l.length)).toArray⟩)),(1,.box 45 1 [.ptr 1 0,.gr 2 (k'+2) (F++91::(name++93::10::keysTo l m l.length)).length]),(0,X)],k'+3,0⟩):
  CallV C 16 [.ptr 1 0,strV name,iS l,iN m] ⟨[(k+2,.gro 5 1 false (strD ⟨F.toArray⟩)),(1,.box 45 1 [p,.gr 2 (k+2) F.length]),(0,X)],k+3,0⟩ Q:=by
 have hl:=h.1
 refine callV_w hC rfl rfl (fun _ _=>rfl) (Nat.le_of_ble_eq_true rfl) (hq (k+1+l.length)) fun C' hC' hn'=>?_
 have nb1:∀ x:Nat,x+2 ≠ 1:=fun x=>by omega
 have nb2:∀ x:Nat,1 ≠ x+3:=fun x=>by omega
 have g1:∀ (x:Nat) (a b c:Itp.Obj),aget [(x+2,a),(1,b),(0,c)] 1=some b:=fun x a b c=>by
  rw[aget_cons,if_neg (by omega),aget_cons,if_pos rfl]
 have g2:∀ (x:Nat) (a b c:Itp.Obj),aget [(x+2,a),(1,b),(0,c)] (x+2)=some a:=fun x a b c=>by
  rw[aget_cons,if_pos rfl]
 have g3:∀ (x:Nat) (a b c d:Itp.Obj),aset (adel (x+2) [(x+2,a),(1,b),(0,c)]) 1 d= [(1,d),(0,c)]:=fun x a b c d=>by
  simp[adel_cons',aset_cons',adel_nil,aset_nil]
 simp (disch:=first|omega|assumption|exact bd (by with_unfolding_all rfl)|exact Or.inl rfl|exact Or.inl trivial|exact okL_map _ (fun _=>rfl) _|(simp only[VVlen]<;>omega)|fail) only[O1,WA,slotsL,opdsA,Nat.reduceEqDiff,Nat.reduceLT,Nat.reduceAdd,Nat.reduceBEq,Int.reduceAdd,Int.reduceSub,Int.reduceLT,Int.reduceLE,Int.reduceEq,Int.reduceNeg,↓reduceIte,reduceCtorEq,List.replicate,c16,cat_l]
 all_goals try (exfalso;omega)
 refine wStr_w w n hC' 1 (k+2) p F _ (g1 ..) (g2 ..) hp (Nat.zero_le _) (Nat.zero_le _) (nb1 _) (nb2 _) ?_ ?_
 ·simp;omega
 rw[g3]
 simp (disch:=first|omega|assumption|exact bd (by with_unfolding_all rfl)|exact Or.inl rfl|exact Or.inl trivial|exact okL_map _ (fun _=>rfl) _|(simp only[VVlen]<;>omega)|fail) only[O1,WA,slotsL,opdsA,Nat.reduceEqDiff,Nat.reduceLT,Nat.reduceAdd,Nat.reduceBEq,Int.reduceAdd,Int.reduceSub,Int.reduceLT,Int.reduceLE,Int.reduceEq,Int.reduceNeg,↓reduceIte,reduceCtorEq,List.replicate]
 obtain ⟨G,hG⟩:∃ G:Nat→List UInt8,G=fun i=>F++91::(name++93::10::keysTo l m i):=⟨_,rfl⟩
 have hG0:F++91::(name++ [93,10])=G 0:=by rw[hG];rfl
 have hGn:F++91::(name++93::10::keysTo l m l.length)=G l.length:=by rw[hG]
 have hGs:∀ i,G (i+1)=G i++(Lib.itoa ((i:Int)+1)++61::(Lib.itoa (l[i]! +m)++ [10])):=fun i=>by
  rw[hG]
  simp only[keysTo,lineK,List.append_assoc,List.cons_append]
 have hGl:∀ i,i≤l.length→(G i).length≤1000200+50*i:=fun i hi=>by
  have:=keysTo_len l m h i hi
  rw[hG]
  simp only[List.length_append,List.length_cons]
  omega
 have hlen0:F.length+((name++ [93,10]).length+1)=(G 0).length:=by rw[← hG0];simp
 rw[hG0,hGn,hlen0]
 refine g_while (fun m' fr st=>∃ i:Nat,m'=l.length - i∧i≤l.length∧fr= [(0,.ptr 1 0),(3,iN m),(15,iS l),(16,iN l.length),(17,iN i)]∧
  st=⟨[((k+1+i)+2,.gro 5 1 false (strD ⟨(G i).toArray⟩)),(1,.box 45 1 [.ptr 1 0,.gr 2 ((k+1+i)+2) (G i).length]),(0,X)],(k+1+i)+3,0⟩) l.length ?_ ⟨_,_,.refl _ _,0,by omega,by omega,rfl,rfl⟩ ?_
 ·rw[hC',callP_rounds];unfold many;omega
 rintro m' fr st ⟨i,rfl,hi,rfl,rfl⟩
 have hgl:=hGl i hi
 by_cases hlt:i<l.length
 ·have h2:=h.2 i hlt
  have d1:=fun st=>itoa_s w (n+2) st ((i:Int)+1) (by omega) (by omega)
  have d2:=fun st=>itoa_s w (n+2) st (l[i]! +m) (by omega) (by omega)
  have e:=hGs i
  have a:=Lib.itoa_length_le ((i:Int)+1) (by omega) (by omega)
  have b:=Lib.itoa_length_le (l[i]! +m) (by omega) (by omega)
  generalize G i=T at*
  generalize Lib.itoa ((i:Int)+1)=A at*
  generalize Lib.itoa (l[i]! +m)=D at*
  obtain ⟨q,hq2⟩:∃ q,q=k+1+i:=⟨_,rfl⟩
  have hq3:k+1+(i+1)=q+1:=by omega
  rw[← hq2]
  simp (disch:=first|omega|assumption|exact bd (by with_unfolding_all rfl)|exact Or.inl rfl|exact Or.inl trivial|exact okL_map _ (fun _=>rfl) _|(simp only[VVlen]<;>omega)|fail) only[O1,WA,slotsL,opdsA,Nat.reduceEqDiff,Nat.reduceLT,Nat.reduceAdd,Nat.reduceBEq,Int.reduceAdd,Int.reduceSub,Int.reduceLT,Int.reduceLE,Int.reduceEq,Int.reduceNeg,↓reduceIte,reduceCtorEq,List.replicate,c16l0,iD_dv]
  all_goals try (exfalso;omega)
  refine callV_flat (by rw[hC'];exact d1 _) ?_
  simp (disch:=first|omega|assumption|exact bd (by with_unfolding_all rfl)|exact Or.inl rfl|exact Or.inl trivial|exact okL_map _ (fun _=>rfl) _|(simp only[VVlen]<;>omega)|fail) only[O1,WA,slotsL,opdsA,Nat.reduceEqDiff,Nat.reduceLT,Nat.reduceAdd,Nat.reduceBEq,Int.reduceAdd,Int.reduceSub,Int.reduceLT,Int.reduceLE,Int.reduceEq,Int.reduceNeg,↓reduceIte,reduceCtorEq,List.replicate,cat_l]
  all_goals try (exfalso;omega)
  refine callV_flat (by rw[hC'];exact d2 _) ?_
  simp (disch:=first|omega|assumption|exact bd (by with_unfolding_all rfl)|exact Or.inl rfl|exact Or.inl trivial|exact okL_map _ (fun _=>rfl) _|(simp only[VVlen]<;>omega)|fail) only[O1,WA,slotsL,opdsA,Nat.reduceEqDiff,Nat.reduceLT,Nat.reduceAdd,Nat.reduceBEq,Int.reduceAdd,Int.reduceSub,Int.reduceLT,Int.reduceLE,Int.reduceEq,Int.reduceNeg,↓reduceIte,reduceCtorEq,List.replicate,cat_l,List.append_assoc]
  all_goals try (exfalso;omega)
  refine wStr_w w n hC' 1 (q+2) (.ptr 1 0) T _ (g1 ..) (g2 ..) (.inr rfl) (Nat.zero_le _) (Nat.zero_le _) (nb1 _) (nb2 _) ?_ ?_
  ·simp only[List.length_append,List.length_cons,List.length_nil];omega
  rw[g3]
  simp (disch:=first|omega|assumption|exact bd (by with_unfolding_all rfl)|exact Or.inl rfl|exact Or.inl trivial|exact okL_map _ (fun _=>rfl) _|(simp only[VVlen]<;>omega)|fail) only[O1,WA,slotsL,opdsA,Nat.reduceEqDiff,Nat.reduceLT,Nat.reduceAdd,Nat.reduceBEq,Int.reduceAdd,Int.reduceSub,Int.reduceLT,Int.reduceLE,Int.reduceEq,Int.reduceNeg,↓reduceIte,reduceCtorEq,List.replicate]
  refine ⟨l.length - (i+1),_,_,by omega,.refl _ _,i+1,rfl,hlt,rfl,?_⟩
  rw[hq3,e]
  simp only[List.length_append]
  try rfl
 ·have:i=l.length:=by omega
  subst this
  simp (disch:=first|omega|assumption|exact bd (by with_unfolding_all rfl)|exact Or.inl rfl|exact Or.inl trivial|exact okL_map _ (fun _=>rfl) _|(simp only[VVlen]<;>omega)|fail) only[O1,WA,slotsL,opdsA,Nat.reduceEqDiff,Nat.reduceLT,Nat.reduceAdd,Nat.reduceBEq,Int.reduceAdd,Int.reduceSub,Int.reduceLT,Int.reduceLE,Int.reduceEq,Int.reduceNeg,↓reduceIte,reduceCtorEq,List.replicate,c16l0,iD_dv]
  all_goals try (exfalso;omega)
  exact .refl _ _
end
section
variable (w:World) (n:Nat)
theorem at_p (Q K x y:Nat) (B:List Bool) (hx:x<Q) (hy:y<K) (hQ:Q≤64) (hK:K≤64) (hL:B.length=Q*K):
  VSpec (EN w (n+1)) 51 [grV Q K B,iN x,iN y] (.sc (.bool B[y*Q+x]!)) ⟨[],0,0⟩:=by
 refine vspec_flat rfl rfl (fun _ _=>rfl) (Nat.le_of_ble_eq_true rfl) (oldVals w) rfl fun C hC h0=>?_
 obtain ⟨P,hP⟩:∃ P,P=y*Q:=⟨_,rfl⟩
 have hP1:(y:Int)*(Q:Int)=(P:Int):=by rw[hP];simp
 have hb:P+Q≤B.length:=by rw[hL,hP,← Nat.succ_mul,Nat.mul_comm Q K];exact Nat.mul_le_mul_right Q hy
 have hB:B.length≤4096:=by rw[hL];exact Nat.mul_le_mul hQ hK
 rw[← hP]
 simp (disch:=first|omega|assumption|exact bd (by with_unfolding_all rfl)|exact Or.inl rfl|exact Or.inl trivial|exact okL_map _ (fun _=>rfl) _|(simp only[VVlen]<;>omega)|fail) only[O1,WA,slotsL,opdsA,Nat.reduceEqDiff,Nat.reduceLT,Nat.reduceAdd,Nat.reduceBEq,Int.reduceAdd,Int.reduceSub,Int.reduceLT,Int.reduceLE,Int.reduceEq,Int.reduceNeg,↓reduceIte,reduceCtorEq,List.replicate,c51,hP1,oD_dv]
 exact weak_flat rfl h0 rfl
theorem lifts_p (sh tr x y:Nat) (th td:List Int) (B:List Bool) (hx:x<tr) (hy:y<sh) (hQ:tr≤64) (hK:sh≤64) (hL:B.length=tr*sh):
  VSpec (EN w (n+2)) 39 [drV sh tr th td tr sh B,iN x,iN y] (.sc (.bool B[y*tr+x]!)) ⟨[],0,0⟩:=by
 have ha:=at_p w n tr sh x y B hx hy hQ hK hL
 refine vspec_flat rfl rfl (fun _ _=>rfl) (Nat.le_of_ble_eq_true rfl) (oldVals w) rfl fun C hC h0=>?_
 simp (disch:=first|omega|assumption|exact bd (by with_unfolding_all rfl)|exact Or.inl rfl|exact Or.inl trivial|exact okL_map _ (fun _=>rfl) _|(simp only[VVlen]<;>omega)|fail) only[O1,WA,slotsL,opdsA,Nat.reduceEqDiff,Nat.reduceLT,Nat.reduceAdd,Nat.reduceBEq,Int.reduceAdd,Int.reduceSub,Int.reduceLT,Int.reduceLE,Int.reduceEq,Int.reduceNeg,↓reduceIte,reduceCtorEq,List.replicate,c39]
 refine callV_flat (by rw[hC];exact ha.flat rfl rfl) ?_
 repeat' (first|(simp (disch:=first|omega|assumption|exact bd (by with_unfolding_all rfl)|exact Or.inl rfl|exact Or.inl trivial|exact okL_map _ (fun _=>rfl) _|(simp only[VVlen]<;>omega)|fail) only[O1,WA,slotsL,opdsA,Nat.reduceEqDiff,Nat.reduceLT,Nat.reduceAdd,Nat.reduceBEq,Int.reduceAdd,Int.reduceSub,Int.reduceLT,Int.reduceLE,Int.reduceEq,Int.reduceNeg,↓reduceIte,reduceCtorEq,List.replicate])|apply gC_drawW|((first|apply gI_dec|apply gG_dec|apply gPG_dec|apply gI_var|apply gG_var|apply gPG_var)<;>intro _))
 exact weak_flat rfl h0 rfl
theorem ties_p (sh tr:Nat) (th td:List Int) (B:List Bool) (hQ:tr≤40) (hK:sh≤40) (hL:B.length=tr*sh):
  VSpec (EN w (n+3)) 21 [drV sh tr th td tr sh B] (strV (tieTo B tr sh tr)) ⟨[],0,0⟩:=by
 refine vspec_flat rfl rfl (fun _ _=>rfl) (Nat.le_of_ble_eq_true rfl) (oldVals w) rfl fun C hC h0=>?_
 have hrn:C.E.rounds=many:=by rw[hC,callP_rounds]
 simp (disch:=first|omega|assumption|exact bd (by with_unfolding_all rfl)|exact Or.inl rfl|exact Or.inl trivial|exact okL_map _ (fun _=>rfl) _|(simp only[VVlen]<;>omega)|fail) only[O1,WA,slotsL,opdsA,Nat.reduceEqDiff,Nat.reduceLT,Nat.reduceAdd,Nat.reduceBEq,Int.reduceAdd,Int.reduceSub,Int.reduceLT,Int.reduceLE,Int.reduceEq,Int.reduceNeg,↓reduceIte,reduceCtorEq,List.replicate,c21]
 refine g_while (fun m fr st=>∃ t:Nat,m=tr - t∧t≤tr∧fr= [(1,.ptr 0 0),(3,strV (tieTo B tr sh t)),(4,iN t)]∧st=⟨[(0,.box 27 1 [iN sh,iN tr,iS th,iS td,iN tr,iN sh,oS B])],1,0⟩) tr ?_ ⟨_,_,.refl _ _,0,by omega,by omega,rfl,rfl⟩ ?_
 ·rw[hrn];unfold many;omega
 rintro m fr st ⟨t,rfl,ht,rfl,rfl⟩
 have htl:=tieTo_len B tr sh hK t (by omega)
 by_cases hlt:t<tr
 case neg=>
  have:t=tr:=by omega
  subst this
  simp (disch:=first|omega|assumption|exact bd (by with_unfolding_all rfl)|exact Or.inl rfl|exact Or.inl trivial|exact okL_map _ (fun _=>rfl) _|(simp only[VVlen]<;>omega)|fail) only[O1,WA,slotsL,opdsA,Nat.reduceEqDiff,Nat.reduceLT,Nat.reduceAdd,Nat.reduceBEq,Int.reduceAdd,Int.reduceSub,Int.reduceLT,Int.reduceLE,Int.reduceEq,Int.reduceNeg,↓reduceIte,reduceCtorEq,List.replicate,c21l1]
  all_goals try (exfalso;omega)
  exact weak_flat rfl h0 rfl
 have d1:=dec_p w n ((t:Int)+1) (by omega) (by omega)
 have a:=Lib.itoa_length_le ((t:Int)+1) (by omega) (by omega)
 have e:tieTo B tr sh (t+1)=tieTo B tr sh t++(Lib.itoa ((t:Int)+1)++61::(join 44 (upL B tr t sh)++ [10])):=rfl
 generalize tieTo B tr sh t=T at*
 generalize Lib.itoa ((t:Int)+1)=A at*
 simp (disch:=first|omega|assumption|exact bd (by with_unfolding_all rfl)|exact Or.inl rfl|exact Or.inl trivial|exact okL_map _ (fun _=>rfl) _|(simp only[VVlen]<;>omega)|fail) only[O1,WA,slotsL,opdsA,Nat.reduceEqDiff,Nat.reduceLT,Nat.reduceAdd,Nat.reduceBEq,Int.reduceAdd,Int.reduceSub,Int.reduceLT,Int.reduceLE,Int.reduceEq,Int.reduceNeg,↓reduceIte,reduceCtorEq,List.replicate,c21l1]
 all_goals try (exfalso;omega)
 refine callV_flat (by rw[hC];exact d1.flat rfl rfl) ?_
 simp (disch:=first|omega|assumption|exact bd (by with_unfolding_all rfl)|exact Or.inl rfl|exact Or.inl trivial|exact okL_map _ (fun _=>rfl) _|(simp only[VVlen]<;>omega)|fail) only[O1,WA,slotsL,opdsA,Nat.reduceEqDiff,Nat.reduceLT,Nat.reduceAdd,Nat.reduceBEq,Int.reduceAdd,Int.reduceSub,Int.reduceLT,Int.reduceLE,Int.reduceEq,Int.reduceNeg,↓reduceIte,reduceCtorEq,List.replicate,cat_l,List.append_assoc]
 all_goals try (exfalso;omega)
 refine g_while (fun m fr st=>∃ s:Nat,m=sh - s∧s≤sh∧fr= [(1,.ptr 0 0),(3,strV (T++(A++61::join 44 (upL B tr t s)))),(4,iN t),(5,.sc (.bool (decide (upL B tr t s= [])))),(6,iN s)]∧st=⟨[(0,.box 27 1 [iN sh,iN tr,iS th,iS td,iN tr,iN sh,oS B])],1,0⟩) sh ?_ ⟨_,_,.refl _ _,0,by omega,by omega,rfl,rfl⟩ ?_
 ·rw[hrn];unfold many;omega
 rintro m fr st ⟨s,rfl,hs,rfl,rfl⟩
 have hjl:=join_upL_len B tr t s (by omega)
 by_cases hls:s<sh
 case neg=>
  have:s=sh:=by omega
  subst this
  generalize join 44 (upL B tr t s)=J at*
  simp (disch:=first|omega|assumption|exact bd (by with_unfolding_all rfl)|exact Or.inl rfl|exact Or.inl trivial|exact okL_map _ (fun _=>rfl) _|(simp only[VVlen]<;>omega)|fail) only[O1,WA,slotsL,opdsA,Nat.reduceEqDiff,Nat.reduceLT,Nat.reduceAdd,Nat.reduceBEq,Int.reduceAdd,Int.reduceSub,Int.reduceLT,Int.reduceLE,Int.reduceEq,Int.reduceNeg,↓reduceIte,reduceCtorEq,List.replicate,c21l0,cat_l,List.append_assoc]
  all_goals try (exfalso;omega)
  exact ⟨_,_,_,by omega,weak_akeep [1,3,4] rfl,t+1,rfl,hlt,by rw[e];rfl,rfl⟩
 have hlf:=lifts_p w n sh tr t s th td B hlt hls (by omega) (by omega) hL
 have hj:=join_upL B tr t s
 have hu:upL B tr t (s+1)=upL B tr t s++(if B[s*tr+t]! then [Lib.itoa ((s:Int)+1)] else []):=rfl
 have d2:=dec_p w n ((s:Int)+1) (by omega) (by omega)
 have a2:=Lib.itoa_length_le ((s:Int)+1) (by omega) (by omega)
 generalize B[s*tr+t]! =b at*
 by_cases hb:b=true
 case neg=>
  rw[Bool.not_eq_true] at hb
  subst hb
  rw[if_neg (by decide)] at hj hu
  rw[List.append_nil] at hu
  simp (disch:=first|omega|assumption|exact bd (by with_unfolding_all rfl)|exact Or.inl rfl|exact Or.inl trivial|exact okL_map _ (fun _=>rfl) _|(simp only[VVlen]<;>omega)|fail) only[O1,WA,slotsL,opdsA,Nat.reduceEqDiff,Nat.reduceLT,Nat.reduceAdd,Nat.reduceBEq,Int.reduceAdd,Int.reduceSub,Int.reduceLT,Int.reduceLE,Int.reduceEq,Int.reduceNeg,↓reduceIte,reduceCtorEq,List.replicate,c21l0]
  all_goals try (exfalso;omega)
  refine callV_flat (by rw[hC];exact hlf.flat rfl rfl) ?_
  simp (disch:=first|omega|assumption|exact bd (by with_unfolding_all rfl)|exact Or.inl rfl|exact Or.inl trivial|exact okL_map _ (fun _=>rfl) _|(simp only[VVlen]<;>omega)|fail) only[O1,WA,slotsL,opdsA,Nat.reduceEqDiff,Nat.reduceLT,Nat.reduceAdd,Nat.reduceBEq,Int.reduceAdd,Int.reduceSub,Int.reduceLT,Int.reduceLE,Int.reduceEq,Int.reduceNeg,↓reduceIte,reduceCtorEq,List.replicate]
  exact ⟨sh - (s+1),_,_,by omega,.refl _ _,s+1,rfl,hls,by rw[hj,hu];rfl,rfl⟩
 subst hb
 rw[if_pos rfl] at hj hu
 have hne:decide (upL B tr t (s+1)= [])=false:=by rw[hu];simp
 by_cases hz:upL B tr t s= []
 ·rw[if_pos hz] at hj
  have hj0:join 44 (upL B tr t s)= []:=by rw[hz];rfl
  rw[hj0,decide_eq_true hz]
  simp (disch:=first|omega|assumption|exact bd (by with_unfolding_all rfl)|exact Or.inl rfl|exact Or.inl trivial|exact okL_map _ (fun _=>rfl) _|(simp only[VVlen]<;>omega)|fail) only[O1,WA,slotsL,opdsA,Nat.reduceEqDiff,Nat.reduceLT,Nat.reduceAdd,Nat.reduceBEq,Int.reduceAdd,Int.reduceSub,Int.reduceLT,Int.reduceLE,Int.reduceEq,Int.reduceNeg,↓reduceIte,reduceCtorEq,List.replicate,c21l0]
  all_goals try (exfalso;omega)
  refine callV_flat (by rw[hC];exact hlf.flat rfl rfl) ?_
  simp (disch:=first|omega|assumption|exact bd (by with_unfolding_all rfl)|exact Or.inl rfl|exact Or.inl trivial|exact okL_map _ (fun _=>rfl) _|(simp only[VVlen]<;>omega)|fail) only[O1,WA,slotsL,opdsA,Nat.reduceEqDiff,Nat.reduceLT,Nat.reduceAdd,Nat.reduceBEq,Int.reduceAdd,Int.reduceSub,Int.reduceLT,Int.reduceLE,Int.reduceEq,Int.reduceNeg,↓reduceIte,reduceCtorEq,List.replicate]
  refine callV_flat (by rw[hC];exact d2.flat rfl rfl) ?_
  simp (disch:=first|omega|assumption|exact bd (by with_unfolding_all rfl)|exact Or.inl rfl|exact Or.inl trivial|exact okL_map _ (fun _=>rfl) _|(simp only[VVlen]<;>omega)|fail) only[O1,WA,slotsL,opdsA,Nat.reduceEqDiff,Nat.reduceLT,Nat.reduceAdd,Nat.reduceBEq,Int.reduceAdd,Int.reduceSub,Int.reduceLT,Int.reduceLE,Int.reduceEq,Int.reduceNeg,↓reduceIte,reduceCtorEq,List.replicate,cat_l,List.append_assoc]
  all_goals try (exfalso;omega)
  exact ⟨sh - (s+1),_,_,by omega,.refl _ _,s+1,rfl,hls,by rw[hj,hne];rfl,rfl⟩
 ·rw[if_neg hz] at hj
  rw[decide_eq_false hz]
  generalize join 44 (upL B tr t s)=J at*
  simp (disch:=first|omega|assumption|exact bd (by with_unfolding_all rfl)|exact Or.inl rfl|exact Or.inl trivial|exact okL_map _ (fun _=>rfl) _|(simp only[VVlen]<;>omega)|fail) only[O1,WA,slotsL,opdsA,Nat.reduceEqDiff,Nat.reduceLT,Nat.reduceAdd,Nat.reduceBEq,Int.reduceAdd,Int.reduceSub,Int.reduceLT,Int.reduceLE,Int.reduceEq,Int.reduceNeg,↓reduceIte,reduceCtorEq,List.replicate,c21l0]
  all_goals try (exfalso;omega)
  refine callV_flat (by rw[hC];exact hlf.flat rfl rfl) ?_
  simp (disch:=first|omega|assumption|exact bd (by with_unfolding_all rfl)|exact Or.inl rfl|exact Or.inl trivial|exact okL_map _ (fun _=>rfl) _|(simp only[VVlen]<;>omega)|fail) only[O1,WA,slotsL,opdsA,Nat.reduceEqDiff,Nat.reduceLT,Nat.reduceAdd,Nat.reduceBEq,Int.reduceAdd,Int.reduceSub,Int.reduceLT,Int.reduceLE,Int.reduceEq,Int.reduceNeg,↓reduceIte,reduceCtorEq,List.replicate,cat_l,List.append_assoc]
  all_goals try (exfalso;omega)
  refine callV_flat (by rw[hC];exact d2.flat rfl rfl) ?_
  simp (disch:=first|omega|assumption|exact bd (by with_unfolding_all rfl)|exact Or.inl rfl|exact Or.inl trivial|exact okL_map _ (fun _=>rfl) _|(simp only[VVlen]<;>omega)|fail) only[O1,WA,slotsL,opdsA,Nat.reduceEqDiff,Nat.reduceLT,Nat.reduceAdd,Nat.reduceBEq,Int.reduceAdd,Int.reduceSub,Int.reduceLT,Int.reduceLE,Int.reduceEq,Int.reduceNeg,↓reduceIte,reduceCtorEq,List.replicate,cat_l,List.append_assoc]
  all_goals try (exfalso;omega)
  exact ⟨sh - (s+1),_,_,by omega,.refl _ _,s+1,rfl,hls,by rw[hj,hne];rfl,rfl⟩
end
end Go.Proofs.YtelgheeinnednaaDoor
