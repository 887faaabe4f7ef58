/- What is proved: the law WordsRows returns true for every input. Conditions: none beyond the card's own.
   Texts: C41VA, S41D, H41V, P41a, P41b, P41c, P41d, P41e, Q41a, Q41b, Q41c, P41f, Q41d, Q41e, Q41f, Q41g.
-/
import Derived.Test.YtimmmnanllcfoaaDoorPart4
import Derived.Test.YtimmmnanllcfoaaDoorProg
import Derived.Shelf.Strings.Builder1
import Derived.Shelf.Strings.Builder2
import Derived.Shelf.Strings.OnBuilder
import Derived.Shelf.Utf8.RuneCount
import Derived.Shelf.Strconv.Itoa0
import Derived.Shelf.Strconv.Itoa1
import Derived.Shelf.LaysM
import Derived.Shelf.Strconv.Itoa2
import Derived.Shelf.Strconv.Itoa3
import Derived.Shelf.Strings.Search1
import Derived.Shelf.Strings.Search2
import Derived.Shelf.Strings.Search3
import Derived.Shelf.Strings.Count
import Derived.Shelf.Strings.Shaped
import Derived.Shelf.Strings.Split
import Derived.Shelf.Strings.Replace
import Derived.Shelf.Strings.SplitShaped
import Derived.Shelf.Unicode.Decode
import Derived.Shelf.Strings.RuneCount
import Derived.Shelf.Strings.Explode
import Derived.Shelf.Unicode.DecodeSlow
import Derived.Shelf.Unicode.DecodeAny
import Derived.KernelRfl
import Derived.Lib.Join
import Derived.Lib.Replace
import Derived.Lib.Bytealg
namespace Go.Proofs.YtimmmnanllcfoaaDoor
open Go Go.Itp
set_option maxRecDepth 100000
@[reducible] def O1 (d:Nat) (p:I8):f8:=⟨some d,none,p⟩
/- raddle/raddlelaw41.WordsRows -/
def c4:n9:=⟨.seq (.ops [O1 3 (.box 36 (.tmp 0)),O1 6 (.mov (.const (.bool false)))] [1,2,3]) (.seq (.seq (.ops [O1 17 (.fldA 1 (.tmp 3)),O1 18 (.load none (.tmp 17)),O1 19 (.callF 9 [.tmp 18]),O1 20 (.mov (.tmp 19)),⟨some 21,some (20,false),.mov (.tmp 2)⟩,⟨some 22,some (20,false),.len true (.tmp 21)⟩,⟨some 23,some (20,false),.bin .gtr (.tmp 22) (.const (.int .i64 2500))⟩,O1 24 (.pick (.tmp 20) (.const (.bool true)) (.tmp 23))] [1,2,3,24]) (.cond (.tmp 24) (.seq (.ops [O1 6 (.mov (.const (.bool true)))] [6]) (.ret)) (.skip))) (.seq (.ops [O1 26 (.load (some 2) (.tmp 3)),O1 27 (.mov (.tmp 1)),O1 28 (.callF 15 [(.tmp 26),(.tmp 27)]),O1 25 (.mov (.tmp 28)),O1 29 (.ext (.tmp 25) 0),O1 30 (.ext (.tmp 25) 1),O1 7 (.mov (.tmp 29)),O1 8 (.mov (.tmp 30))] [1,2,3,7,8]) (.seq (.ops [O1 32 (.load (some 2) (.tmp 3)),O1 33 (.mov (.tmp 1)),O1 34 (.callF 16 [(.tmp 32),(.tmp 33)]),O1 31 (.mov (.tmp 34)),O1 35 (.ext (.tmp 31) 0),O1 36 (.ext (.tmp 31) 1),O1 9 (.mov (.tmp 35)),O1 10 (.mov (.tmp 36))] [2,7,8,9,10]) (.seq (.ops [O1 38 (.mov (.tmp 2)),O1 39 (.callF 17 [.tmp 38]),O1 37 (.mov (.tmp 39)),O1 40 (.ext (.tmp 37) 0),O1 41 (.ext (.tmp 37) 1),O1 42 (.ext (.tmp 37) 2),O1 11 (.alloc 36 [(1,(.bool false)),(1,(.slice none 0 0))]),⟨none,none,.store 2 (.tmp 11) (.tmp 40)⟩,O1 12 (.mov (.tmp 41)),O1 13 (.mov (.tmp 42))] [2,7,8,9,10,11,12,13]) (.seq (.ops [O1 44 (.mov (.tmp 2)),O1 45 (.callF 18 [.tmp 44]),O1 43 (.mov (.tmp 45)),O1 46 (.ext (.tmp 43) 0),O1 47 (.ext (.tmp 43) 1),O1 48 (.ext (.tmp 43) 2),O1 14 (.alloc 36 [(1,(.bool false)),(1,(.slice none 0 0))]),⟨none,none,.store 2 (.tmp 14) (.tmp 46)⟩,O1 15 (.mov (.tmp 47)),O1 16 (.mov (.tmp 48))] [7,8,9,10,11,12,13,14,15,16]) (.seq (.ops [O1 49 (.mov (.tmp 7)),O1 50 (.mov (.tmp 9)),O1 51 (.bin .eql (.tmp 49) (.tmp 50)),O1 52 (.mov (.tmp 51)),⟨some 53,some (52,true),.mov (.tmp 8)⟩,⟨some 54,some (52,true),.mov (.tmp 10)⟩,⟨some 55,some (52,true),.bin .eql (.tmp 53) (.tmp 54)⟩,O1 56 (.pick (.tmp 52) (.tmp 55) (.const (.bool false))),O1 57 (.mov (.tmp 56)),⟨some 58,some (57,true),.load (some 2) (.tmp 11)⟩,⟨some 59,some (57,true),.load (some 2) (.tmp 14)⟩,⟨some 60,some (57,true),.callF 19 [(.tmp 58),(.tmp 59)]⟩,O1 61 (.pick (.tmp 57) (.tmp 60) (.const (.bool false))),O1 62 (.mov (.tmp 61)),⟨some 63,some (62,true),.mov (.tmp 12)⟩,⟨some 64,some (62,true),.mov (.tmp 15)⟩,⟨some 65,some (62,true),.bin .eql (.tmp 63) (.tmp 64)⟩,O1 66 (.pick (.tmp 62) (.tmp 65) (.const (.bool false))),O1 67 (.mov (.tmp 66)),⟨some 68,some (67,true),.mov (.tmp 13)⟩,⟨some 69,some (67,true),.mov (.tmp 16)⟩,⟨some 70,some (67,true),.bin .eql (.tmp 68) (.tmp 69)⟩,O1 71 (.pick (.tmp 67) (.tmp 70) (.const (.bool false))),O1 6 (.mov (.tmp 71))] [6]) (.ret))))))),72,[(6,none)],true⟩
theorem ok4:n7 Tryd.prog 4 c4:= .code ⟨Tryd.f4,_,c4.code,Tryd.func4,rfl,by kernel_rfl,rfl,by kernel_rfl,by kernel_rfl⟩
/- raddle/raddleref25.Great -/
def c9:n9:=⟨.seq (.ops [O1 2 (.mov (.const (.bool false)))] [0]) (.seq (.ops [O1 3 (.mov (.tmp 0)),O1 4 (.len false (.tmp 3)),O1 5 (.bin .gtr (.tmp 4) (.const (.int .i64 60))),O1 6 (.mov (.tmp 5)),⟨some 7,some (6,true),.mov (.tmp 0)⟩,⟨some 8,some (6,true),.len false (.tmp 7)⟩,⟨some 9,some (6,true),.bin .leq (.tmp 8) (.const (.int .i64 200))⟩,O1 10 (.pick (.tmp 6) (.tmp 9) (.const (.bool false))),O1 11 (.mov (.tmp 10)),⟨some 12,some (11,false),.mov (.tmp 0)⟩,⟨some 13,some (11,false),.len false (.tmp 12)⟩,⟨some 14,some (11,false),.bin .gtr (.tmp 13) (.const (.int .i64 300))⟩,O1 15 (.pick (.tmp 11) (.const (.bool true)) (.tmp 14)),O1 2 (.mov (.tmp 15))] [2]) (.ret)),16,[(2,none)],true⟩
theorem ok9:n7 Tryd.prog 9 c9:= .code ⟨Tryd.f9,_,c9.code,Tryd.func9,rfl,by kernel_rfl,rfl,by kernel_rfl,by kernel_rfl⟩
/- raddle/r4.Cells -/
def c10:n9:=⟨.seq (.ops [O1 2 (.mov (.const (.string ⟨#[]⟩))),O1 3 (.mov (.const (.int .i64 0)))] [0]) (.seq (.seq (.ops [O1 6 (.mov (.tmp 0)),O1 7 (.callF 27 [.tmp 6]),O1 4 (.mov (.tmp 7))] [0,4]) (.seq (.ops [O1 8 (.mov (.tmp 4)),O1 9 (.bin .neq (.tmp 8) (.const (.int .i64 0)))] [0,4,9]) (.cond (.tmp 9) (.seq (.ops [O1 10 (.mov (.tmp 4)),O1 2 (.mov (.const (.string ⟨#[]⟩))),O1 3 (.mov (.tmp 10))] [2,3]) (.ret)) (.skip)))) (.seq (.ops [O1 11 (.mov (.tmp 0)),O1 12 (.callF 28 [.tmp 11]),O1 5 (.mov (.tmp 12))] [5]) (.seq (.seq (.ops [O1 13 (.mov (.tmp 5)),O1 14 (.len true (.tmp 13)),O1 15 (.bin .gtr (.tmp 14) (.const (.int .i64 2000)))] [5,15]) (.cond (.tmp 15) (.seq (.ops [O1 2 (.mov (.const (.string ⟨#[]⟩))),O1 3 (.mov (.const (.int .i64 4)))] [2,3]) (.ret)) (.skip))) (.seq (.ops [O1 16 (.mov (.tmp 5)),O1 2 (.mov (.tmp 16)),O1 3 (.mov (.const (.int .i64 0)))] [2,3]) (.ret))))),17,[(2,none),(3,none)],true⟩
theorem bY5:n7 Tryd.prog 10 c10:= .code ⟨Tryd.f10,_,c10.code,Tryd.func10,rfl,by kernel_rfl,rfl,by kernel_rfl,by kernel_rfl⟩
/- raddle/raddleref41.Cells -/
def c11:n9:=⟨.seq (.ops [O1 2 (.mov (.const (.string ⟨#[]⟩))),O1 3 (.mov (.const (.int .i64 0)))] [0]) (.seq (.seq (.ops [O1 6 (.mov (.tmp 0)),O1 7 (.callF 29 [.tmp 6]),O1 4 (.mov (.tmp 7))] [0,4]) (.seq (.ops [O1 8 (.mov (.tmp 4)),O1 9 (.bin .neq (.tmp 8) (.const (.int .i64 0)))] [0,4,9]) (.cond (.tmp 9) (.seq (.ops [O1 10 (.mov (.tmp 4)),O1 2 (.mov (.const (.string ⟨#[]⟩))),O1 3 (.mov (.tmp 10))] [2,3]) (.ret)) (.skip)))) (.seq (.ops [O1 11 (.mov (.tmp 0)),O1 12 (.callF 30 [.tmp 11]),O1 5 (.mov (.tmp 12))] [5]) (.seq (.seq (.ops [O1 13 (.mov (.tmp 5)),O1 14 (.len true (.tmp 13)),O1 15 (.bin .gtr (.tmp 14) (.const (.int .i64 2000)))] [5,15]) (.cond (.tmp 15) (.seq (.ops [O1 2 (.mov (.const (.string ⟨#[]⟩))),O1 3 (.mov (.const (.int .i64 4)))] [2,3]) (.ret)) (.skip))) (.seq (.ops [O1 16 (.mov (.tmp 5)),O1 2 (.mov (.tmp 16)),O1 3 (.mov (.const (.int .i64 0)))] [2,3]) (.ret))))),17,[(2,none),(3,none)],true⟩
theorem bY6:n7 Tryd.prog 11 c11:= .code ⟨Tryd.f11,_,c11.code,Tryd.func11,rfl,by kernel_rfl,rfl,by kernel_rfl,by kernel_rfl⟩
/- raddle/r4.ParseCells -/
def RY:AC:= .seq (.ops [O1 39 (.bin .lss (.tmp 38) (.tmp 37))] [0,4,7,16,17,18,37,38,39]) (.seq (.cond (.tmp 39) (.skip) (.exit 2)) (.seq (.block 3 (.ops [O1 40 (.mov (.tmp 4)),O1 41 (.load (some 4) (.tmp 7)),O1 42 (.mkRow 48 4 1 [(.int .u8 0),(.bool false),(.int .i64 0),(.int .i64 0)] [(0,4,(.tmp 41))]),O1 43 (.app 48 4 24 (.tmp 40) (.tmp 42)),O1 4 (.mov (.tmp 43))] [0,4,7,16,17,18,37,38])) (.ops [O1 44 (.bin .add (.tmp 38) (.const (.int .i64 1))),O1 38 (.mov (.tmp 44))] [0,4,7,16,17,18,37,38])))
def tB:AC:= .seq (.ops [O1 19 (.bin .lss (.tmp 18) (.tmp 17))] [0,4,16,17,18,19]) (.seq (.cond (.tmp 19) (.skip) (.exit 0)) (.seq (.block 1 (.seq (.ops [O1 20 (.idxS 1 (.tmp 16) (.tmp 18)),O1 21 (.load none (.tmp 20)),O1 6 (.mov (.tmp 21))] [0,4,6,16,17,18]) (.seq (.ops [O1 23 (.mov (.tmp 6)),O1 24 (.callF 32 [.tmp 23]),O1 22 (.mov (.tmp 24)),O1 25 (.ext (.tmp 22) 0),O1 26 (.ext (.tmp 22) 1),O1 27 (.ext (.tmp 22) 2),O1 7 (.alloc 48 [(1,(.int .u8 0)),(1,(.bool false)),(2,(.int .i64 0))]),⟨none,none,.store 4 (.tmp 7) (.tmp 25)⟩,O1 8 (.mov (.tmp 26)),O1 9 (.mov (.tmp 27))] [0,4,7,8,9,16,17,18]) (.seq (.seq (.ops [O1 28 (.mov (.tmp 9)),O1 29 (.un .not (.tmp 28)),O1 30 (.mov (.tmp 29)),⟨some 31,some (30,false),.mov (.tmp 4)⟩,⟨some 32,some (30,false),.len false (.tmp 31)⟩,⟨some 33,some (30,false),.mov (.tmp 8)⟩,⟨some 34,some (30,false),.bin .add (.tmp 32) (.tmp 33)⟩,⟨some 35,some (30,false),.bin .gtr (.tmp 34) (.const (.int .i64 200))⟩,O1 36 (.pick (.tmp 30) (.const (.bool true)) (.tmp 35))] [0,4,7,8,16,17,18,36]) (.cond (.tmp 36) (.seq (.ops [O1 2 (.mov (.const (.slice none 0 0))),O1 3 (.mov (.const (.int .i64 12)))] [2,3]) (.ret)) (.skip))) (.seq (.ops [O1 37 (.mov (.tmp 8)),O1 38 (.mov (.const (.int .i64 0)))] [0,4,7,16,17,18,37,38]) (.block 2 (.loop [0,4,7,16,17,18,37,38] RY))))))) (.ops [O1 45 (.bin .add (.tmp 18) (.const (.int .i64 1))),O1 18 (.mov (.tmp 45))] [0,4,16,17,18])))
def c12:n9:=⟨.seq (.ops [O1 2 (.mov (.const (.slice none 0 0))),O1 3 (.mov (.const (.int .i64 0)))] [0]) (.seq (.seq (.ops [O1 10 (.mov (.tmp 0)),O1 11 (.len true (.tmp 10)),O1 12 (.bin .gtr (.tmp 11) (.const (.int .i64 2000)))] [0,12]) (.cond (.tmp 12) (.seq (.ops [O1 2 (.mov (.const (.slice none 0 0))),O1 3 (.mov (.const (.int .i64 12)))] [2,3]) (.ret)) (.skip))) (.seq (.seq (.ops [O1 13 (.mov (.tmp 0)),O1 14 (.bin .eql (.tmp 13) (.const (.string ⟨#[110,111,116,104,105,110,103]⟩)))] [0,14]) (.cond (.tmp 14) (.seq (.ops [O1 2 (.mov (.const (.slice none 0 0))),O1 3 (.mov (.const (.int .i64 0)))] [2,3]) (.ret)) (.skip))) (.seq (.ops [O1 4 (.mov (.const (.slice none 0 0)))] [0,4]) (.seq (.seq (.ops [O1 15 (.mov (.tmp 0)),O1 16 (.callF 31 [(.tmp 15),(.const (.string ⟨#[44,32]⟩))]),O1 17 (.len false (.tmp 16)),O1 18 (.mov (.const (.int .i64 0)))] [0,4,16,17,18]) (.block 0 (.loop [0,4,16,17,18] tB))) (.seq (.seq (.ops [O1 46 (.mov (.tmp 4)),O1 47 (.callF 27 [.tmp 46]),O1 48 (.bin .neq (.tmp 47) (.const (.int .i64 0))),O1 49 (.mov (.tmp 48)),⟨some 50,some (49,false),.mov (.tmp 4)⟩,⟨some 51,some (49,false),.callF 28 [.tmp 50]⟩,⟨some 52,some (49,false),.mov (.tmp 0)⟩,⟨some 53,some (49,false),.bin .neq (.tmp 51) (.tmp 52)⟩,O1 54 (.pick (.tmp 49) (.const (.bool true)) (.tmp 53))] [4,54]) (.cond (.tmp 54) (.seq (.ops [O1 2 (.mov (.const (.slice none 0 0))),O1 3 (.mov (.const (.int .i64 12)))] [2,3]) (.ret)) (.skip))) (.seq (.ops [O1 55 (.mov (.tmp 4)),O1 2 (.mov (.tmp 55)),O1 3 (.mov (.const (.int .i64 0)))] [2,3]) (.ret))))))),56,[(2,none),(3,none)],true⟩
theorem bY7:n7 Tryd.prog 12 c12:= .code ⟨Tryd.f12,_,c12.code,Tryd.func12,rfl,by kernel_rfl,rfl,by kernel_rfl,by kernel_rfl⟩
/- raddle/raddleref41.ParseCells -/
def RZ:AC:= .seq (.seq (.ops [O1 40 (.mov (.tmp 9)),O1 41 (.mov (.tmp 8)),O1 42 (.bin .lss (.tmp 40) (.tmp 41))] [0,4,5,6,7,8,9,42]) (.cond (.tmp 42) (.skip) (.exit 2))) (.seq (.block 3 (.ops [O1 45 (.mov (.tmp 4)),O1 46 (.load (some 4) (.tmp 7)),O1 47 (.mkRow 48 4 1 [(.int .u8 0),(.bool false),(.int .i64 0),(.int .i64 0)] [(0,4,(.tmp 46))]),O1 48 (.app 48 4 24 (.tmp 45) (.tmp 47)),O1 4 (.mov (.tmp 48))] [0,4,5,6,7,8,9])) (.ops [O1 43 (.mov (.tmp 9)),O1 44 (.bin .add (.tmp 43) (.const (.int .i64 1))),O1 9 (.mov (.tmp 44))] [0,4,5,6,7,8,9]))
def tC:AC:= .seq (.seq (.ops [O1 17 (.mov (.tmp 6)),O1 18 (.mov (.tmp 5)),O1 19 (.len false (.tmp 18)),O1 20 (.bin .lss (.tmp 17) (.tmp 19))] [0,4,5,6,20]) (.cond (.tmp 20) (.skip) (.exit 0))) (.seq (.block 1 (.seq (.ops [O1 24 (.mov (.tmp 5)),O1 25 (.mov (.tmp 6)),O1 26 (.idxS 1 (.tmp 24) (.tmp 25)),O1 27 (.load none (.tmp 26)),O1 28 (.callF 34 [.tmp 27]),O1 23 (.mov (.tmp 28)),O1 29 (.ext (.tmp 23) 0),O1 30 (.ext (.tmp 23) 1),O1 7 (.alloc 48 [(1,(.int .u8 0)),(1,(.bool false)),(2,(.int .i64 0))]),⟨none,none,.store 4 (.tmp 7) (.tmp 29)⟩,O1 8 (.mov (.tmp 30))] [0,4,5,6,7,8]) (.seq (.seq (.ops [O1 31 (.mov (.tmp 8)),O1 32 (.bin .eql (.tmp 31) (.const (.int .i64 0))),O1 33 (.mov (.tmp 32)),⟨some 34,some (33,false),.mov (.tmp 4)⟩,⟨some 35,some (33,false),.len false (.tmp 34)⟩,⟨some 36,some (33,false),.mov (.tmp 8)⟩,⟨some 37,some (33,false),.bin .add (.tmp 35) (.tmp 36)⟩,⟨some 38,some (33,false),.bin .gtr (.tmp 37) (.const (.int .i64 200))⟩,O1 39 (.pick (.tmp 33) (.const (.bool true)) (.tmp 38))] [0,4,5,6,7,8,39]) (.cond (.tmp 39) (.seq (.ops [O1 2 (.mov (.const (.slice none 0 0))),O1 3 (.mov (.const (.int .i64 12)))] [2,3]) (.ret)) (.skip))) (.seq (.ops [O1 9 (.mov (.const (.int .i64 0)))] [0,4,5,6,7,8,9]) (.block 2 (.loop [0,4,5,6,7,8,9] RZ)))))) (.ops [O1 21 (.mov (.tmp 6)),O1 22 (.bin .add (.tmp 21) (.const (.int .i64 1))),O1 6 (.mov (.tmp 22))] [0,4,5,6]))
def c13:n9:=⟨.seq (.ops [O1 2 (.mov (.const (.slice none 0 0))),O1 3 (.mov (.const (.int .i64 0)))] [0]) (.seq (.seq (.ops [O1 10 (.mov (.tmp 0)),O1 11 (.len true (.tmp 10)),O1 12 (.bin .gtr (.tmp 11) (.const (.int .i64 2000)))] [0,12]) (.cond (.tmp 12) (.seq (.ops [O1 2 (.mov (.const (.slice none 0 0))),O1 3 (.mov (.const (.int .i64 12)))] [2,3]) (.ret)) (.skip))) (.seq (.seq (.ops [O1 13 (.mov (.tmp 0)),O1 14 (.bin .eql (.tmp 13) (.const (.string ⟨#[110,111,116,104,105,110,103]⟩)))] [0,14]) (.cond (.tmp 14) (.seq (.ops [O1 2 (.mov (.const (.slice none 0 0))),O1 3 (.mov (.const (.int .i64 0)))] [2,3]) (.ret)) (.skip))) (.seq (.ops [O1 4 (.mov (.const (.slice none 0 0)))] [0,4]) (.seq (.ops [O1 15 (.mov (.tmp 0)),O1 16 (.callF 33 [.tmp 15]),O1 5 (.mov (.tmp 16))] [0,4,5]) (.seq (.seq (.ops [O1 6 (.mov (.const (.int .i64 0)))] [0,4,5,6]) (.block 0 (.loop [0,4,5,6] tC))) (.seq (.seq (.ops [O1 49 (.mov (.tmp 4)),O1 50 (.callF 29 [.tmp 49]),O1 51 (.bin .neq (.tmp 50) (.const (.int .i64 0))),O1 52 (.mov (.tmp 51)),⟨some 53,some (52,false),.mov (.tmp 4)⟩,⟨some 54,some (52,false),.callF 30 [.tmp 53]⟩,⟨some 55,some (52,false),.mov (.tmp 0)⟩,⟨some 56,some (52,false),.bin .neq (.tmp 54) (.tmp 55)⟩,O1 57 (.pick (.tmp 52) (.const (.bool true)) (.tmp 56))] [4,57]) (.cond (.tmp 57) (.seq (.ops [O1 2 (.mov (.const (.slice none 0 0))),O1 3 (.mov (.const (.int .i64 12)))] [2,3]) (.ret)) (.skip))) (.seq (.ops [O1 58 (.mov (.tmp 4)),O1 2 (.mov (.tmp 58)),O1 3 (.mov (.const (.int .i64 0)))] [2,3]) (.ret)))))))),59,[(2,none),(3,none)],true⟩
theorem bY8:n7 Tryd.prog 13 c13:= .code ⟨Tryd.f13,_,c13.code,Tryd.func13,rfl,by kernel_rfl,rfl,by kernel_rfl,by kernel_rfl⟩
/- raddle/raddleref25.Same -/
def SA:AC:= .seq (.seq (.ops [O1 11 (.mov (.tmp 5)),O1 12 (.mov (.tmp 0)),O1 13 (.len false (.tmp 12)),O1 14 (.bin .lss (.tmp 11) (.tmp 13))] [0,1,5,14]) (.cond (.tmp 14) (.skip) (.exit 0))) (.seq (.block 1 (.seq (.draw [O1 17 (.mov (.tmp 0)),O1 18 (.mov (.tmp 5)),O1 19 (.idxS 4 (.tmp 17) (.tmp 18)),O1 20 (.load (some 4) (.tmp 19)),O1 21 (.mov (.tmp 1)),O1 22 (.mov (.tmp 5)),O1 23 (.idxS 4 (.tmp 21) (.tmp 22)),O1 24 (.load (some 4) (.tmp 23))] [O1 25 (.eqAgg true [(0,0),(1,2),(2,0),(3,0)] (.tmp 20) (.tmp 24))] [[],[],[],[],[],[],[],[]] [0,1,5,25]) (.cond (.tmp 25) (.seq (.ops [O1 4 (.mov (.const (.bool false)))] [4]) (.ret)) (.skip)))) (.ops [O1 15 (.mov (.tmp 5)),O1 16 (.bin .add (.tmp 15) (.const (.int .i64 1))),O1 5 (.mov (.tmp 16))] [0,1,5]))
def c14:n9:=⟨.seq (.ops [O1 4 (.mov (.const (.bool false)))] [0,1]) (.seq (.seq (.ops [O1 6 (.mov (.tmp 0)),O1 7 (.len false (.tmp 6)),O1 8 (.mov (.tmp 1)),O1 9 (.len false (.tmp 8)),O1 10 (.bin .neq (.tmp 7) (.tmp 9))] [0,1,10]) (.cond (.tmp 10) (.seq (.ops [O1 4 (.mov (.const (.bool false)))] [4]) (.ret)) (.skip))) (.seq (.seq (.ops [O1 5 (.mov (.const (.int .i64 0)))] [0,1,5]) (.block 0 (.loop [0,1,5] SA))) (.seq (.ops [O1 4 (.mov (.const (.bool true)))] [4]) (.ret)))),26,[(4,none)],true⟩
theorem bY9:n7 Tryd.prog 14 c14:= .code ⟨Tryd.f14,_,c14.code,Tryd.func14,rfl,by kernel_rfl,rfl,by kernel_rfl,by kernel_rfl⟩
/- raddle/r4.Row -/
def c15:n9:=⟨.seq (.ops [O1 2 (.box 36 (.tmp 0)),O1 4 (.mov (.const (.string ⟨#[]⟩))),O1 5 (.mov (.const (.int .i64 0)))] [1,2]) (.seq (.seq (.ops [O1 9 (.fldA 1 (.tmp 2)),O1 10 (.load none (.tmp 9)),O1 11 (.callF 27 [.tmp 10]),O1 6 (.mov (.tmp 11))] [1,2,6]) (.seq (.ops [O1 12 (.mov (.tmp 6)),O1 13 (.bin .neq (.tmp 12) (.const (.int .i64 0)))] [1,2,6,13]) (.cond (.tmp 13) (.seq (.ops [O1 14 (.mov (.tmp 6)),O1 4 (.mov (.const (.string ⟨#[]⟩))),O1 5 (.mov (.tmp 14))] [4,5]) (.ret)) (.skip)))) (.seq (.seq (.ops [O1 15 (.mov (.tmp 1)),O1 16 (.bin .lss (.tmp 15) (.const (.int .i64 1))),O1 17 (.mov (.tmp 16)),⟨some 18,some (17,false),.mov (.tmp 1)⟩,⟨some 19,some (17,false),.bin .gtr (.tmp 18) (.const (.int .i64 100))⟩,O1 20 (.pick (.tmp 17) (.const (.bool true)) (.tmp 19))] [1,2,20]) (.cond (.tmp 20) (.seq (.ops [O1 4 (.mov (.const (.string ⟨#[]⟩))),O1 5 (.mov (.const (.int .i64 2)))] [4,5]) (.ret)) (.skip))) (.seq (.ops [O1 22 (.fldA 1 (.tmp 2)),O1 23 (.load none (.tmp 22)),O1 24 (.callF 10 [.tmp 23]),O1 21 (.mov (.tmp 24)),O1 25 (.ext (.tmp 21) 0),O1 26 (.ext (.tmp 21) 1),O1 7 (.mov (.tmp 25)),O1 8 (.mov (.tmp 26))] [1,2,7,8]) (.seq (.seq (.ops [O1 27 (.mov (.tmp 8)),O1 28 (.bin .neq (.tmp 27) (.const (.int .i64 0)))] [1,2,7,8,28]) (.cond (.tmp 28) (.seq (.ops [O1 29 (.mov (.tmp 8)),O1 4 (.mov (.const (.string ⟨#[]⟩))),O1 5 (.mov (.tmp 29))] [4,5]) (.ret)) (.skip))) (.seq (.draw [O1 30 (.mov (.tmp 1)),O1 31 (.callF 35 [.tmp 30]),O1 32 (.bin .add (.const (.string ⟨#[114,111,119,32]⟩)) (.tmp 31)),O1 33 (.bin .add (.tmp 32) (.const (.string ⟨#[32,40]⟩))),O1 34 (.fldA 0 (.tmp 2)),O1 35 (.load none (.tmp 34)),O1 36 (.callF 36 [.tmp 35]),O1 37 (.bin .add (.tmp 33) (.tmp 36)),O1 38 (.bin .add (.tmp 37) (.const (.string ⟨#[41,58,32]⟩))),O1 39 (.mov (.tmp 7))] [O1 40 (.bin .add (.tmp 38) (.tmp 39)),O1 41 (.bin .add (.tmp 40) (.const (.string ⟨#[46]⟩))),O1 4 (.mov (.tmp 41)),O1 5 (.mov (.const (.int .i64 0)))] [[],[],[],[],[false,false,false,false],[true,false,false,false,false],[],[],[],[false,false,false,false,false,false,false,false,false]] [4,5]) (.ret)))))),42,[(4,none),(5,none)],true⟩
theorem bZ0:n7 Tryd.prog 15 c15:= .code ⟨Tryd.f15,_,c15.code,Tryd.func15,rfl,by kernel_rfl,rfl,by kernel_rfl,by kernel_rfl⟩
/- raddle/raddleref41.Row -/
def c16:n9:=⟨.seq (.ops [O1 2 (.box 36 (.tmp 0)),O1 4 (.mov (.const (.string ⟨#[]⟩))),O1 5 (.mov (.const (.int .i64 0)))] [1,2]) (.seq (.seq (.ops [O1 9 (.fldA 1 (.tmp 2)),O1 10 (.load none (.tmp 9)),O1 11 (.callF 29 [.tmp 10]),O1 6 (.mov (.tmp 11))] [1,2,6]) (.seq (.ops [O1 12 (.mov (.tmp 6)),O1 13 (.bin .neq (.tmp 12) (.const (.int .i64 0)))] [1,2,6,13]) (.cond (.tmp 13) (.seq (.ops [O1 14 (.mov (.tmp 6)),O1 4 (.mov (.const (.string ⟨#[]⟩))),O1 5 (.mov (.tmp 14))] [4,5]) (.ret)) (.skip)))) (.seq (.seq (.ops [O1 15 (.mov (.tmp 1)),O1 16 (.bin .lss (.tmp 15) (.const (.int .i64 1))),O1 17 (.mov (.tmp 16)),⟨some 18,some (17,false),.mov (.tmp 1)⟩,⟨some 19,some (17,false),.bin .gtr (.tmp 18) (.const (.int .i64 100))⟩,O1 20 (.pick (.tmp 17) (.const (.bool true)) (.tmp 19))] [1,2,20]) (.cond (.tmp 20) (.seq (.ops [O1 4 (.mov (.const (.string ⟨#[]⟩))),O1 5 (.mov (.const (.int .i64 2)))] [4,5]) (.ret)) (.skip))) (.seq (.ops [O1 22 (.fldA 1 (.tmp 2)),O1 23 (.load none (.tmp 22)),O1 24 (.callF 11 [.tmp 23]),O1 21 (.mov (.tmp 24)),O1 25 (.ext (.tmp 21) 0),O1 26 (.ext (.tmp 21) 1),O1 7 (.mov (.tmp 25)),O1 8 (.mov (.tmp 26))] [1,2,7,8]) (.seq (.seq (.ops [O1 27 (.mov (.tmp 8)),O1 28 (.bin .neq (.tmp 27) (.const (.int .i64 0)))] [1,2,7,8,28]) (.cond (.tmp 28) (.seq (.ops [O1 29 (.mov (.tmp 8)),O1 4 (.mov (.const (.string ⟨#[]⟩))),O1 5 (.mov (.tmp 29))] [4,5]) (.ret)) (.skip))) (.seq (.ops [O1 30 (.fldA 0 (.tmp 2)),O1 31 (.load none (.tmp 30)),O1 32 (.mov (.tmp 1)),O1 33 (.callF 37 [(.tmp 31),(.tmp 32)]),O1 34 (.mov (.tmp 7)),O1 35 (.bin .add (.tmp 33) (.tmp 34)),O1 36 (.bin .add (.tmp 35) (.const (.string ⟨#[46]⟩))),O1 4 (.mov (.tmp 36)),O1 5 (.mov (.const (.int .i64 0)))] [4,5]) (.ret)))))),37,[(4,none),(5,none)],true⟩
theorem bZ1:n7 Tryd.prog 16 c16:= .code ⟨Tryd.f16,_,c16.code,Tryd.func16,rfl,by kernel_rfl,rfl,by kernel_rfl,by kernel_rfl⟩
/- raddle/r4.ParseRow -/
def qF:AC:= .seq (.ops [O1 39 (.bin .lss (.tmp 38) (.const (.int .i64 2)))] [0,2,5,8,37,38,39]) (.seq (.cond (.tmp 39) (.skip) (.exit 0)) (.seq (.block 1 (.seq (.ops [O1 40 (.idxV 2 1 none (.tmp 37) (.tmp 38)),O1 11 (.mov (.tmp 40))] [0,2,5,8,11,37,38]) (.seq (.ops [O1 42 (.mov (.tmp 8)),O1 43 (.mov (.tmp 11)),O1 44 (.callF 36 [.tmp 43]),O1 45 (.bin .add (.tmp 44) (.const (.string ⟨#[41,58,32]⟩))),O1 46 (.callF 40 [(.tmp 42),(.tmp 45)]),O1 41 (.mov (.tmp 46)),O1 47 (.ext (.tmp 41) 0),O1 48 (.ext (.tmp 41) 1),O1 12 (.mov (.tmp 47)),O1 13 (.mov (.tmp 48))] [0,2,5,8,11,12,13,37,38]) (.seq (.seq (.ops [O1 49 (.mov (.tmp 13)),O1 50 (.un .not (.tmp 49))] [0,2,5,8,11,12,37,38,50]) (.cond (.tmp 50) (.exit 1) (.skip))) (.seq (.ops [O1 52 (.mov (.tmp 12)),O1 53 (.callF 12 [.tmp 52]),O1 51 (.mov (.tmp 53)),O1 54 (.ext (.tmp 51) 0),O1 55 (.ext (.tmp 51) 1),O1 14 (.mov (.tmp 54)),O1 15 (.mov (.tmp 55))] [0,2,5,8,11,14,15,37,38]) (.seq (.ops [O1 56 (.mov (.tmp 11)),O1 57 (.mov (.tmp 14)),O1 58 (.build [(.bool false),(.slice none 0 0)] [(0,1,(.tmp 56)),(1,1,(.tmp 57))]),O1 16 (.alloc 36 [(1,(.bool false)),(1,(.slice none 0 0))]),⟨none,none,.store 2 (.tmp 16) (.tmp 58)⟩] [0,2,5,8,15,16,37,38]) (.seq (.draw [O1 60 (.load (some 2) (.tmp 16)),O1 61 (.mov (.tmp 5)),O1 62 (.idxS 1 (.tmp 61) (.const (.int .i64 0))),O1 63 (.load none (.tmp 62)),O1 64 (.callF 15 [(.tmp 60),(.tmp 63)]),O1 59 (.mov (.tmp 64)),O1 65 (.ext (.tmp 59) 0),O1 66 (.ext (.tmp 59) 1),O1 17 (.mov (.tmp 65))] [O1 18 (.mov (.tmp 66))] [[],[],[],[],[],[],[],[],[]] [0,2,5,8,15,16,17,18,37,38]) (.seq (.ops [O1 67 (.mov (.tmp 15)),O1 68 (.bin .eql (.tmp 67) (.const (.int .i64 0))),O1 69 (.mov (.tmp 68)),⟨some 70,some (69,true),.mov (.tmp 18)⟩,⟨some 71,some (69,true),.bin .eql (.tmp 70) (.const (.int .i64 0))⟩,O1 72 (.pick (.tmp 69) (.tmp 71) (.const (.bool false))),O1 73 (.mov (.tmp 72)),⟨some 74,some (73,true),.mov (.tmp 17)⟩,⟨some 75,some (73,true),.mov (.tmp 0)⟩,⟨some 76,some (73,true),.bin .eql (.tmp 74) (.tmp 75)⟩,O1 77 (.pick (.tmp 73) (.tmp 76) (.const (.bool false)))] [0,2,5,8,16,37,38,77]) (.cond (.tmp 77) (.seq (.drawW [⟨O1 78 (.load (some 2) (.tmp 16)),[],none⟩,⟨O1 79 (.mov (.tmp 5)),[0],none⟩,⟨O1 80 (.idxS 1 (.tmp 79) (.const (.int .i64 0))),[0],none⟩,⟨O1 81 (.load none (.tmp 80)),[0],none⟩,⟨⟨none,none,.store 2 (.tmp 2) (.tmp 78)⟩,[1,2,3],none⟩] [O1 3 (.mov (.tmp 81)),O1 4 (.mov (.const (.int .i64 0)))] [2,3,4]) (.ret)) (.skip)))))))))) (.ops [O1 82 (.bin .add (.tmp 38) (.const (.int .i64 1))),O1 38 (.mov (.tmp 82))] [0,2,5,8,37,38])))
def c17:n9:=⟨.seq (.ops [O1 2 (.alloc 36 [(1,(.bool false)),(1,(.slice none 0 0))]),O1 3 (.mov (.const (.int .i64 0))),O1 4 (.mov (.const (.int .i64 0)))] [0,2]) (.seq (.ops [O1 20 (.mov (.tmp 0)),O1 21 (.callF 38 [(.tmp 20),(.const (.string ⟨#[114,111,119,32,35,32,40]⟩))]),O1 19 (.mov (.tmp 21)),O1 22 (.ext (.tmp 19) 0),O1 23 (.ext (.tmp 19) 1),O1 24 (.ext (.tmp 19) 2),O1 5 (.mov (.tmp 22)),O1 6 (.mov (.tmp 23)),O1 7 (.mov (.tmp 24))] [0,2,5,6,7]) (.seq (.ops [O1 26 (.mov (.tmp 6)),O1 27 (.callF 39 [(.tmp 26),(.const (.string ⟨#[46]⟩))]),O1 25 (.mov (.tmp 27)),O1 28 (.ext (.tmp 25) 0),O1 29 (.ext (.tmp 25) 1),O1 8 (.mov (.tmp 28)),O1 9 (.mov (.tmp 29))] [0,2,5,7,8,9]) (.seq (.seq (.ops [O1 30 (.mov (.tmp 7)),O1 31 (.un .not (.tmp 30)),O1 32 (.mov (.tmp 31)),⟨some 33,some (32,false),.mov (.tmp 9)⟩,⟨some 34,some (32,false),.un .not (.tmp 33)⟩,O1 35 (.pick (.tmp 32) (.const (.bool true)) (.tmp 34))] [0,2,5,8,35]) (.cond (.tmp 35) (.seq (.ops [O1 36 (.build [(.bool false),(.slice none 0 0)] []),⟨none,none,.store 2 (.tmp 2) (.tmp 36)⟩,O1 3 (.mov (.const (.int .i64 0))),O1 4 (.mov (.const (.int .i64 12)))] [2,3,4]) (.ret)) (.skip))) (.seq (.seq (.ops [O1 37 (.build [(.bool false),(.bool false)] [(0,1,(.const (.bool false))),(1,1,(.const (.bool true)))]),O1 38 (.mov (.const (.int .i64 0)))] [0,2,5,8,37,38]) (.block 0 (.loop [0,2,5,8,37,38] qF))) (.seq (.ops [O1 83 (.build [(.bool false),(.slice none 0 0)] []),⟨none,none,.store 2 (.tmp 2) (.tmp 83)⟩,O1 3 (.mov (.const (.int .i64 0))),O1 4 (.mov (.const (.int .i64 12)))] [2,3,4]) (.ret)))))),84,[(2,(some (some 2))),(3,none),(4,none)],true⟩
theorem bZ2:n7 Tryd.prog 17 c17:= .code ⟨Tryd.f17,_,c17.code,Tryd.func17,rfl,by kernel_rfl,rfl,by kernel_rfl,by kernel_rfl⟩
/- raddle/raddleref41.ParseRow -/
def qG:AC:= .seq (.seq (.ops [O1 14 (.mov (.tmp 6)),O1 15 (.bin .lss (.tmp 14) (.const (.int .i64 2)))] [0,2,5,6,15]) (.cond (.tmp 15) (.skip) (.exit 2))) (.seq (.block 3 (.seq (.ops [O1 18 (.mov (.tmp 6)),O1 19 (.bin .eql (.tmp 18) (.const (.int .i64 1))),O1 20 (.mov (.tmp 5)),O1 21 (.callF 37 [(.tmp 19),(.tmp 20)]),O1 7 (.mov (.tmp 21))] [0,2,5,6,7]) (.seq (.seq (.ops [O1 22 (.mov (.tmp 0)),O1 23 (.mov (.tmp 7)),O1 24 (.callF 41 [(.tmp 22),(.tmp 23)]),O1 25 (.un .not (.tmp 24)),O1 26 (.mov (.tmp 25)),⟨some 27,some (26,false),.mov (.tmp 0)⟩,⟨some 28,some (26,false),.len true (.tmp 27)⟩,⟨some 29,some (26,false),.mov (.tmp 7)⟩,⟨some 30,some (26,false),.len true (.tmp 29)⟩,⟨some 31,some (26,false),.bin .eql (.tmp 28) (.tmp 30)⟩,O1 32 (.pick (.tmp 26) (.const (.bool true)) (.tmp 31)),O1 33 (.mov (.tmp 32)),⟨some 34,some (33,false),.mov (.tmp 0)⟩,⟨some 35,some (33,false),.mov (.tmp 0)⟩,⟨some 36,some (33,false),.len true (.tmp 35)⟩,⟨some 37,some (33,false),.bin .sub (.tmp 36) (.const (.int .i64 1))⟩,⟨some 38,some (33,false),.idxStr (.tmp 34) (.tmp 37)⟩,⟨some 39,some (33,false),.bin .neq (.tmp 38) (.const (.int .u8 46))⟩,O1 40 (.pick (.tmp 33) (.const (.bool true)) (.tmp 39))] [0,2,5,6,7,40]) (.cond (.tmp 40) (.exit 3) (.skip))) (.seq (.ops [O1 42 (.mov (.tmp 0)),O1 43 (.mov (.tmp 7)),O1 44 (.len true (.tmp 43)),O1 45 (.mov (.tmp 0)),O1 46 (.len true (.tmp 45)),O1 47 (.bin .sub (.tmp 46) (.const (.int .i64 1))),O1 48 (.slcS (.tmp 42) (some (.tmp 44)) (some (.tmp 47))),O1 49 (.callF 13 [.tmp 48]),O1 41 (.mov (.tmp 49)),O1 50 (.ext (.tmp 41) 0),O1 51 (.ext (.tmp 41) 1),O1 8 (.mov (.tmp 50)),O1 9 (.mov (.tmp 51))] [0,2,5,6,8,9]) (.seq (.ops [O1 52 (.mov (.tmp 9)),O1 53 (.bin .eql (.tmp 52) (.const (.int .i64 0)))] [0,2,5,6,8,53]) (.cond (.tmp 53) (.seq (.ops [O1 54 (.mov (.tmp 6)),O1 55 (.bin .eql (.tmp 54) (.const (.int .i64 1))),O1 56 (.mov (.tmp 8)),O1 57 (.build [(.bool false),(.slice none 0 0)] [(0,1,(.tmp 55)),(1,1,(.tmp 56))]),O1 58 (.mov (.tmp 5)),⟨none,none,.store 2 (.tmp 2) (.tmp 57)⟩,O1 3 (.mov (.tmp 58)),O1 4 (.mov (.const (.int .i64 0)))] [2,3,4]) (.ret)) (.skip))))))) (.ops [O1 16 (.mov (.tmp 6)),O1 17 (.bin .add (.tmp 16) (.const (.int .i64 1))),O1 6 (.mov (.tmp 17))] [0,2,5,6]))
def ZX:AC:= .seq (.seq (.ops [O1 10 (.mov (.tmp 5)),O1 11 (.bin .leq (.tmp 10) (.const (.int .i64 100)))] [0,2,5,11]) (.cond (.tmp 11) (.skip) (.exit 0))) (.seq (.block 1 (.seq (.ops [O1 6 (.mov (.const (.int .i64 0)))] [0,2,5,6]) (.block 2 (.loop [0,2,5,6] qG)))) (.ops [O1 12 (.mov (.tmp 5)),O1 13 (.bin .add (.tmp 12) (.const (.int .i64 1))),O1 5 (.mov (.tmp 13))] [0,2,5]))
def c18:n9:=⟨.seq (.ops [O1 2 (.alloc 36 [(1,(.bool false)),(1,(.slice none 0 0))]),O1 3 (.mov (.const (.int .i64 0))),O1 4 (.mov (.const (.int .i64 0)))] [0,2]) (.seq (.seq (.ops [O1 5 (.mov (.const (.int .i64 1)))] [0,2,5]) (.block 0 (.loop [0,2,5] ZX))) (.seq (.ops [O1 59 (.build [(.bool false),(.slice none 0 0)] []),⟨none,none,.store 2 (.tmp 2) (.tmp 59)⟩,O1 3 (.mov (.const (.int .i64 0))),O1 4 (.mov (.const (.int .i64 12)))] [2,3,4]) (.ret))),60,[(2,(some (some 2))),(3,none),(4,none)],true⟩
theorem bZ3:n7 Tryd.prog 18 c18:= .code ⟨Tryd.f18,_,c18.code,Tryd.func18,rfl,by kernel_rfl,rfl,by kernel_rfl,by kernel_rfl⟩
/- raddle/raddleref41.SameRow -/
def c19:n9:=⟨.seq (.ops [O1 2 (.box 36 (.tmp 0)),O1 3 (.box 36 (.tmp 1)),O1 4 (.mov (.const (.bool false)))] [2,3]) (.seq (.ops [O1 5 (.fldA 0 (.tmp 2)),O1 6 (.load none (.tmp 5)),O1 7 (.fldA 0 (.tmp 3)),O1 8 (.load none (.tmp 7)),O1 9 (.eqB false (.tmp 6) (.tmp 8)),O1 10 (.mov (.tmp 9)),⟨some 11,some (10,true),.fldA 1 (.tmp 2)⟩,⟨some 12,some (10,true),.load none (.tmp 11)⟩,⟨some 13,some (10,true),.fldA 1 (.tmp 3)⟩,⟨some 14,some (10,true),.load none (.tmp 13)⟩,⟨some 15,some (10,true),.callF 14 [(.tmp 12),(.tmp 14)]⟩,O1 16 (.pick (.tmp 10) (.tmp 15) (.const (.bool false))),O1 4 (.mov (.tmp 16))] [4]) (.ret)),17,[(4,none)],true⟩
theorem bZ4:n7 Tryd.prog 19 c19:= .code ⟨Tryd.f19,_,c19.code,Tryd.func19,rfl,by kernel_rfl,rfl,by kernel_rfl,by kernel_rfl⟩
/- raddle/stitch.All -/
def c27:n9:=⟨.seq (.ops [O1 2 (.mov (.const (.int .i64 0)))] [0]) (.seq (.seq (.ops [O1 5 (.mov (.tmp 0)),O1 6 (.len false (.tmp 5)),O1 7 (.bin .gtr (.tmp 6) (.const (.int .i64 200)))] [0,7]) (.cond (.tmp 7) (.seq (.ops [O1 2 (.mov (.const (.int .i64 4)))] [2]) (.ret)) (.skip))) (.seq (.seq (.ops [O1 8 (.mov (.tmp 0)),O1 9 (.callF 47 [(.tmp 8),(.func 48)])] [0,9]) (.cond (.tmp 9) (.seq (.ops [O1 2 (.mov (.const (.int .i64 8)))] [2]) (.ret)) (.skip))) (.seq (.seq (.ops [O1 11 (.mov (.tmp 0)),O1 12 (.callF 50 [.tmp 11]),O1 10 (.mov (.tmp 12)),O1 13 (.ext (.tmp 10) 0),O1 14 (.ext (.tmp 10) 1),O1 3 (.mov (.tmp 13)),O1 4 (.mov (.tmp 14))] [3,4]) (.seq (.ops [O1 15 (.mov (.tmp 3)),O1 16 (.mov (.tmp 4)),O1 17 (.mm true (.tmp 15) (.tmp 16)),O1 18 (.bin .gtr (.tmp 17) (.const (.int .i64 200)))] [18]) (.cond (.tmp 18) (.seq (.ops [O1 2 (.mov (.const (.int .i64 4)))] [2]) (.ret)) (.skip)))) (.seq (.ops [O1 2 (.mov (.const (.int .i64 0)))] [2]) (.ret))))),19,[(2,none)],true⟩
theorem bZ5:n7 Tryd.prog 27 c27:= .code ⟨Tryd.f27,_,c27.code,Tryd.func27,rfl,by kernel_rfl,rfl,by kernel_rfl,by kernel_rfl⟩
/- raddle/r4.write -/
def HY:AC:= .seq (.seq (.draw [O1 15 (.mov (.tmp 5)),O1 16 (.mov (.tmp 0)),O1 17 (.len false (.tmp 16)),O1 18 (.bin .lss (.tmp 15) (.tmp 17)),O1 19 (.mov (.tmp 18)),⟨some 20,some (19,true),.mov (.tmp 0)⟩,⟨some 21,some (19,true),.mov (.tmp 5)⟩,⟨some 22,some (19,true),.idxS 4 (.tmp 20) (.tmp 21)⟩,⟨some 23,some (19,true),.load (some 4) (.tmp 22)⟩,⟨some 24,some (19,true),.mov (.tmp 0)⟩,⟨some 25,some (19,true),.mov (.tmp 4)⟩,⟨some 26,some (19,true),.idxS 4 (.tmp 24) (.tmp 25)⟩,⟨some 27,some (19,true),.load (some 4) (.tmp 26)⟩] [⟨some 28,some (19,true),.eqAgg false [(0,0),(1,2),(2,0),(3,0)] (.tmp 23) (.tmp 27)⟩,O1 29 (.pick (.tmp 19) (.tmp 28) (.const (.bool false)))] [[],[],[],[],[],[],[],[],[],[],[],[],[]] [0,3,4,5,29]) (.cond (.tmp 29) (.skip) (.exit 2))) (.block 3 (.ops [O1 30 (.mov (.tmp 5)),O1 31 (.bin .add (.tmp 30) (.const (.int .i64 1))),O1 5 (.mov (.tmp 31))] [0,3,4,5]))
def ZY:AC:= .seq (.seq (.ops [O1 9 (.mov (.tmp 4)),O1 10 (.mov (.tmp 0)),O1 11 (.len false (.tmp 10)),O1 12 (.bin .lss (.tmp 9) (.tmp 11))] [0,3,4,12]) (.cond (.tmp 12) (.skip) (.exit 0))) (.block 1 (.seq (.ops [O1 13 (.mov (.tmp 4)),O1 14 (.bin .add (.tmp 13) (.const (.int .i64 1))),O1 5 (.mov (.tmp 14))] [0,3,4,5]) (.seq (.block 2 (.loop [0,3,4,5] HY)) (.seq (.ops [O1 32 (.mov (.tmp 3)),O1 33 (.mov (.tmp 0)),O1 34 (.mov (.tmp 4)),O1 35 (.idxS 4 (.tmp 33) (.tmp 34)),O1 36 (.load (some 4) (.tmp 35)),O1 37 (.mov (.tmp 5)),O1 38 (.mov (.tmp 4)),O1 39 (.bin .sub (.tmp 37) (.tmp 38)),O1 40 (.callF 51 [(.tmp 36),(.tmp 39)]),O1 41 (.mkRow 9 1 1 [(.string ⟨#[]⟩)] [(0,1,(.tmp 40))]),O1 42 (.app 9 1 16 (.tmp 32) (.tmp 41)),O1 3 (.mov (.tmp 42))] [0,3,5]) (.ops [O1 43 (.mov (.tmp 5)),O1 4 (.mov (.tmp 43))] [0,3,4])))))
def c28:n9:=⟨.seq (.ops [O1 2 (.mov (.const (.string ⟨#[]⟩)))] [0]) (.seq (.seq (.ops [O1 6 (.mov (.tmp 0)),O1 7 (.len false (.tmp 6)),O1 8 (.bin .eql (.tmp 7) (.const (.int .i64 0)))] [0,8]) (.cond (.tmp 8) (.seq (.ops [O1 2 (.mov (.const (.string ⟨#[110,111,116,104,105,110,103]⟩)))] [2]) (.ret)) (.skip))) (.seq (.ops [O1 3 (.mov (.const (.slice none 0 0)))] [0,3]) (.seq (.seq (.ops [O1 4 (.mov (.const (.int .i64 0)))] [0,3,4]) (.block 0 (.loop [0,3,4] ZY))) (.seq (.ops [O1 44 (.mov (.tmp 3)),O1 45 (.callF 52 [(.tmp 44),(.const (.string ⟨#[44,32]⟩))]),O1 2 (.mov (.tmp 45))] [2]) (.ret))))),46,[(2,none)],true⟩
theorem bZ6:n7 Tryd.prog 28 c28:= .code ⟨Tryd.f28,_,c28.code,Tryd.func28,rfl,by kernel_rfl,rfl,by kernel_rfl,by kernel_rfl⟩
/- raddle/raddleref25.All -/
def HZ:AC:= .seq (.seq (.ops [O1 9 (.mov (.tmp 3)),O1 10 (.mov (.tmp 0)),O1 11 (.len false (.tmp 10)),O1 12 (.bin .lss (.tmp 9) (.tmp 11))] [0,3,12]) (.cond (.tmp 12) (.skip) (.exit 0))) (.seq (.block 1 (.seq (.ops [O1 15 (.mov (.tmp 0)),O1 16 (.mov (.tmp 3)),O1 17 (.idxS 4 (.tmp 15) (.tmp 16)),O1 18 (.load (some 4) (.tmp 17)),O1 19 (.callF 53 [.tmp 18]),O1 20 (.bin .neq (.tmp 19) (.const (.int .i64 0)))] [0,3,20]) (.cond (.tmp 20) (.seq (.ops [O1 2 (.mov (.const (.int .i64 8)))] [2]) (.ret)) (.skip)))) (.ops [O1 13 (.mov (.tmp 3)),O1 14 (.bin .add (.tmp 13) (.const (.int .i64 1))),O1 3 (.mov (.tmp 14))] [0,3]))
def c29:n9:=⟨.seq (.ops [O1 2 (.mov (.const (.int .i64 0)))] [0]) (.seq (.seq (.ops [O1 6 (.mov (.tmp 0)),O1 7 (.len false (.tmp 6)),O1 8 (.bin .gtr (.tmp 7) (.const (.int .i64 200)))] [0,8]) (.cond (.tmp 8) (.seq (.ops [O1 2 (.mov (.const (.int .i64 4)))] [2]) (.ret)) (.skip))) (.seq (.seq (.ops [O1 3 (.mov (.const (.int .i64 0)))] [0,3]) (.block 0 (.loop [0,3] HZ))) (.seq (.ops [O1 22 (.mov (.tmp 0)),O1 23 (.callF 54 [.tmp 22]),O1 21 (.mov (.tmp 23)),O1 24 (.ext (.tmp 21) 0),O1 25 (.ext (.tmp 21) 1),O1 4 (.mov (.tmp 24)),O1 5 (.mov (.tmp 25))] [4,5]) (.seq (.seq (.ops [O1 26 (.mov (.tmp 4)),O1 27 (.bin .gtr (.tmp 26) (.const (.int .i64 200))),O1 28 (.mov (.tmp 27)),⟨some 29,some (28,false),.mov (.tmp 5)⟩,⟨some 30,some (28,false),.bin .gtr (.tmp 29) (.const (.int .i64 200))⟩,O1 31 (.pick (.tmp 28) (.const (.bool true)) (.tmp 30))] [31]) (.cond (.tmp 31) (.seq (.ops [O1 2 (.mov (.const (.int .i64 4)))] [2]) (.ret)) (.skip))) (.seq (.ops [O1 2 (.mov (.const (.int .i64 0)))] [2]) (.ret)))))),32,[(2,none)],true⟩
theorem bZ7:n7 Tryd.prog 29 c29:= .code ⟨Tryd.f29,_,c29.code,Tryd.func29,rfl,by kernel_rfl,rfl,by kernel_rfl,by kernel_rfl⟩
/- raddle/raddleref41.Words -/
def IA:AC:= .seq (.seq (.draw [O1 13 (.mov (.tmp 4)),O1 14 (.mov (.tmp 5)),O1 15 (.bin .add (.tmp 13) (.tmp 14)),O1 16 (.mov (.tmp 0)),O1 17 (.len false (.tmp 16)),O1 18 (.bin .lss (.tmp 15) (.tmp 17)),O1 19 (.mov (.tmp 18)),⟨some 20,some (19,true),.mov (.tmp 0)⟩,⟨some 21,some (19,true),.mov (.tmp 4)⟩,⟨some 22,some (19,true),.mov (.tmp 5)⟩,⟨some 23,some (19,true),.bin .add (.tmp 21) (.tmp 22)⟩,⟨some 24,some (19,true),.idxS 4 (.tmp 20) (.tmp 23)⟩,⟨some 25,some (19,true),.load (some 4) (.tmp 24)⟩,⟨some 26,some (19,true),.mov (.tmp 0)⟩,⟨some 27,some (19,true),.mov (.tmp 4)⟩,⟨some 28,some (19,true),.idxS 4 (.tmp 26) (.tmp 27)⟩,⟨some 29,some (19,true),.load (some 4) (.tmp 28)⟩] [⟨some 30,some (19,true),.eqAgg false [(0,0),(1,2),(2,0),(3,0)] (.tmp 25) (.tmp 29)⟩,O1 31 (.pick (.tmp 19) (.tmp 30) (.const (.bool false)))] [[],[],[],[],[],[],[],[],[],[],[],[],[],[],[],[],[]] [0,3,4,5,31]) (.cond (.tmp 31) (.skip) (.exit 2))) (.block 3 (.ops [O1 32 (.mov (.tmp 5)),O1 33 (.bin .add (.tmp 32) (.const (.int .i64 1))),O1 5 (.mov (.tmp 33))] [0,3,4,5]))
def SB:AC:= .seq (.seq (.ops [O1 9 (.mov (.tmp 4)),O1 10 (.mov (.tmp 0)),O1 11 (.len false (.tmp 10)),O1 12 (.bin .lss (.tmp 9) (.tmp 11))] [0,3,4,12]) (.cond (.tmp 12) (.skip) (.exit 0))) (.block 1 (.seq (.ops [O1 5 (.mov (.const (.int .i64 1)))] [0,3,4,5]) (.seq (.block 2 (.loop [0,3,4,5] IA)) (.seq (.seq (.ops [O1 34 (.mov (.tmp 4)),O1 35 (.bin .gtr (.tmp 34) (.const (.int .i64 0)))] [0,3,4,5,35]) (.cond (.tmp 35) (.ops [O1 36 (.mov (.tmp 3)),O1 37 (.bin .add (.tmp 36) (.const (.string ⟨#[44,32]⟩))),O1 3 (.mov (.tmp 37))] [0,3,4,5]) (.skip))) (.seq (.ops [O1 38 (.mov (.tmp 3)),O1 39 (.mov (.tmp 0)),O1 40 (.mov (.tmp 4)),O1 41 (.idxS 4 (.tmp 39) (.tmp 40)),O1 42 (.load (some 4) (.tmp 41)),O1 43 (.mov (.tmp 5)),O1 44 (.callF 55 [(.tmp 42),(.tmp 43)]),O1 45 (.bin .add (.tmp 38) (.tmp 44)),O1 3 (.mov (.tmp 45))] [0,3,4,5]) (.ops [O1 46 (.mov (.tmp 4)),O1 47 (.mov (.tmp 5)),O1 48 (.bin .add (.tmp 46) (.tmp 47)),O1 4 (.mov (.tmp 48))] [0,3,4]))))))
def c30:n9:=⟨.seq (.ops [O1 2 (.mov (.const (.string ⟨#[]⟩)))] [0]) (.seq (.seq (.ops [O1 6 (.mov (.tmp 0)),O1 7 (.len false (.tmp 6)),O1 8 (.bin .eql (.tmp 7) (.const (.int .i64 0)))] [0,8]) (.cond (.tmp 8) (.seq (.ops [O1 2 (.mov (.const (.string ⟨#[110,111,116,104,105,110,103]⟩)))] [2]) (.ret)) (.skip))) (.seq (.ops [O1 3 (.mov (.const (.string ⟨#[]⟩)))] [0,3]) (.seq (.seq (.ops [O1 4 (.mov (.const (.int .i64 0)))] [0,3,4]) (.block 0 (.loop [0,3,4] SB))) (.seq (.ops [O1 49 (.mov (.tmp 3)),O1 2 (.mov (.tmp 49))] [2]) (.ret))))),50,[(2,none)],true⟩
theorem bZ8:n7 Tryd.prog 30 c30:= .code ⟨Tryd.f30,_,c30.code,Tryd.func30,rfl,by kernel_rfl,rfl,by kernel_rfl,by kernel_rfl⟩
/- strings.Split -/
def c31:n9:=⟨.seq (.ops [O1 4 (.mov (.const (.slice none 0 0)))] [0,1]) (.seq (.ops [O1 5 (.mov (.tmp 0)),O1 6 (.mov (.tmp 1)),O1 7 (.callF 56 [(.tmp 5),(.tmp 6),(.const (.int .i64 0)),(.const (.int .i64 (-1)))]),O1 4 (.mov (.tmp 7))] [4]) (.ret)),8,[(4,none)],true⟩
theorem bZ9:n7 Tryd.prog 31 c31:= .code ⟨Tryd.f31,_,c31.code,Tryd.func31,rfl,by kernel_rfl,rfl,by kernel_rfl,by kernel_rfl⟩
/- raddle/r4.read -/
def K6:AC:= .seq (.ops [O1 21 (.bin .lss (.tmp 20) (.const (.int .i64 2)))] [0,2,5,20,21]) (.seq (.cond (.tmp 21) (.skip) (.exit 2)) (.seq (.block 3 (.seq (.ops [O1 22 (.mov (.tmp 20)),O1 6 (.mov (.tmp 22))] [0,2,5,6,20]) (.seq (.ops [O1 23 (.mov (.tmp 5)),O1 24 (.mov (.tmp 6)),O1 25 (.bin .eql (.tmp 24) (.const (.int .i64 1))),O1 26 (.build [(.int .u8 0),(.bool false),(.int .i64 0),(.int .i64 0)] [(0,1,(.tmp 23)),(1,1,(.tmp 25))]),O1 7 (.alloc 48 [(1,(.int .u8 0)),(1,(.bool false)),(2,(.int .i64 0))]),⟨none,none,.store 4 (.tmp 7) (.tmp 26)⟩,O1 8 (.mov (.const (.int .i64 1)))] [0,2,5,7,8,20]) (.seq (.ops [O1 28 (.mov (.tmp 5)),O1 29 (.fldA 1 (.tmp 7)),O1 30 (.load none (.tmp 29)),O1 31 (.callF 57 [(.tmp 28),(.tmp 30)]),O1 27 (.mov (.tmp 31)),O1 32 (.ext (.tmp 27) 0),O1 33 (.ext (.tmp 27) 1),O1 9 (.mov (.tmp 32)),O1 10 (.mov (.tmp 33))] [0,2,5,7,8,9,10,20]) (.seq (.ops [O1 35 (.mov (.tmp 0)),O1 36 (.mov (.tmp 9)),O1 37 (.callF 38 [(.tmp 35),(.tmp 36)]),O1 34 (.mov (.tmp 37)),O1 38 (.ext (.tmp 34) 0),O1 39 (.ext (.tmp 34) 1),O1 40 (.ext (.tmp 34) 2),O1 11 (.mov (.tmp 38)),O1 12 (.mov (.tmp 39)),O1 13 (.mov (.tmp 40))] [0,2,5,7,8,10,11,12,13,20]) (.seq (.seq (.ops [O1 41 (.mov (.tmp 13)),O1 42 (.un .not (.tmp 41))] [0,2,5,7,8,10,11,12,20,42]) (.cond (.tmp 42) (.exit 3) (.skip))) (.seq (.block 4 (.seq (.ops [O1 44 (.mov (.tmp 10)),O1 43 (.mov (.tmp 44))] [0,2,5,7,8,10,11,12,20,43]) (.cond (.tmp 43) (.ops [O1 45 (.mov (.tmp 11)),O1 46 (.idxS 1 (.tmp 45) (.const (.int .i64 0))),O1 47 (.load none (.tmp 46)),O1 8 (.mov (.tmp 47))] [0,2,5,7,8,10,12,20]) (.seq (.ops [O1 49 (.mov (.tmp 11)),O1 50 (.len false (.tmp 49)),O1 51 (.bin .eql (.tmp 50) (.const (.int .i64 2))),O1 48 (.mov (.tmp 51))] [0,2,5,7,8,10,11,12,20,48]) (.cond (.tmp 48) (.drawW [⟨O1 52 (.mov (.tmp 11)),[],none⟩,⟨O1 53 (.idxS 1 (.tmp 52) (.const (.int .i64 0))),[],none⟩,⟨O1 54 (.load none (.tmp 53)),[],none⟩,⟨O1 55 (.mov (.tmp 11)),[0,1,2],none⟩,⟨O1 56 (.idxS 1 (.tmp 55) (.const (.int .i64 1))),[0,1,2],none⟩,⟨O1 57 (.load none (.tmp 56)),[0,1,2],none⟩,⟨O1 58 (.fldA 2 (.tmp 7)),[3,4,5],none⟩,⟨⟨none,none,.store 1 (.tmp 58) (.tmp 54)⟩,[3,4,5],none⟩] [O1 59 (.fldA 3 (.tmp 7)),⟨none,none,.store 1 (.tmp 59) (.tmp 57)⟩] [0,2,5,7,8,10,12,20]) (.seq (.ops [O1 61 (.mov (.tmp 11)),O1 62 (.len false (.tmp 61)),O1 63 (.bin .eql (.tmp 62) (.const (.int .i64 1))),O1 60 (.mov (.tmp 63))] [0,2,5,7,8,10,11,12,20,60]) (.cond (.tmp 60) (.ops [O1 64 (.mov (.tmp 11)),O1 65 (.idxS 1 (.tmp 64) (.const (.int .i64 0))),O1 66 (.load none (.tmp 65)),O1 67 (.fldA 2 (.tmp 7)),⟨none,none,.store 1 (.tmp 67) (.tmp 66)⟩] [0,2,5,7,8,10,12,20]) (.skip)))))))) (.seq (.seq (.ops [O1 69 (.mov (.tmp 12)),O1 70 (.callF 39 [(.tmp 69),(.const (.string ⟨#[32,116,105,109,101,115]⟩))]),O1 68 (.mov (.tmp 70)),O1 71 (.ext (.tmp 68) 0),O1 72 (.ext (.tmp 68) 1),O1 14 (.mov (.tmp 71)),O1 15 (.mov (.tmp 72))] [0,2,5,7,8,10,12,14,15,20]) (.seq (.ops [O1 73 (.mov (.tmp 15)),O1 74 (.mov (.tmp 73)),⟨some 75,some (74,true),.mov (.tmp 10)⟩,⟨some 76,some (74,true),.un .not (.tmp 75)⟩,
  O1 77 (.pick (.tmp 74) (.tmp 76) (.const (.bool false)))] [0,2,5,7,8,12,14,20,77]) (.cond (.tmp 77) (.ops [O1 79 (.mov (.tmp 14)),O1 80 (.callF 59 [(.tmp 79),(.const (.string ⟨#[32]⟩))]),O1 81 (.callF 58 [.tmp 80]),O1 78 (.mov (.tmp 81)),O1 82 (.ext (.tmp 78) 0),O1 83 (.ext (.tmp 78) 1),O1 84 (.ext (.tmp 78) 2),O1 8 (.mov (.tmp 82)),O1 12 (.mov (.tmp 83))] [0,2,5,7,8,12,20]) (.skip)))) (.seq (.ops [O1 85 (.mov (.tmp 12)),O1 86 (.bin .eql (.tmp 85) (.const (.string ⟨#[]⟩))),O1 87 (.mov (.tmp 86)),⟨some 88,some (87,true),.mov (.tmp 8)⟩,⟨some 89,some (87,true),.bin .geq (.tmp 88) (.const (.int .i64 1))⟩,O1 90 (.pick (.tmp 87) (.tmp 89) (.const (.bool false))),O1 91 (.mov (.tmp 90)),⟨some 92,some (91,true),.mov (.tmp 8)⟩,⟨some 93,some (91,true),.bin .leq (.tmp 92) (.const (.int .i64 200))⟩,O1 94 (.pick (.tmp 91) (.tmp 93) (.const (.bool false))),O1 95 (.mov (.tmp 94)),⟨some 96,some (95,true),.load (some 4) (.tmp 7)⟩,⟨some 97,some (95,true),.callF 49 [.tmp 96]⟩,⟨some 98,some (95,true),.bin .eql (.tmp 97) (.const (.int .i64 0))⟩,O1 99 (.pick (.tmp 95) (.tmp 98) (.const (.bool false))),O1 100 (.mov (.tmp 99)),⟨some 101,some (100,true),.load (some 4) (.tmp 7)⟩,⟨some 102,some (100,true),.mov (.tmp 8)⟩,⟨some 103,some (100,true),.callF 51 [(.tmp 101),(.tmp 102)]⟩,⟨some 104,some (100,true),.mov (.tmp 0)⟩,⟨some 105,some (100,true),.bin .eql (.tmp 103) (.tmp 104)⟩,O1 106 (.pick (.tmp 100) (.tmp 105) (.const (.bool false)))] [0,2,5,7,8,20,106]) (.cond (.tmp 106) (.seq (.ops [O1 107 (.load (some 4) (.tmp 7)),O1 108 (.mov (.tmp 8)),⟨none,none,.store 4 (.tmp 2) (.tmp 107)⟩,O1 3 (.mov (.tmp 108)),O1 4 (.mov (.const (.bool true)))] [2,3,4]) (.ret)) (.skip))))))))))) (.ops [O1 109 (.bin .add (.tmp 20) (.const (.int .i64 1))),O1 20 (.mov (.tmp 109))] [0,2,5,20])))
def ZZ:AC:= .seq (.seq (.ops [O1 16 (.mov (.tmp 5)),O1 17 (.bin .leq (.tmp 16) (.const (.int .u8 10)))] [0,2,5,17]) (.cond (.tmp 17) (.skip) (.exit 0))) (.seq (.block 1 (.seq (.ops [O1 20 (.mov (.const (.int .i64 0)))] [0,2,5,20]) (.block 2 (.loop [0,2,5,20] K6)))) (.ops [O1 18 (.mov (.tmp 5)),O1 19 (.bin .add (.tmp 18) (.const (.int .u8 1))),O1 5 (.mov (.tmp 19))] [0,2,5]))
def c32:n9:=⟨.seq (.ops [O1 2 (.alloc 48 [(1,(.int .u8 0)),(1,(.bool false)),(2,(.int .i64 0))]),O1 3 (.mov (.const (.int .i64 0))),O1 4 (.mov (.const (.bool false)))] [0,2]) (.seq (.seq (.ops [O1 5 (.mov (.const (.int .u8 1)))] [0,2,5]) (.block 0 (.loop [0,2,5] ZZ))) (.seq (.ops [O1 110 (.build [(.int .u8 0),(.bool false),(.int .i64 0),(.int .i64 0)] []),⟨none,none,.store 4 (.tmp 2) (.tmp 110)⟩,O1 3 (.mov (.const (.int .i64 0))),O1 4 (.mov (.const (.bool false)))] [2,3,4]) (.ret))),111,[(2,(some (some 4))),(3,none),(4,none)],true⟩
theorem cA0:n7 Tryd.prog 32 c32:= .code ⟨Tryd.f32,_,c32.code,Tryd.func32,rfl,by kernel_rfl,rfl,by kernel_rfl,by kernel_rfl⟩
/- raddle/raddleref41.commas -/
def tD:AC:= .seq (.seq (.ops [O1 6 (.mov (.tmp 5)),O1 7 (.bin .add (.tmp 6) (.const (.int .i64 1))),O1 8 (.mov (.tmp 0)),O1 9 (.len true (.tmp 8)),O1 10 (.bin .lss (.tmp 7) (.tmp 9))] [0,3,4,5,10]) (.cond (.tmp 10) (.skip) (.exit 0))) (.seq (.block 1 (.seq (.ops [O1 13 (.mov (.tmp 0)),O1 14 (.mov (.tmp 5)),O1 15 (.idxStr (.tmp 13) (.tmp 14)),O1 16 (.bin .eql (.tmp 15) (.const (.int .u8 44))),O1 17 (.mov (.tmp 16)),⟨some 18,some (17,true),.mov (.tmp 0)⟩,⟨some 19,some (17,true),.mov (.tmp 5)⟩,⟨some 20,some (17,true),.bin .add (.tmp 19) (.const (.int .i64 1))⟩,⟨some 21,some (17,true),.idxStr (.tmp 18) (.tmp 20)⟩,⟨some 22,some (17,true),.bin .eql (.tmp 21) (.const (.int .u8 32))⟩,O1 23 (.pick (.tmp 17) (.tmp 22) (.const (.bool false)))] [0,3,4,5,23]) (.cond (.tmp 23) (.seq (.ops [O1 24 (.mov (.tmp 3)),O1 25 (.mov (.tmp 0)),O1 26 (.mov (.tmp 4)),O1 27 (.mov (.tmp 5)),O1 28 (.slcS (.tmp 25) (some (.tmp 26)) (some (.tmp 27))),O1 29 (.mkRow 9 1 1 [(.string ⟨#[]⟩)] [(0,1,(.tmp 28))]),O1 30 (.app 9 1 16 (.tmp 24) (.tmp 29)),O1 3 (.mov (.tmp 30))] [0,3,5]) (.ops [O1 31 (.mov (.tmp 5)),O1 32 (.bin .add (.tmp 31) (.const (.int .i64 2))),O1 4 (.mov (.tmp 32))] [0,3,4,5])) (.skip)))) (.ops [O1 11 (.mov (.tmp 5)),O1 12 (.bin .add (.tmp 11) (.const (.int .i64 1))),O1 5 (.mov (.tmp 12))] [0,3,4,5]))
def c33:n9:=⟨.seq (.ops [O1 2 (.mov (.const (.slice none 0 0)))] [0]) (.seq (.ops [O1 3 (.mov (.const (.slice none 0 0)))] [0,3]) (.seq (.ops [O1 4 (.mov (.const (.int .i64 0)))] [0,3,4]) (.seq (.seq (.ops [O1 5 (.mov (.const (.int .i64 0)))] [0,3,4,5]) (.block 0 (.loop [0,3,4,5] tD))) (.seq (.ops [O1 33 (.mov (.tmp 3)),O1 34 (.mov (.tmp 0)),O1 35 (.mov (.tmp 4)),O1 36 (.slcS (.tmp 34) (some (.tmp 35)) none),O1 37 (.mkRow 9 1 1 [(.string ⟨#[]⟩)] [(0,1,(.tmp 36))]),O1 38 (.app 9 1 16 (.tmp 33) (.tmp 37)),O1 2 (.mov (.tmp 38))] [2]) (.ret))))),39,[(2,none)],true⟩
theorem cA1:n7 Tryd.prog 33 c33:= .code ⟨Tryd.f33,_,c33.code,Tryd.func33,rfl,by kernel_rfl,rfl,by kernel_rfl,by kernel_rfl⟩
/- raddle/raddleref41.one -/
def tE:AC:= .seq (.seq (.ops [O1 12 (.mov (.tmp 6)),O1 13 (.mov (.tmp 5)),O1 14 (.len false (.tmp 13)),O1 15 (.bin .mul (.const (.int .i64 2)) (.tmp 14)),O1 16 (.bin .lss (.tmp 12) (.tmp 15))] [0,2,4,5,6,16]) (.cond (.tmp 16) (.skip) (.exit 0))) (.seq (.block 1 (.seq (.ops [O1 20 (.mov (.tmp 5)),O1 21 (.mov (.tmp 6)),O1 22 (.bin .quo (.tmp 21) (.const (.int .i64 2))),O1 23 (.idxS 1 (.tmp 20) (.tmp 22)),O1 24 (.load none (.tmp 23)),O1 25 (.mov (.tmp 6)),O1 26 (.bin .rem (.tmp 25) (.const (.int .i64 2))),O1 27 (.bin .eql (.tmp 26) (.const (.int .i64 1))),O1 28 (.mov (.tmp 4)),O1 29 (.callF 62 [(.tmp 24),(.tmp 27),(.tmp 28)]),O1 19 (.mov (.tmp 29)),O1 30 (.ext (.tmp 19) 0),O1 31 (.ext (.tmp 19) 1),O1 7 (.alloc 48 [(1,(.int .u8 0)),(1,(.bool false)),(2,(.int .i64 0))]),⟨none,none,.store 4 (.tmp 7) (.tmp 30)⟩,O1 8 (.mov (.tmp 31))] [0,2,4,5,6,7,8]) (.seq (.ops [O1 32 (.mov (.tmp 8)),O1 33 (.bin .geq (.tmp 32) (.const (.int .i64 1))),O1 34 (.mov (.tmp 33)),⟨some 35,some (34,true),.mov (.tmp 8)⟩,⟨some 36,some (34,true),.bin .leq (.tmp 35) (.const (.int .i64 200))⟩,O1 37 (.pick (.tmp 34) (.tmp 36) (.const (.bool false))),O1 38 (.mov (.tmp 37)),⟨some 39,some (38,true),.load (some 4) (.tmp 7)⟩,⟨some 40,some (38,true),.callF 53 [.tmp 39]⟩,⟨some 41,some (38,true),.bin .eql (.tmp 40) (.const (.int .i64 0))⟩,O1 42 (.pick (.tmp 38) (.tmp 41) (.const (.bool false))),O1 43 (.mov (.tmp 42)),⟨some 44,some (43,true),.load (some 4) (.tmp 7)⟩,⟨some 45,some (43,true),.mov (.tmp 8)⟩,⟨some 46,some (43,true),.callF 55 [(.tmp 44),(.tmp 45)]⟩,⟨some 47,some (43,true),.mov (.tmp 0)⟩,⟨some 48,some (43,true),.bin .eql (.tmp 46) (.tmp 47)⟩,O1 49 (.pick (.tmp 43) (.tmp 48) (.const (.bool false)))] [0,2,4,5,6,7,8,49]) (.cond (.tmp 49) (.seq (.ops [O1 50 (.load (some 4) (.tmp 7)),O1 51 (.mov (.tmp 8)),⟨none,none,.store 4 (.tmp 2) (.tmp 50)⟩,O1 3 (.mov (.tmp 51))] [2,3]) (.ret)) (.skip))))) (.ops [O1 17 (.mov (.tmp 6)),O1 18 (.bin .add (.tmp 17) (.const (.int .i64 1))),O1 6 (.mov (.tmp 18))] [0,2,4,5,6]))
def c34:n9:=⟨.seq (.ops [O1 2 (.alloc 48 [(1,(.int .u8 0)),(1,(.bool false)),(2,(.int .i64 0))]),O1 3 (.mov (.const (.int .i64 0)))] [0,2]) (.seq (.ops [O1 9 (.mov (.tmp 0)),O1 10 (.callF 60 [.tmp 9]),O1 11 (.callF 61 []),O1 4 (.mov (.tmp 10)),O1 5 (.mov (.tmp 11))] [0,2,4,5]) (.seq (.seq (.ops [O1 6 (.mov (.const (.int .i64 0)))] [0,2,4,5,6]) (.block 0 (.loop [0,2,4,5,6] tE))) (.seq (.ops [O1 52 (.build [(.int .u8 0),(.bool false),(.int .i64 0),(.int .i64 0)] []),⟨none,none,.store 4 (.tmp 2) (.tmp 52)⟩,O1 3 (.mov (.const (.int .i64 0)))] [2,3]) (.ret)))),53,[(2,(some (some 4))),(3,none)],true⟩
theorem cA2:n7 Tryd.prog 34 c34:= .code ⟨Tryd.f34,_,c34.code,Tryd.func34,rfl,by kernel_rfl,rfl,by kernel_rfl,by kernel_rfl⟩
/- raddle/r4.face -/
def c36:n9:=⟨.seq (.ops [O1 2 (.mov (.const (.string ⟨#[]⟩)))] [0]) (.seq (.seq (.ops [O1 3 (.mov (.tmp 0))] [3]) (.cond (.tmp 3) (.seq (.ops [O1 2 (.mov (.const (.string ⟨#[98,97,99,107]⟩)))] [2]) (.ret)) (.skip))) (.seq (.ops [O1 2 (.mov (.const (.string ⟨#[102,114,111,110,116]⟩)))] [2]) (.ret))),4,[(2,none)],true⟩
theorem cA3:n7 Tryd.prog 36 c36:= .code ⟨Tryd.f36,_,c36.code,Tryd.func36,rfl,by kernel_rfl,rfl,by kernel_rfl,by kernel_rfl⟩
/- raddle/raddleref41.head -/
def c37:n9:=⟨.seq (.ops [O1 4 (.mov (.const (.string ⟨#[]⟩)))] [0,1]) (.seq (.seq (.ops [O1 5 (.mov (.tmp 0))] [1,5]) (.cond (.tmp 5) (.seq (.ops [O1 6 (.mov (.tmp 1)),O1 7 (.callF 64 [.tmp 6]),O1 8 (.bin .add (.const (.string ⟨#[114,111,119,32]⟩)) (.tmp 7)),O1 9 (.bin .add (.tmp 8) (.const (.string ⟨#[32,40,98,97,99,107,41,58,32]⟩))),O1 4 (.mov (.tmp 9))] [4]) (.ret)) (.skip))) (.seq (.ops [O1 10 (.mov (.tmp 1)),O1 11 (.callF 64 [.tmp 10]),O1 12 (.bin .add (.const (.string ⟨#[114,111,119,32]⟩)) (.tmp 11)),O1 13 (.bin .add (.tmp 12) (.const (.string ⟨#[32,40,102,114,111,110,116,41,58,32]⟩))),O1 4 (.mov (.tmp 13))] [4]) (.ret))),14,[(4,none)],true⟩
theorem cA4:n7 Tryd.prog 37 c37:= .code ⟨Tryd.f37,_,c37.code,Tryd.func37,rfl,by kernel_rfl,rfl,by kernel_rfl,by kernel_rfl⟩
/- raddle/r4.match -/
def tF:AC:= .seq (.ops [O1 20 (.bin .lss (.tmp 19) (.tmp 18))] [0,4,17,18,19,20]) (.seq (.cond (.tmp 20) (.skip) (.exit 0)) (.seq (.block 1 (.seq (.ops [O1 21 (.mov (.tmp 19)),O1 22 (.idxS 1 (.tmp 17) (.tmp 19)),O1 23 (.load none (.tmp 22)),O1 8 (.mov (.tmp 21)),O1 9 (.mov (.tmp 23))] [0,4,8,9,17,18,19]) (.seq (.seq (.ops [O1 24 (.mov (.tmp 8)),O1 25 (.bin .gtr (.tmp 24) (.const (.int .i64 0)))] [0,4,9,17,18,19,25]) (.cond (.tmp 25) (.seq (.ops [O1 27 (.mov (.tmp 0)),O1 28 (.callF 58 [.tmp 27]),O1 26 (.mov (.tmp 28)),O1 29 (.ext (.tmp 26) 0),O1 30 (.ext (.tmp 26) 1),O1 31 (.ext (.tmp 26) 2),O1 10 (.mov (.tmp 29)),O1 11 (.mov (.tmp 30)),O1 12 (.mov (.tmp 31))] [4,9,10,11,12,17,18,19]) (.seq (.seq (.ops [O1 32 (.mov (.tmp 12)),O1 33 (.un .not (.tmp 32))] [4,9,10,11,17,18,19,33]) (.cond (.tmp 33) (.seq (.ops [O1 4 (.mov (.const (.slice none 0 0))),O1 5 (.mov (.const (.string ⟨#[]⟩))),O1 6 (.mov (.const (.bool false)))] [4,5,6]) (.ret)) (.skip))) (.ops [O1 34 (.mov (.tmp 4)),O1 35 (.mov (.tmp 10)),O1 36 (.mkRow 3 1 1 [(.int .i64 0)] [(0,1,(.tmp 35))]),O1 37 (.app 3 1 8 (.tmp 34) (.tmp 36)),O1 38 (.mov (.tmp 11)),O1 4 (.mov (.tmp 37)),O1 0 (.mov (.tmp 38))] [0,4,9,17,18,19]))) (.skip))) (.seq (.ops [O1 40 (.mov (.tmp 0)),O1 41 (.mov (.tmp 9)),O1 42 (.callF 40 [(.tmp 40),(.tmp 41)]),O1 39 (.mov (.tmp 42)),O1 43 (.ext (.tmp 39) 0),O1 44 (.ext (.tmp 39) 1),O1 13 (.mov (.tmp 43)),O1 14 (.mov (.tmp 44))] [4,13,14,17,18,19]) (.seq (.seq (.ops [O1 45 (.mov (.tmp 14)),O1 46 (.un .not (.tmp 45))] [4,13,17,18,19,46]) (.cond (.tmp 46) (.seq (.ops [O1 4 (.mov (.const (.slice none 0 0))),O1 5 (.mov (.const (.string ⟨#[]⟩))),O1 6 (.mov (.const (.bool false)))] [4,5,6]) (.ret)) (.skip))) (.ops [O1 47 (.mov (.tmp 13)),O1 0 (.mov (.tmp 47))] [0,4,17,18,19])))))) (.ops [O1 48 (.bin .add (.tmp 19) (.const (.int .i64 1))),O1 19 (.mov (.tmp 48))] [0,4,17,18,19])))
def c38:n9:=⟨.seq (.ops [O1 4 (.mov (.const (.slice none 0 0))),O1 5 (.mov (.const (.string ⟨#[]⟩))),O1 6 (.mov (.const (.bool false)))] [0,1,4]) (.seq (.ops [O1 15 (.mov (.tmp 1)),O1 16 (.callF 31 [(.tmp 15),(.const (.string ⟨#[35]⟩))]),O1 7 (.mov (.tmp 16))] [0,4,7]) (.seq (.seq (.ops [O1 17 (.mov (.tmp 7)),O1 18 (.len false (.tmp 17)),O1 19 (.mov (.const (.int .i64 0)))] [0,4,17,18,19]) (.block 0 (.loop [0,4,17,18,19] tF))) (.seq (.ops [O1 49 (.mov (.tmp 4)),O1 50 (.mov (.tmp 0)),O1 4 (.mov (.tmp 49)),O1 5 (.mov (.tmp 50)),O1 6 (.mov (.const (.bool true)))] [4,5,6]) (.ret)))),51,[(4,none),(5,none),(6,none)],true⟩
theorem cA5:n7 Tryd.prog 38 c38:= .code ⟨Tryd.f38,_,c38.code,Tryd.func38,rfl,by kernel_rfl,rfl,by kernel_rfl,by kernel_rfl⟩
/- strings.CutSuffix -/
def c39:n9:=⟨.seq (.ops [O1 4 (.mov (.const (.string ⟨#[]⟩))),O1 5 (.mov (.const (.bool false)))] [0,1]) (.seq (.ops [O1 6 (.mov (.tmp 0)),O1 7 (.mov (.tmp 1)),O1 8 (.callF 65 [(.tmp 6),(.tmp 7)]),O1 9 (.ext (.tmp 8) 0),O1 10 (.ext (.tmp 8) 1),O1 4 (.mov (.tmp 9)),O1 5 (.mov (.tmp 10))] [4,5]) (.ret)),11,[(4,none),(5,none)],true⟩
theorem cA6:n7 Tryd.prog 39 c39:= .code ⟨Tryd.f39,_,c39.code,Tryd.func39,rfl,by kernel_rfl,rfl,by kernel_rfl,by kernel_rfl⟩
/- strings.CutPrefix -/
def c40:n9:=⟨.seq (.ops [O1 4 (.mov (.const (.string ⟨#[]⟩))),O1 5 (.mov (.const (.bool false)))] [0,1]) (.seq (.ops [O1 6 (.mov (.tmp 0)),O1 7 (.mov (.tmp 1)),O1 8 (.callF 66 [(.tmp 6),(.tmp 7)]),O1 9 (.ext (.tmp 8) 0),O1 10 (.ext (.tmp 8) 1),O1 4 (.mov (.tmp 9)),O1 5 (.mov (.tmp 10))] [4,5]) (.ret)),11,[(4,none),(5,none)],true⟩
theorem cA7:n7 Tryd.prog 40 c40:= .code ⟨Tryd.f40,_,c40.code,Tryd.func40,rfl,by kernel_rfl,rfl,by kernel_rfl,by kernel_rfl⟩
/- raddle/raddleref41.starts -/
def c41:n9:=⟨.seq (.ops [O1 4 (.mov (.const (.bool false)))] [0,1]) (.seq (.ops [O1 5 (.mov (.tmp 0)),O1 6 (.len true (.tmp 5)),O1 7 (.mov (.tmp 1)),O1 8 (.len true (.tmp 7)),O1 9 (.bin .geq (.tmp 6) (.tmp 8)),O1 10 (.mov (.tmp 9)),⟨some 11,some (10,true),.mov (.tmp 0)⟩,⟨some 12,some (10,true),.mov (.tmp 1)⟩,⟨some 13,some (10,true),.len true (.tmp 12)⟩,⟨some 14,some (10,true),.slcS (.tmp 11) none (some (.tmp 13))⟩,⟨some 15,some (10,true),.mov (.tmp 1)⟩,⟨some 16,some (10,true),.bin .eql (.tmp 14) (.tmp 15)⟩,O1 17 (.pick (.tmp 10) (.tmp 16) (.const (.bool false))),O1 4 (.mov (.tmp 17))] [4]) (.ret)),18,[(4,none)],true⟩
theorem cA8:n7 Tryd.prog 41 c41:= .code ⟨Tryd.f41,_,c41.code,Tryd.func41,rfl,by kernel_rfl,rfl,by kernel_rfl,by kernel_rfl⟩
/- slices.ContainsFunc[[]raddle/api.Stitch,raddle/api.Stitch] -/
def c47:n9:=⟨.seq (.ops [O1 4 (.mov (.const (.bool false)))] [0,1]) (.seq (.ops [O1 5 (.mov (.tmp 0)),O1 6 (.mov (.tmp 1)),O1 7 (.callF 69 [(.tmp 5),(.tmp 6)]),O1 8 (.bin .geq (.tmp 7) (.const (.int .i64 0))),O1 4 (.mov (.tmp 8))] [4]) (.ret)),9,[(4,none)],true⟩
theorem cA9:n7 Tryd.prog 47 c47:= .code ⟨Tryd.f47,_,c47.code,Tryd.func47,rfl,by kernel_rfl,rfl,by kernel_rfl,by kernel_rfl⟩
/- raddle/stitch.All$1 -/
def c48:n9:=⟨.seq (.ops [O1 1 (.box 48 (.tmp 0)),O1 2 (.mov (.const (.bool false)))] [1]) (.seq (.ops [O1 3 (.load (some 4) (.tmp 1)),O1 4 (.callF 49 [.tmp 3]),O1 5 (.bin .neq (.tmp 4) (.const (.int .i64 0))),O1 2 (.mov (.tmp 5))] [2]) (.ret)),6,[(2,none)],true⟩
theorem cB0:n7 Tryd.prog 48 c48:= .code ⟨Tryd.f48,_,c48.code,Tryd.func48,rfl,by kernel_rfl,rfl,by kernel_rfl,by kernel_rfl⟩
/- raddle/stitch.Check -/
def c49:n9:=⟨.seq (.ops [O1 1 (.box 48 (.tmp 0)),O1 2 (.mov (.const (.int .i64 0)))] [1]) (.seq (.ops [O1 6 (.fldA 0 (.tmp 1)),O1 7 (.load none (.tmp 6)),O1 8 (.callF 70 [.tmp 7]),O1 5 (.mov (.tmp 8)),O1 9 (.ext (.tmp 5) 0),O1 10 (.ext (.tmp 5) 1),O1 3 (.alloc 110 [(1,(.string ⟨#[]⟩)),(4,(.int .i64 0)),(1,(.bool false)),(2,(.int .i64 0))]),⟨none,none,.store 8 (.tmp 3) (.tmp 9)⟩,O1 4 (.mov (.tmp 10))] [1,3,4]) (.seq (.seq (.ops [O1 11 (.mov (.tmp 4)),O1 12 (.un .not (.tmp 11)),O1 13 (.mov (.tmp 12)),⟨some 14,some (13,false),.fldA 2 (.tmp 1)⟩,⟨some 15,some (13,false),.load none (.tmp 14)⟩,⟨some 16,some (13,false),.fldA 1 (.tmp 3)⟩,⟨some 17,some (13,false),.load (some 2) (.tmp 16)⟩,⟨some 18,some (13,false),.callF 71 [(.tmp 15),(.tmp 17)]⟩,⟨some 19,some (13,false),.un .not (.tmp 18)⟩,O1 20 (.pick (.tmp 13) (.const (.bool true)) (.tmp 19)),O1 21 (.mov (.tmp 20)),⟨some 22,some (21,false),.fldA 3 (.tmp 1)⟩,⟨some 23,some (21,false),.load none (.tmp 22)⟩,⟨some 24,some (21,false),.fldA 3 (.tmp 3)⟩,⟨some 25,some (21,false),.load (some 2) (.tmp 24)⟩,⟨some 26,some (21,false),.callF 71 [(.tmp 23),(.tmp 25)]⟩,⟨some 27,some (21,false),.un .not (.tmp 26)⟩,O1 28 (.pick (.tmp 21) (.const (.bool true)) (.tmp 27)),O1 29 (.mov (.tmp 28)),⟨some 30,some (29,false),.fldA 1 (.tmp 1)⟩,⟨some 31,some (29,false),.load none (.tmp 30)⟩,⟨some 32,some (29,false),.mov (.tmp 31)⟩,⟨some 33,some (32,true),.fldA 5 (.tmp 3)⟩,⟨some 34,some (32,true),.load none (.tmp 33)⟩,⟨some 35,some (32,true),.un .not (.tmp 34)⟩,⟨some 36,some (29,false),.pick (.tmp 32) (.tmp 35) (.const (.bool false))⟩,O1 37 (.pick (.tmp 29) (.const (.bool true)) (.tmp 36))] [37]) (.cond (.tmp 37) (.seq (.ops [O1 2 (.mov (.const (.int .i64 8)))] [2]) (.ret)) (.skip))) (.seq (.ops [O1 2 (.mov (.const (.int .i64 0)))] [2]) (.ret)))),38,[(2,none)],true⟩
theorem cB1:n7 Tryd.prog 49 c49:= .code ⟨Tryd.f49,_,c49.code,Tryd.func49,rfl,by kernel_rfl,rfl,by kernel_rfl,by kernel_rfl⟩
/- raddle/stitch.sum -/
def aA0:AC:= .seq (.ops [O1 11 (.bin .lss (.tmp 10) (.tmp 9))] [2,3,8,9,10,11]) (.seq (.cond (.tmp 11) (.skip) (.exit 0)) (.seq (.block 1 (.seq (.ops [O1 12 (.idxS 4 (.tmp 8) (.tmp 10)),O1 13 (.load (some 4) (.tmp 12)),O1 5 (.alloc 48 [(1,(.int .u8 0)),(1,(.bool false)),(2,(.int .i64 0))]),⟨none,none,.store 4 (.tmp 5) (.tmp 13)⟩] [2,3,5,8,9,10]) (.seq (.ops [O1 15 (.fldA 0 (.tmp 5)),O1 16 (.load none (.tmp 15)),O1 17 (.callF 70 [.tmp 16]),O1 14 (.mov (.tmp 17)),O1 18 (.ext (.tmp 14) 0),O1 19 (.ext (.tmp 14) 1),O1 6 (.alloc 110 [(1,(.string ⟨#[]⟩)),(4,(.int .i64 0)),(1,(.bool false)),(2,(.int .i64 0))]),⟨none,none,.store 8 (.tmp 6) (.tmp 18)⟩,O1 7 (.mov (.tmp 19))] [2,3,5,6,8,9,10]) (.seq (.ops [O1 20 (.mov (.tmp 2)),O1 21 (.load (some 4) (.tmp 5)),O1 22 (.fldA 6 (.tmp 6)),O1 23 (.load none (.tmp 22)),O1 24 (.callF 72 [(.tmp 21),(.tmp 23)]),O1 25 (.bin .add (.tmp 20) (.tmp 24)),O1 2 (.mov (.tmp 25))] [2,3,5,6,8,9,10]) (.ops [O1 26 (.mov (.tmp 3)),O1 27 (.load (some 4) (.tmp 5)),O1 28 (.fldA 7 (.tmp 6)),O1 29 (.load none (.tmp 28)),O1 30 (.callF 72 [(.tmp 27),(.tmp 29)]),O1 31 (.bin .add (.tmp 26) (.tmp 30)),O1 3 (.mov (.tmp 31))] [2,3,8,9,10]))))) (.ops [O1 32 (.bin .add (.tmp 10) (.const (.int .i64 1))),O1 10 (.mov (.tmp 32))] [2,3,8,9,10])))
def c50:n9:=⟨.seq (.ops [O1 2 (.mov (.const (.int .i64 0))),O1 3 (.mov (.const (.int .i64 0)))] [0,2,3]) (.seq (.seq (.ops [O1 8 (.mov (.tmp 0)),O1 9 (.len false (.tmp 8)),O1 10 (.mov (.const (.int .i64 0)))] [2,3,8,9,10]) (.block 0 (.loop [2,3,8,9,10] aA0))) (.seq (.ops [O1 33 (.mov (.tmp 2)),O1 34 (.mov (.tmp 3)),O1 2 (.mov (.tmp 33)),O1 3 (.mov (.tmp 34))] [2,3]) (.ret))),35,[(2,none),(3,none)],true⟩
theorem cB2:n7 Tryd.prog 50 c50:= .code ⟨Tryd.f50,_,c50.code,Tryd.func50,rfl,by kernel_rfl,rfl,by kernel_rfl,by kernel_rfl⟩
/- raddle/r4.phrase -/
def c51:n9:=⟨.seq (.ops [O1 2 (.box 48 (.tmp 0)),O1 4 (.mov (.const (.string ⟨#[]⟩)))] [1,2]) (.seq (.ops [O1 8 (.fldA 0 (.tmp 2)),O1 9 (.load none (.tmp 8)),O1 10 (.fldA 1 (.tmp 2)),O1 11 (.load none (.tmp 10)),O1 12 (.callF 57 [(.tmp 9),(.tmp 11)]),O1 7 (.mov (.tmp 12)),O1 13 (.ext (.tmp 7) 0),O1 14 (.ext (.tmp 7) 1),O1 5 (.mov (.tmp 13)),O1 6 (.mov (.tmp 14))] [1,2,5,6]) (.seq (.seq (.ops [O1 15 (.mov (.tmp 6))] [1,2,5,15]) (.cond (.tmp 15) (.seq (.ops [O1 16 (.mov (.tmp 5)),O1 17 (.mov (.tmp 1)),O1 18 (.callF 35 [.tmp 17]),O1 19 (.callF 73 [(.tmp 16),(.const (.string ⟨#[35]⟩)),(.tmp 18),(.const (.int .i64 1))]),O1 4 (.mov (.tmp 19))] [4]) (.ret)) (.skip))) (.seq (.ops [O1 20 (.mov (.tmp 5)),O1 21 (.fldA 2 (.tmp 2)),O1 22 (.load none (.tmp 21)),O1 23 (.callF 35 [.tmp 22]),O1 24 (.callF 73 [(.tmp 20),(.const (.string ⟨#[35]⟩)),(.tmp 23),(.const (.int .i64 1))]),O1 5 (.mov (.tmp 24))] [1,2,5]) (.seq (.ops [O1 25 (.mov (.tmp 5)),O1 26 (.fldA 3 (.tmp 2)),O1 27 (.load none (.tmp 26)),O1 28 (.callF 35 [.tmp 27]),O1 29 (.callF 73 [(.tmp 25),(.const (.string ⟨#[35]⟩)),(.tmp 28),(.const (.int .i64 1))]),O1 5 (.mov (.tmp 29))] [1,5]) (.seq (.seq (.ops [O1 30 (.mov (.tmp 1)),O1 31 (.bin .gtr (.tmp 30) (.const (.int .i64 1)))] [1,5,31]) (.cond (.tmp 31) (.ops [O1 32 (.mov (.tmp 5)),O1 33 (.mov (.tmp 1)),O1 34 (.callF 35 [.tmp 33]),O1 35 (.bin .add (.const (.string ⟨#[32]⟩)) (.tmp 34)),O1 36 (.bin .add (.tmp 35) (.const (.string ⟨#[32,116,105,109,101,115]⟩))),O1 37 (.bin .add (.tmp 32) (.tmp 36)),O1 5 (.mov (.tmp 37))] [5]) (.skip))) (.seq (.ops [O1 38 (.mov (.tmp 5)),O1 4 (.mov (.tmp 38))] [4]) (.ret))))))),39,[(4,none)],true⟩
theorem cB3:n7 Tryd.prog 51 c51:= .code ⟨Tryd.f51,_,c51.code,Tryd.func51,rfl,by kernel_rfl,rfl,by kernel_rfl,by kernel_rfl⟩
/- raddle/raddleref25.Check -/
def c53:n9:=⟨.seq (.ops [O1 1 (.box 48 (.tmp 0)),O1 2 (.mov (.const (.int .i64 0)))] [1]) (.seq (.ops [O1 5 (.fldA 2 (.tmp 1)),O1 6 (.load none (.tmp 5)),O1 7 (.bin .eql (.tmp 6) (.const (.int .i64 0))),O1 8 (.mov (.tmp 7)),⟨some 9,some (8,true),.fldA 3 (.tmp 1)⟩,⟨some 10,some (8,true),.load none (.tmp 9)⟩,⟨some 11,some (8,true),.bin .eql (.tmp 10) (.const (.int .i64 0))⟩,O1 12 (.pick (.tmp 8) (.tmp 11) (.const (.bool false))),O1 3 (.mov (.tmp 12))] [1,3]) (.seq (.ops [O1 4 (.mov (.const (.bool false)))] [1,3,4]) (.seq (.seq (.ops [O1 13 (.fldA 0 (.tmp 1)),O1 14 (.load none (.tmp 13))] [1,3,4,14]) (.block 0 (.seq (.seq (.ops [O1 16 (.bin .eql (.tmp 14) (.const (.int .u8 1))),O1 15 (.mov (.tmp 16))] [1,3,4,14,15]) (.cond (.tmp 15) (.skip) (.ops [O1 17 (.bin .eql (.tmp 14) (.const (.int .u8 8))),O1 15 (.mov (.tmp 17))] [1,3,4,14,15]))) (.cond (.tmp 15) (.ops [O1 18 (.mov (.tmp 3)),O1 4 (.mov (.tmp 18))] [4]) (.seq (.ops [O1 20 (.bin .eql (.tmp 14) (.const (.int .u8 2))),O1 19 (.mov (.tmp 20))] [1,3,4,14,19]) (.cond (.tmp 19) (.ops [O1 21 (.mov (.tmp 3)),O1 22 (.mov (.tmp 21)),⟨some 23,some (22,true),.fldA 1 (.tmp 1)⟩,⟨some 24,some (22,true),.load none (.tmp 23)⟩,⟨some 25,some (22,true),.un .not (.tmp 24)⟩,O1 26 (.pick (.tmp 22) (.tmp 25) (.const (.bool false))),O1 4 (.mov (.tmp 26))] [4]) (.seq (.seq (.ops [O1 28 (.bin .eql (.tmp 14) (.const (.int .u8 3))),O1 27 (.mov (.tmp 28))] [1,4,14,27]) (.cond (.tmp 27) (.skip) (.seq (.ops [O1 29 (.bin .eql (.tmp 14) (.const (.int .u8 4))),O1 27 (.mov (.tmp 29))] [1,4,14,27]) (.cond (.tmp 27) (.skip) (.ops [O1 30 (.bin .eql (.tmp 14) (.const (.int .u8 5))),O1 27 (.mov (.tmp 30))] [1,4,14,27]))))) (.cond (.tmp 27) (.ops [O1 31 (.fldA 3 (.tmp 1)),O1 32 (.load none (.tmp 31)),O1 33 (.bin .eql (.tmp 32) (.const (.int .i64 0))),O1 34 (.mov (.tmp 33)),⟨some 35,some (34,true),.fldA 2 (.tmp 1)⟩,⟨some 36,some (34,true),.load none (.tmp 35)⟩,⟨some 37,some (34,true),.bin .geq (.tmp 36) (.const (.int .i64 2))⟩,O1 38 (.pick (.tmp 34) (.tmp 37) (.const (.bool false))),O1 39 (.mov (.tmp 38)),⟨some 40,some (39,true),.fldA 2 (.tmp 1)⟩,⟨some 41,some (39,true),.load none (.tmp 40)⟩,⟨some 42,some (39,true),.bin .leq (.tmp 41) (.const (.int .i64 4))⟩,O1 43 (.pick (.tmp 39) (.tmp 42) (.const (.bool false))),O1 4 (.mov (.tmp 43))] [4]) (.seq (.seq (.ops [O1 45 (.bin .eql (.tmp 14) (.const (.int .u8 6))),O1 44 (.mov (.tmp 45))] [1,4,14,44]) (.cond (.tmp 44) (.skip) (.ops [O1 46 (.bin .eql (.tmp 14) (.const (.int .u8 7))),O1 44 (.mov (.tmp 46))] [1,4,14,44]))) (.cond (.tmp 44) (.ops [O1 47 (.fldA 2 (.tmp 1)),O1 48 (.load none (.tmp 47)),O1 49 (.bin .geq (.tmp 48) (.const (.int .i64 1))),O1 50 (.mov (.tmp 49)),⟨some 51,some (50,true),.fldA 2 (.tmp 1)⟩,⟨some 52,some (50,true),.load none (.tmp 51)⟩,⟨some 53,some (50,true),.bin .leq (.tmp 52) (.const (.int .i64 6))⟩,O1 54 (.pick (.tmp 50) (.tmp 53) (.const (.bool false))),O1 55 (.mov (.tmp 54)),⟨some 56,some (55,true),.fldA 3 (.tmp 1)⟩,⟨some 57,some (55,true),.load none (.tmp 56)⟩,⟨some 58,some (55,true),.bin .geq (.tmp 57) (.const (.int .i64 1))⟩,
  O1 59 (.pick (.tmp 55) (.tmp 58) (.const (.bool false))),O1 60 (.mov (.tmp 59)),⟨some 61,some (60,true),.fldA 3 (.tmp 1)⟩,⟨some 62,some (60,true),.load none (.tmp 61)⟩,⟨some 63,some (60,true),.bin .leq (.tmp 62) (.const (.int .i64 6))⟩,O1 64 (.pick (.tmp 60) (.tmp 63) (.const (.bool false))),O1 4 (.mov (.tmp 64))] [4]) (.seq (.ops [O1 66 (.bin .eql (.tmp 14) (.const (.int .u8 9))),O1 65 (.mov (.tmp 66))] [1,4,14,65]) (.cond (.tmp 65) (.ops [O1 67 (.fldA 3 (.tmp 1)),O1 68 (.load none (.tmp 67)),O1 69 (.bin .eql (.tmp 68) (.const (.int .i64 0))),O1 70 (.mov (.tmp 69)),⟨some 71,some (70,true),.fldA 1 (.tmp 1)⟩,⟨some 72,some (70,true),.load none (.tmp 71)⟩,⟨some 73,some (70,true),.un .not (.tmp 72)⟩,O1 74 (.pick (.tmp 70) (.tmp 73) (.const (.bool false))),O1 75 (.mov (.tmp 74)),⟨some 76,some (75,true),.fldA 2 (.tmp 1)⟩,⟨some 77,some (75,true),.load none (.tmp 76)⟩,⟨some 78,some (75,true),.bin .geq (.tmp 77) (.const (.int .i64 1))⟩,O1 79 (.pick (.tmp 75) (.tmp 78) (.const (.bool false))),O1 80 (.mov (.tmp 79)),⟨some 81,some (80,true),.fldA 2 (.tmp 1)⟩,⟨some 82,some (80,true),.load none (.tmp 81)⟩,⟨some 83,some (80,true),.bin .leq (.tmp 82) (.const (.int .i64 200))⟩,O1 84 (.pick (.tmp 80) (.tmp 83) (.const (.bool false))),O1 4 (.mov (.tmp 84))] [4]) (.seq (.ops [O1 86 (.bin .eql (.tmp 14) (.const (.int .u8 10))),O1 85 (.mov (.tmp 86))] [1,4,85]) (.cond (.tmp 85) (.ops [O1 87 (.fldA 3 (.tmp 1)),O1 88 (.load none (.tmp 87)),O1 89 (.bin .eql (.tmp 88) (.const (.int .i64 0))),O1 90 (.mov (.tmp 89)),⟨some 91,some (90,true),.fldA 2 (.tmp 1)⟩,⟨some 92,some (90,true),.load none (.tmp 91)⟩,⟨some 93,some (90,true),.bin .geq (.tmp 92) (.const (.int .i64 1))⟩,O1 94 (.pick (.tmp 90) (.tmp 93) (.const (.bool false))),O1 95 (.mov (.tmp 94)),⟨some 96,some (95,true),.fldA 2 (.tmp 1)⟩,⟨some 97,some (95,true),.load none (.tmp 96)⟩,⟨some 98,some (95,true),.bin .leq (.tmp 97) (.const (.int .i64 200))⟩,O1 99 (.pick (.tmp 95) (.tmp 98) (.const (.bool false))),O1 4 (.mov (.tmp 99))] [4]) (.skip))))))))))))))) (.seq (.seq (.ops [O1 100 (.mov (.tmp 4)),O1 101 (.un .not (.tmp 100))] [101]) (.cond (.tmp 101) (.seq (.ops [O1 2 (.mov (.const (.int .i64 8)))] [2]) (.ret)) (.skip))) (.seq (.ops [O1 2 (.mov (.const (.int .i64 0)))] [2]) (.ret)))))),102,[(2,none)],true⟩
theorem cB4:n7 Tryd.prog 53 c53:= .code ⟨Tryd.f53,_,c53.code,Tryd.func53,rfl,by kernel_rfl,rfl,by kernel_rfl,by kernel_rfl⟩
/- raddle/raddleref25.sums -/
def aA1:AC:= .seq (.seq (.ops [O1 7 (.mov (.tmp 6)),O1 8 (.mov (.tmp 0)),O1 9 (.len false (.tmp 8)),O1 10 (.bin .lss (.tmp 7) (.tmp 9))] [0,4,5,6,10]) (.cond (.tmp 10) (.skip) (.exit 0))) (.seq (.block 1 (.seq (.ops [O1 13 (.mov (.tmp 4)),O1 14 (.mov (.tmp 0)),O1 15 (.mov (.tmp 6)),O1 16 (.idxS 4 (.tmp 14) (.tmp 15)),O1 17 (.load (some 4) (.tmp 16)),O1 18 (.callF 75 [.tmp 17]),O1 19 (.bin .add (.tmp 13) (.tmp 18)),O1 4 (.mov (.tmp 19))] [0,4,5,6]) (.ops [O1 20 (.mov (.tmp 5)),O1 21 (.mov (.tmp 0)),O1 22 (.mov (.tmp 6)),O1 23 (.idxS 4 (.tmp 21) (.tmp 22)),O1 24 (.load (some 4) (.tmp 23)),O1 25 (.callF 76 [.tmp 24]),O1 26 (.bin .add (.tmp 20) (.tmp 25)),O1 5 (.mov (.tmp 26))] [0,4,5,6]))) (.ops [O1 11 (.mov (.tmp 6)),O1 12 (.bin .add (.tmp 11) (.const (.int .i64 1))),O1 6 (.mov (.tmp 12))] [0,4,5,6]))
def c54:n9:=⟨.seq (.ops [O1 2 (.mov (.const (.int .i64 0))),O1 3 (.mov (.const (.int .i64 0)))] [0]) (.seq (.ops [O1 4 (.mov (.const (.int .i64 0))),O1 5 (.mov (.const (.int .i64 0)))] [0,4,5]) (.seq (.seq (.ops [O1 6 (.mov (.const (.int .i64 0)))] [0,4,5,6]) (.block 0 (.loop [0,4,5,6] aA1))) (.seq (.ops [O1 27 (.mov (.tmp 4)),O1 28 (.mov (.tmp 5)),O1 2 (.mov (.tmp 27)),O1 3 (.mov (.tmp 28))] [2,3]) (.ret)))),29,[(2,none),(3,none)],true⟩
theorem cB5:n7 Tryd.prog 54 c54:= .code ⟨Tryd.f54,_,c54.code,Tryd.func54,rfl,by kernel_rfl,rfl,by kernel_rfl,by kernel_rfl⟩
/- raddle/raddleref41.Phrase -/
def c55:n9:=⟨.seq (.ops [O1 2 (.box 48 (.tmp 0)),O1 4 (.mov (.const (.string ⟨#[]⟩)))] [1,2]) (.seq (.ops [O1 6 (.mov (.tmp 1)),O1 7 (.callF 64 [.tmp 6]),O1 5 (.mov (.tmp 7))] [1,2,5]) (.seq (.block 0 (.seq (.ops [O1 9 (.fldA 0 (.tmp 2)),O1 10 (.load none (.tmp 9)),O1 11 (.bin .eql (.tmp 10) (.const (.int .u8 1))),O1 8 (.mov (.tmp 11))] [1,2,5,8]) (.cond (.tmp 8) (.seq (.ops [O1 12 (.load (some 4) (.tmp 2)),O1 13 (.callF 77 [.tmp 12]),O1 14 (.bin .add (.tmp 13) (.const (.string ⟨#[32]⟩))),O1 15 (.mov (.tmp 5)),O1 16 (.bin .add (.tmp 14) (.tmp 15)),O1 4 (.mov (.tmp 16))] [4]) (.ret)) (.seq (.ops [O1 18 (.fldA 0 (.tmp 2)),O1 19 (.load none (.tmp 18)),O1 20 (.bin .eql (.tmp 19) (.const (.int .u8 8))),O1 21 (.mov (.tmp 20)),⟨some 22,some (21,true),.fldA 1 (.tmp 2)⟩,⟨some 23,some (21,true),.load none (.tmp 22)⟩,O1 24 (.pick (.tmp 21) (.tmp 23) (.const (.bool false))),O1 17 (.mov (.tmp 24))] [1,2,5,17]) (.cond (.tmp 17) (.seq (.ops [O1 25 (.mov (.tmp 5)),O1 26 (.bin .add (.const (.string ⟨#[115,108,105,112,32]⟩)) (.tmp 25)),O1 27 (.bin .add (.tmp 26) (.const (.string ⟨#[32,119,105,116,104,32,121,97,114,110,32,105,110,32,102,114,111,110,116]⟩))),O1 4 (.mov (.tmp 27))] [4]) (.ret)) (.seq (.ops [O1 29 (.fldA 0 (.tmp 2)),O1 30 (.load none (.tmp 29)),O1 31 (.bin .eql (.tmp 30) (.const (.int .u8 8))),O1 28 (.mov (.tmp 31))] [1,2,5,28]) (.cond (.tmp 28) (.seq (.ops [O1 32 (.mov (.tmp 5)),O1 33 (.bin .add (.const (.string ⟨#[115,108,105,112,32]⟩)) (.tmp 32)),O1 4 (.mov (.tmp 33))] [4]) (.ret)) (.seq (.ops [O1 35 (.mov (.tmp 1)),O1 36 (.bin .gtr (.tmp 35) (.const (.int .i64 1))),O1 34 (.mov (.tmp 36))] [2,5,34]) (.cond (.tmp 34) (.seq (.ops [O1 37 (.load (some 4) (.tmp 2)),O1 38 (.callF 78 [.tmp 37]),O1 39 (.bin .add (.tmp 38) (.const (.string ⟨#[32]⟩))),O1 40 (.mov (.tmp 5)),O1 41 (.bin .add (.tmp 39) (.tmp 40)),O1 42 (.bin .add (.tmp 41) (.const (.string ⟨#[32,116,105,109,101,115]⟩))),O1 4 (.mov (.tmp 42))] [4]) (.ret)) (.skip)))))))))) (.seq (.ops [O1 43 (.load (some 4) (.tmp 2)),O1 44 (.callF 78 [.tmp 43]),O1 4 (.mov (.tmp 44))] [4]) (.ret)))),45,[(4,none)],true⟩
theorem cB6:n7 Tryd.prog 55 c55:= .code ⟨Tryd.f55,_,c55.code,Tryd.func55,rfl,by kernel_rfl,rfl,by kernel_rfl,by kernel_rfl⟩
/- strings.genSplit -/
def IB:AC:= .seq (.seq (.ops [O1 34 (.mov (.tmp 10)),O1 35 (.mov (.tmp 3)),O1 36 (.bin .lss (.tmp 34) (.tmp 35))] [0,1,2,3,9,10,36]) (.cond (.tmp 36) (.skip) (.exit 0))) (.block 1 (.seq (.ops [O1 37 (.mov (.tmp 0)),O1 38 (.mov (.tmp 1)),O1 39 (.callF 81 [(.tmp 37),(.tmp 38)]),O1 11 (.mov (.tmp 39))] [0,1,2,3,9,10,11]) (.seq (.seq (.ops [O1 40 (.mov (.tmp 11)),O1 41 (.bin .lss (.tmp 40) (.const (.int .i64 0)))] [0,1,2,3,9,10,11,41]) (.cond (.tmp 41) (.exit 0) (.skip))) (.seq (.ops [O1 42 (.mov (.tmp 9)),O1 43 (.mov (.tmp 10)),O1 44 (.mov (.tmp 0)),O1 45 (.mov (.tmp 11)),O1 46 (.mov (.tmp 2)),O1 47 (.bin .add (.tmp 45) (.tmp 46)),O1 48 (.slcS (.tmp 44) none (some (.tmp 47))),O1 49 (.idxS 1 (.tmp 42) (.tmp 43)),⟨none,none,.store 1 (.tmp 49) (.tmp 48)⟩] [0,1,2,3,9,10,11]) (.seq (.ops [O1 50 (.mov (.tmp 0)),O1 51 (.mov (.tmp 11)),O1 52 (.mov (.tmp 1)),O1 53 (.len true (.tmp 52)),O1 54 (.bin .add (.tmp 51) (.tmp 53)),O1 55 (.slcS (.tmp 50) (some (.tmp 54)) none),O1 0 (.mov (.tmp 55))] [0,1,2,3,9,10]) (.ops [O1 56 (.mov (.tmp 10)),O1 57 (.bin .add (.tmp 56) (.const (.int .i64 1))),O1 10 (.mov (.tmp 57))] [0,1,2,3,9,10]))))))
def c56:n9:=⟨.seq (.ops [O1 8 (.mov (.const (.slice none 0 0)))] [0,1,2,3]) (.seq (.seq (.ops [O1 12 (.mov (.tmp 3)),O1 13 (.bin .eql (.tmp 12) (.const (.int .i64 0)))] [0,1,2,3,13]) (.cond (.tmp 13) (.seq (.ops [O1 8 (.mov (.const (.slice none 0 0)))] [8]) (.ret)) (.skip))) (.seq (.seq (.ops [O1 14 (.mov (.tmp 1)),O1 15 (.bin .eql (.tmp 14) (.const (.string ⟨#[]⟩)))] [0,1,2,3,15]) (.cond (.tmp 15) (.seq (.ops [O1 16 (.mov (.tmp 0)),O1 17 (.mov (.tmp 3)),O1 18 (.callF 79 [(.tmp 16),(.tmp 17)]),O1 8 (.mov (.tmp 18))] [8]) (.ret)) (.skip))) (.seq (.seq (.ops [O1 19 (.mov (.tmp 3)),O1 20 (.bin .lss (.tmp 19) (.const (.int .i64 0)))] [0,1,2,3,20]) (.cond (.tmp 20) (.ops [O1 21 (.mov (.tmp 0)),O1 22 (.mov (.tmp 1)),O1 23 (.callF 80 [(.tmp 21),(.tmp 22)]),O1 24 (.bin .add (.tmp 23) (.const (.int .i64 1))),O1 3 (.mov (.tmp 24))] [0,1,2,3]) (.skip))) (.seq (.ops [O1 25 (.mov (.tmp 3)),O1 26 (.mov (.tmp 0)),O1 27 (.len true (.tmp 26)),O1 28 (.bin .add (.tmp 27) (.const (.int .i64 1))),O1 29 (.mm false (.tmp 25) (.tmp 28)),O1 3 (.mov (.tmp 29))] [0,1,2,3]) (.seq (.ops [O1 30 (.mov (.tmp 3)),O1 31 (.mkSlice 9 1 16 [(.string ⟨#[]⟩)] (.tmp 30) (.tmp 30)),O1 9 (.mov (.tmp 31))] [0,1,2,3,9]) (.seq (.ops [O1 32 (.mov (.tmp 3)),O1 33 (.bin .sub (.tmp 32) (.const (.int .i64 1))),O1 3 (.mov (.tmp 33))] [0,1,2,3,9]) (.seq (.ops [O1 10 (.mov (.const (.int .i64 0)))] [0,1,2,3,9,10]) (.seq (.block 0 (.loop [0,1,2,3,9,10] IB)) (.seq (.ops [O1 58 (.mov (.tmp 9)),O1 59 (.mov (.tmp 10)),O1 60 (.mov (.tmp 0)),O1 61 (.idxS 1 (.tmp 58) (.tmp 59)),⟨none,none,.store 1 (.tmp 61) (.tmp 60)⟩] [9,10]) (.seq (.ops [O1 62 (.mov (.tmp 9)),O1 63 (.mov (.tmp 10)),O1 64 (.bin .add (.tmp 63) (.const (.int .i64 1))),O1 65 (.slc 1 (.tmp 62) none (some (.tmp 64)) none),O1 8 (.mov (.tmp 65))] [8]) (.ret))))))))))),66,[(8,none)],true⟩
theorem cB7:n7 Tryd.prog 56 c56:= .code ⟨Tryd.f56,_,c56.code,Tryd.func56,rfl,by kernel_rfl,rfl,by kernel_rfl,by kernel_rfl⟩
/- raddle/r4.form -/
def c57:n9:=⟨.seq (.ops [O1 4 (.mov (.const (.string ⟨#[]⟩))),O1 5 (.mov (.const (.bool false)))] [0,1]) (.seq (.ops [O1 6 (.mov (.const (.string ⟨#[]⟩)))] [0,1,6]) (.seq (.seq (.ops [O1 7 (.mov (.tmp 1))] [0,1,6,7]) (.cond (.tmp 7) (.ops [O1 6 (.mov (.const (.string ⟨#[32,112,117,114,108,119,105,115,101]⟩)))] [0,1,6]) (.skip))) (.seq (.seq (.ops [O1 8 (.mov (.tmp 0))] [1,6,8]) (.block 0 (.seq (.ops [O1 10 (.bin .eql (.tmp 8) (.const (.int .u8 1))),O1 9 (.mov (.tmp 10))] [1,6,8,9]) (.cond (.tmp 9) (.seq (.ops [O1 11 (.mov (.tmp 1)),O1 12 (.callF 82 [.tmp 11]),O1 13 (.bin .add (.tmp 12) (.const (.string ⟨#[32,35]⟩))),O1 4 (.mov (.tmp 13)),O1 5 (.mov (.const (.bool true)))] [4,5]) (.ret)) (.seq (.ops [O1 15 (.bin .eql (.tmp 8) (.const (.int .u8 8))),O1 14 (.mov (.tmp 15))] [1,6,8,14]) (.cond (.tmp 14) (.seq (.seq (.ops [O1 16 (.mov (.tmp 1))] [16]) (.cond (.tmp 16) (.seq (.ops [O1 4 (.mov (.const (.string ⟨#[115,108,105,112,32,35,32,119,105,116,104,32,121,97,114,110,32,105,110,32,102,114,111,110,116]⟩))),O1 5 (.mov (.const (.bool true)))] [4,5]) (.ret)) (.skip))) (.seq (.ops [O1 4 (.mov (.const (.string ⟨#[115,108,105,112,32,35]⟩))),O1 5 (.mov (.const (.bool true)))] [4,5]) (.ret))) (.seq (.ops [O1 18 (.bin .eql (.tmp 8) (.const (.int .u8 2))),O1 17 (.mov (.tmp 18))] [1,6,8,17]) (.cond (.tmp 17) (.seq (.ops [O1 4 (.mov (.const (.string ⟨#[121,97,114,110,32,111,118,101,114]⟩))),O1 5 (.mov (.const (.bool false)))] [4,5]) (.ret)) (.seq (.ops [O1 20 (.bin .eql (.tmp 8) (.const (.int .u8 3))),O1 19 (.mov (.tmp 20))] [1,6,8,19]) (.cond (.tmp 19) (.seq (.ops [O1 21 (.mov (.tmp 1)),O1 22 (.callF 82 [.tmp 21]),O1 23 (.bin .add (.tmp 22) (.const (.string ⟨#[32,35,32,116,111,103,101,116,104,101,114,32,40,102,105,114,115,116,32,111,110,32,116,111,112,41]⟩))),O1 4 (.mov (.tmp 23)),O1 5 (.mov (.const (.bool false)))] [4,5]) (.ret)) (.seq (.ops [O1 25 (.bin .eql (.tmp 8) (.const (.int .u8 4))),O1 24 (.mov (.tmp 25))] [1,6,8,24]) (.cond (.tmp 24) (.seq (.ops [O1 26 (.mov (.tmp 1)),O1 27 (.callF 82 [.tmp 26]),O1 28 (.bin .add (.tmp 27) (.const (.string ⟨#[32,35,32,116,111,103,101,116,104,101,114]⟩))),O1 4 (.mov (.tmp 28)),O1 5 (.mov (.const (.bool false)))] [4,5]) (.ret)) (.seq (.ops [O1 30 (.bin .eql (.tmp 8) (.const (.int .u8 5))),O1 29 (.mov (.tmp 30))] [6,8,29]) (.cond (.tmp 29) (.seq (.ops [O1 31 (.mov (.tmp 6)),O1 32 (.bin .add (.const (.string ⟨#[109,97,107,101,32,35,32,111,117,116,32,111,102,32,49]⟩)) (.tmp 31)),O1 4 (.mov (.tmp 32)),O1 5 (.mov (.const (.bool false)))] [4,5]) (.ret)) (.seq (.ops [O1 34 (.bin .eql (.tmp 8) (.const (.int .u8 6))),O1 33 (.mov (.tmp 34))] [6,8,33]) (.cond (.tmp 33) (.seq (.ops [O1 35 (.mov (.tmp 6)),O1 36 (.bin .add (.const (.string ⟨#[99,114,111,115,115,32,35,32,105,110,32,102,114,111,110,116,32,111,102,32,35]⟩)) (.tmp 35)),O1 4 (.mov (.tmp 36)),O1 5 (.mov (.const (.bool false)))] [4,5]) (.ret)) (.seq (.ops [O1 38 (.bin .eql (.tmp 8) (.const (.int .u8 7))),O1 37 (.mov (.tmp 38))] [6,8,37]) (.cond (.tmp 37) (.seq (.ops [O1 39 (.mov (.tmp 6)),
  O1 40 (.bin .add (.const (.string ⟨#[99,114,111,115,115,32,35,32,98,101,104,105,110,100,32,35]⟩)) (.tmp 39)),O1 4 (.mov (.tmp 40)),O1 5 (.mov (.const (.bool false)))] [4,5]) (.ret)) (.seq (.ops [O1 42 (.bin .eql (.tmp 8) (.const (.int .u8 9))),O1 41 (.mov (.tmp 42))] [6,41]) (.cond (.tmp 41) (.seq (.ops [O1 4 (.mov (.const (.string ⟨#[99,97,115,116,32,111,110,32,35]⟩))),O1 5 (.mov (.const (.bool false)))] [4,5]) (.ret)) (.skip))))))))))))))))))))) (.seq (.ops [O1 43 (.mov (.tmp 6)),O1 44 (.bin .add (.const (.string ⟨#[98,105,110,100,32,111,102,102,32,35]⟩)) (.tmp 43)),O1 4 (.mov (.tmp 44)),O1 5 (.mov (.const (.bool false)))] [4,5]) (.ret))))),45,[(4,none),(5,none)],true⟩
theorem cB8:n7 Tryd.prog 57 c57:= .code ⟨Tryd.f57,_,c57.code,Tryd.func57,rfl,by kernel_rfl,rfl,by kernel_rfl,by kernel_rfl⟩
/- raddle/r4.number -/
def IC:AC:= .seq (.seq (.ops [O1 6 (.mov (.tmp 5)),O1 7 (.mov (.tmp 0)),O1 8 (.len true (.tmp 7)),O1 9 (.bin .lss (.tmp 6) (.tmp 8)),O1 10 (.mov (.tmp 9)),⟨some 11,some (10,true),.mov (.tmp 5)⟩,⟨some 12,some (10,true),.bin .lss (.tmp 11) (.const (.int .i64 4))⟩,O1 13 (.pick (.tmp 10) (.tmp 12) (.const (.bool false))),O1 14 (.mov (.tmp 13)),⟨some 15,some (14,true),.mov (.tmp 0)⟩,⟨some 16,some (14,true),.mov (.tmp 5)⟩,⟨some 17,some (14,true),.idxStr (.tmp 15) (.tmp 16)⟩,⟨some 18,some (14,true),.bin .geq (.tmp 17) (.const (.int .u8 48))⟩,O1 19 (.pick (.tmp 14) (.tmp 18) (.const (.bool false))),O1 20 (.mov (.tmp 19)),⟨some 21,some (20,true),.mov (.tmp 0)⟩,⟨some 22,some (20,true),.mov (.tmp 5)⟩,⟨some 23,some (20,true),.idxStr (.tmp 21) (.tmp 22)⟩,⟨some 24,some (20,true),.bin .leq (.tmp 23) (.const (.int .u8 57))⟩,O1 25 (.pick (.tmp 20) (.tmp 24) (.const (.bool false)))] [0,2,5,25]) (.cond (.tmp 25) (.skip) (.exit 0))) (.block 1 (.seq (.ops [O1 26 (.mov (.tmp 2)),O1 27 (.bin .mul (.const (.int .i64 10)) (.tmp 26)),O1 28 (.mov (.tmp 0)),O1 29 (.mov (.tmp 5)),O1 30 (.idxStr (.tmp 28) (.tmp 29)),O1 31 (.bin .sub (.tmp 30) (.const (.int .u8 48))),O1 32 (.convI .i64 (.tmp 31)),O1 33 (.bin .add (.tmp 27) (.tmp 32)),O1 2 (.mov (.tmp 33))] [0,2,5]) (.ops [O1 34 (.mov (.tmp 5)),O1 35 (.bin .add (.tmp 34) (.const (.int .i64 1))),O1 5 (.mov (.tmp 35))] [0,2,5])))
def c58:n9:=⟨.seq (.ops [O1 2 (.mov (.const (.int .i64 0))),O1 3 (.mov (.const (.string ⟨#[]⟩))),O1 4 (.mov (.const (.bool false)))] [0,2]) (.seq (.ops [O1 5 (.mov (.const (.int .i64 0)))] [0,2,5]) (.seq (.block 0 (.loop [0,2,5] IC)) (.seq (.draw [O1 36 (.mov (.tmp 2)),O1 37 (.mov (.tmp 0)),O1 38 (.mov (.tmp 5)),O1 39 (.slcS (.tmp 37) (some (.tmp 38)) none),O1 40 (.mov (.tmp 5)),O1 41 (.bin .gtr (.tmp 40) (.const (.int .i64 0))),O1 2 (.mov (.tmp 36)),O1 3 (.mov (.tmp 39))] [O1 4 (.mov (.tmp 41))] [[],[],[],[],[],[],[],[]] [2,3,4]) (.ret)))),42,[(2,none),(3,none),(4,none)],true⟩
theorem cB9:n7 Tryd.prog 58 c58:= .code ⟨Tryd.f58,_,c58.code,Tryd.func58,rfl,by kernel_rfl,rfl,by kernel_rfl,by kernel_rfl⟩
/- strings.TrimPrefix -/
def c59:n9:=⟨.seq (.ops [O1 4 (.mov (.const (.string ⟨#[]⟩)))] [0,1]) (.seq (.ops [O1 5 (.mov (.tmp 0)),O1 6 (.mov (.tmp 1)),O1 7 (.callF 83 [(.tmp 5),(.tmp 6)]),O1 4 (.mov (.tmp 7))] [4]) (.ret)),8,[(4,none)],true⟩
theorem cC0:n7 Tryd.prog 59 c59:= .code ⟨Tryd.f59,_,c59.code,Tryd.func59,rfl,by kernel_rfl,rfl,by kernel_rfl,by kernel_rfl⟩
/- raddle/raddleref41.numbers -/
def SC:AC:= .seq (.seq (.ops [O1 10 (.mov (.tmp 5)),O1 11 (.mov (.tmp 4)),O1 12 (.len false (.tmp 11)),O1 13 (.bin .lss (.tmp 10) (.tmp 12))] [3,4,5,13]) (.cond (.tmp 13) (.skip) (.exit 0))) (.seq (.block 1 (.seq (.ops [O1 17 (.mov (.tmp 4)),O1 18 (.mov (.tmp 5)),O1 19 (.idxS 1 (.tmp 17) (.tmp 18)),O1 20 (.load none (.tmp 19)),O1 21 (.callF 85 [.tmp 20]),O1 16 (.mov (.tmp 21)),O1 22 (.ext (.tmp 16) 0),O1 23 (.ext (.tmp 16) 1),O1 6 (.mov (.tmp 22)),O1 7 (.mov (.tmp 23))] [3,4,5,6,7]) (.seq (.ops [O1 24 (.mov (.tmp 7))] [3,4,5,6,24]) (.cond (.tmp 24) (.ops [O1 25 (.mov (.tmp 3)),O1 26 (.mov (.tmp 6)),O1 27 (.mkRow 3 1 1 [(.int .i64 0)] [(0,1,(.tmp 26))]),O1 28 (.app 3 1 8 (.tmp 25) (.tmp 27)),O1 3 (.mov (.tmp 28))] [3,4,5]) (.skip))))) (.ops [O1 14 (.mov (.tmp 5)),O1 15 (.bin .add (.tmp 14) (.const (.int .i64 1))),O1 5 (.mov (.tmp 15))] [3,4,5]))
def c60:n9:=⟨.seq (.ops [O1 2 (.mov (.const (.slice none 0 0)))] [0]) (.seq (.ops [O1 3 (.mov (.const (.slice none 0 0)))] [0,3]) (.seq (.ops [O1 8 (.mov (.tmp 0)),O1 9 (.callF 84 [(.tmp 8),(.const (.int .u8 32))]),O1 4 (.mov (.tmp 9))] [3,4]) (.seq (.seq (.ops [O1 5 (.mov (.const (.int .i64 0)))] [3,4,5]) (.block 0 (.loop [3,4,5] SC))) (.seq (.ops [O1 29 (.mov (.tmp 3)),O1 2 (.mov (.tmp 29))] [2]) (.ret))))),30,[(2,none)],true⟩
theorem cC1:n7 Tryd.prog 60 c60:= .code ⟨Tryd.f60,_,c60.code,Tryd.func60,rfl,by kernel_rfl,rfl,by kernel_rfl,by kernel_rfl⟩
/- raddle/raddleref41.kinds -/
def c61:n9:=⟨.seq (.ops [O1 0 (.mov (.const (.slice none 0 0)))] []) (.seq (.ops [O1 1 (.mkRow 5 1 10 [(.int .u8 0)] [(0,1,(.const (.int .u8 1))),(1,1,(.const (.int .u8 2))),(2,1,(.const (.int .u8 3))),(3,1,(.const (.int .u8 4))),(4,1,(.const (.int .u8 5))),(5,1,(.const (.int .u8 6))),(6,1,(.const (.int .u8 7))),(7,1,(.const (.int .u8 8))),(8,1,(.const (.int .u8 9))),(9,1,(.const (.int .u8 10)))]),O1 0 (.mov (.tmp 1))] [0]) (.ret)),2,[(0,none)],true⟩
theorem cC2:n7 Tryd.prog 61 c61:= .code ⟨Tryd.f61,_,c61.code,Tryd.func61,rfl,by kernel_rfl,rfl,by kernel_rfl,by kernel_rfl⟩
/- raddle/raddleref41.tried -/
def c62:n9:=⟨.seq (.ops [O1 6 (.alloc 48 [(1,(.int .u8 0)),(1,(.bool false)),(2,(.int .i64 0))]),O1 7 (.mov (.const (.int .i64 0)))] [0,1,2,6]) (.seq (.ops [O1 11 (.mov (.tmp 0)),O1 12 (.mov (.tmp 1)),O1 13 (.build [(.int .u8 0),(.bool false),(.int .i64 0),(.int .i64 0)] [(0,1,(.tmp 11)),(1,1,(.tmp 12))]),O1 8 (.alloc 48 [(1,(.int .u8 0)),(1,(.bool false)),(2,(.int .i64 0))]),⟨none,none,.store 4 (.tmp 8) (.tmp 13)⟩,O1 9 (.mov (.const (.int .i64 1)))] [0,2,6,8,9]) (.seq (.ops [O1 10 (.mov (.const (.int .i64 0)))] [0,2,6,8,9,10]) (.seq (.seq (.ops [O1 14 (.mov (.tmp 0)),O1 15 (.bin .eql (.tmp 14) (.const (.int .u8 1))),O1 16 (.mov (.tmp 15)),⟨some 17,some (16,false),.mov (.tmp 0)⟩,⟨some 18,some (16,false),.bin .eql (.tmp 17) (.const (.int .u8 8))⟩,O1 19 (.pick (.tmp 16) (.const (.bool true)) (.tmp 18))] [0,2,6,8,9,10,19]) (.cond (.tmp 19) (.seq (.seq (.ops [O1 20 (.mov (.tmp 2)),O1 21 (.len false (.tmp 20)),O1 22 (.bin .eql (.tmp 21) (.const (.int .i64 0)))] [2,6,8,22]) (.cond (.tmp 22) (.seq (.ops [O1 23 (.load (some 4) (.tmp 8)),⟨none,none,.store 4 (.tmp 6) (.tmp 23)⟩,O1 7 (.mov (.const (.int .i64 0)))] [6,7]) (.ret)) (.skip))) (.seq (.drawW [⟨O1 24 (.load (some 4) (.tmp 8)),[],none⟩,⟨O1 25 (.mov (.tmp 2)),[0],none⟩,⟨O1 26 (.idxS 1 (.tmp 25) (.const (.int .i64 0))),[0],none⟩,⟨O1 27 (.load none (.tmp 26)),[0],none⟩,⟨⟨none,none,.store 4 (.tmp 6) (.tmp 24)⟩,[1,2,3],none⟩] [O1 7 (.mov (.tmp 27))] [6,7]) (.ret))) (.skip))) (.seq (.seq (.ops [O1 28 (.mov (.tmp 0)),O1 29 (.bin .neq (.tmp 28) (.const (.int .u8 2)))] [0,2,6,8,9,10,29]) (.cond (.tmp 29) (.seq (.seq (.ops [O1 30 (.mov (.tmp 2)),O1 31 (.len false (.tmp 30)),O1 32 (.bin .eql (.tmp 31) (.const (.int .i64 0)))] [0,2,6,8,9,32]) (.cond (.tmp 32) (.seq (.ops [O1 33 (.load (some 4) (.tmp 8)),⟨none,none,.store 4 (.tmp 6) (.tmp 33)⟩,O1 7 (.mov (.const (.int .i64 0)))] [6,7]) (.ret)) (.skip))) (.seq (.ops [O1 34 (.mov (.tmp 2)),O1 35 (.idxS 1 (.tmp 34) (.const (.int .i64 0))),O1 36 (.load none (.tmp 35)),O1 37 (.fldA 2 (.tmp 8)),⟨none,none,.store 1 (.tmp 37) (.tmp 36)⟩] [0,2,6,8,9]) (.ops [O1 10 (.mov (.const (.int .i64 1)))] [0,2,6,8,9,10]))) (.skip))) (.seq (.seq (.ops [O1 38 (.mov (.tmp 0)),O1 39 (.bin .eql (.tmp 38) (.const (.int .u8 5)))] [0,2,6,8,9,10,39]) (.cond (.tmp 39) (.ops [O1 10 (.mov (.const (.int .i64 2)))] [0,2,6,8,9,10]) (.skip))) (.seq (.seq (.ops [O1 40 (.mov (.tmp 0)),O1 41 (.bin .eql (.tmp 40) (.const (.int .u8 6))),O1 42 (.mov (.tmp 41)),⟨some 43,some (42,false),.mov (.tmp 0)⟩,⟨some 44,some (42,false),.bin .eql (.tmp 43) (.const (.int .u8 7))⟩,O1 45 (.pick (.tmp 42) (.const (.bool true)) (.tmp 44))] [2,6,8,9,10,45]) (.cond (.tmp 45) (.seq (.seq (.ops [O1 46 (.mov (.tmp 2)),O1 47 (.len false (.tmp 46)),O1 48 (.bin .lss (.tmp 47) (.const (.int .i64 2)))] [2,6,8,9,48]) (.cond (.tmp 48) (.seq (.ops [O1 49 (.load (some 4) (.tmp 8)),⟨none,none,.store 4 (.tmp 6) (.tmp 49)⟩,O1 7 (.mov (.const (.int .i64 0)))] [6,7]) (.ret)) (.skip))) (.seq (.ops [O1 50 (.mov (.tmp 2)),O1 51 (.idxS 1 (.tmp 50) (.const (.int .i64 1))),
  O1 52 (.load none (.tmp 51)),O1 53 (.fldA 3 (.tmp 8)),⟨none,none,.store 1 (.tmp 53) (.tmp 52)⟩] [2,6,8,9]) (.ops [O1 10 (.mov (.const (.int .i64 2)))] [2,6,8,9,10]))) (.skip))) (.seq (.seq (.ops [O1 54 (.mov (.tmp 10)),O1 55 (.mov (.tmp 2)),O1 56 (.len false (.tmp 55)),O1 57 (.bin .lss (.tmp 54) (.tmp 56))] [2,6,8,9,10,57]) (.cond (.tmp 57) (.ops [O1 58 (.mov (.tmp 2)),O1 59 (.mov (.tmp 10)),O1 60 (.idxS 1 (.tmp 58) (.tmp 59)),O1 61 (.load none (.tmp 60)),O1 9 (.mov (.tmp 61))] [6,8,9]) (.skip))) (.seq (.ops [O1 62 (.load (some 4) (.tmp 8)),O1 63 (.mov (.tmp 9)),⟨none,none,.store 4 (.tmp 6) (.tmp 62)⟩,O1 7 (.mov (.tmp 63))] [6,7]) (.ret))))))))),64,[(6,(some (some 4))),(7,none)],true⟩
theorem cC3:n7 Tryd.prog 62 c62:= .code ⟨Tryd.f62,_,c62.code,Tryd.func62,rfl,by kernel_rfl,rfl,by kernel_rfl,by kernel_rfl⟩
/- raddle/raddleref25.Decimal -/
def aA2:AC:= .seq (.seq (.ops [O1 12 (.mov (.tmp 0)),O1 13 (.bin .gtr (.tmp 12) (.const (.int .i64 0)))] [0,3,13]) (.cond (.tmp 13) (.skip) (.exit 0))) (.seq (.block 1 (.ops [O1 16 (.mov (.tmp 0)),O1 17 (.bin .rem (.tmp 16) (.const (.int .i64 10))),O1 18 (.bin .add (.const (.int .i64 48)) (.tmp 17)),O1 19 (.convI .u8 (.tmp 18)),O1 20 (.mkRow 5 1 1 [(.int .u8 0)] [(0,1,(.tmp 19))]),O1 21 (.b2s (.tmp 20)),O1 22 (.mov (.tmp 3)),O1 23 (.bin .add (.tmp 21) (.tmp 22)),O1 3 (.mov (.tmp 23))] [0,3])) (.ops [O1 14 (.mov (.tmp 0)),O1 15 (.bin .quo (.tmp 14) (.const (.int .i64 10))),O1 0 (.mov (.tmp 15))] [0,3]))
def c64:n9:=⟨.seq (.ops [O1 2 (.mov (.const (.string ⟨#[]⟩)))] [0]) (.seq (.ops [O1 4 (.mov (.tmp 0)),O1 5 (.bin .rem (.tmp 4) (.const (.int .i64 10))),O1 6 (.bin .add (.const (.int .i64 48)) (.tmp 5)),O1 7 (.convI .u8 (.tmp 6)),O1 8 (.mkRow 5 1 1 [(.int .u8 0)] [(0,1,(.tmp 7))]),O1 9 (.b2s (.tmp 8)),O1 3 (.mov (.tmp 9))] [0,3]) (.seq (.seq (.ops [O1 10 (.mov (.tmp 0)),O1 11 (.bin .quo (.tmp 10) (.const (.int .i64 10))),O1 0 (.mov (.tmp 11))] [0,3]) (.block 0 (.loop [0,3] aA2))) (.seq (.ops [O1 24 (.mov (.tmp 3)),O1 2 (.mov (.tmp 24))] [2]) (.ret)))),25,[(2,none)],true⟩
theorem cC4:n7 Tryd.prog 64 c64:= .code ⟨Tryd.f64,_,c64.code,Tryd.func64,rfl,by kernel_rfl,rfl,by kernel_rfl,by kernel_rfl⟩
/- internal/stringslite.CutSuffix -/
def c65:n9:=⟨.seq (.ops [O1 4 (.mov (.const (.string ⟨#[]⟩))),O1 5 (.mov (.const (.bool false)))] [0,1]) (.seq (.seq (.ops [O1 6 (.mov (.tmp 0)),O1 7 (.mov (.tmp 1)),O1 8 (.callF 87 [(.tmp 6),(.tmp 7)]),O1 9 (.un .not (.tmp 8))] [0,1,9]) (.cond (.tmp 9) (.seq (.ops [O1 10 (.mov (.tmp 0)),O1 4 (.mov (.tmp 10)),O1 5 (.mov (.const (.bool false)))] [4,5]) (.ret)) (.skip))) (.seq (.ops [O1 11 (.mov (.tmp 0)),O1 12 (.mov (.tmp 0)),O1 13 (.len true (.tmp 12)),O1 14 (.mov (.tmp 1)),O1 15 (.len true (.tmp 14)),O1 16 (.bin .sub (.tmp 13) (.tmp 15)),O1 17 (.slcS (.tmp 11) none (some (.tmp 16))),O1 4 (.mov (.tmp 17)),O1 5 (.mov (.const (.bool true)))] [4,5]) (.ret))),18,[(4,none),(5,none)],true⟩
theorem cC5:n7 Tryd.prog 65 c65:= .code ⟨Tryd.f65,_,c65.code,Tryd.func65,rfl,by kernel_rfl,rfl,by kernel_rfl,by kernel_rfl⟩
/- internal/stringslite.CutPrefix -/
def c66:n9:=⟨.seq (.ops [O1 4 (.mov (.const (.string ⟨#[]⟩))),O1 5 (.mov (.const (.bool false)))] [0,1]) (.seq (.seq (.ops [O1 6 (.mov (.tmp 0)),O1 7 (.mov (.tmp 1)),O1 8 (.callF 88 [(.tmp 6),(.tmp 7)]),O1 9 (.un .not (.tmp 8))] [0,1,9]) (.cond (.tmp 9) (.seq (.ops [O1 10 (.mov (.tmp 0)),O1 4 (.mov (.tmp 10)),O1 5 (.mov (.const (.bool false)))] [4,5]) (.ret)) (.skip))) (.seq (.ops [O1 11 (.mov (.tmp 0)),O1 12 (.mov (.tmp 1)),O1 13 (.len true (.tmp 12)),O1 14 (.slcS (.tmp 11) (some (.tmp 13)) none),O1 4 (.mov (.tmp 14)),O1 5 (.mov (.const (.bool true)))] [4,5]) (.ret))),15,[(4,none),(5,none)],true⟩
theorem cC6:n7 Tryd.prog 66 c66:= .code ⟨Tryd.f66,_,c66.code,Tryd.func66,rfl,by kernel_rfl,rfl,by kernel_rfl,by kernel_rfl⟩
/- slices.IndexFunc[[]raddle/api.Stitch,raddle/api.Stitch] -/
def SD:AC:= .seq (.ops [O1 9 (.bin .lss (.tmp 8) (.tmp 7))] [0,1,7,8,9]) (.seq (.cond (.tmp 9) (.skip) (.exit 0)) (.seq (.block 1 (.seq (.ops [O1 10 (.mov (.tmp 8)),O1 5 (.mov (.tmp 10))] [0,1,5,7,8]) (.seq (.ops [O1 11 (.mov (.tmp 1)),O1 12 (.mov (.tmp 0)),O1 13 (.mov (.tmp 5)),O1 14 (.idxS 4 (.tmp 12) (.tmp 13)),O1 15 (.load (some 4) (.tmp 14)),O1 16 (.callV (.tmp 11) [.tmp 15])] [0,1,5,7,8,16]) (.cond (.tmp 16) (.seq (.ops [O1 17 (.mov (.tmp 5)),O1 4 (.mov (.tmp 17))] [4]) (.ret)) (.skip))))) (.ops [O1 18 (.bin .add (.tmp 8) (.const (.int .i64 1))),O1 8 (.mov (.tmp 18))] [0,1,7,8])))
def c69:n9:=⟨.seq (.ops [O1 4 (.mov (.const (.int .i64 0)))] [0,1]) (.seq (.seq (.ops [O1 6 (.mov (.tmp 0)),O1 7 (.len false (.tmp 6)),O1 8 (.mov (.const (.int .i64 0)))] [0,1,7,8]) (.block 0 (.loop [0,1,7,8] SD))) (.seq (.ops [O1 4 (.mov (.const (.int .i64 (-1))))] [4]) (.ret))),19,[(4,none)],true⟩
theorem cC7:n7 Tryd.prog 69 c69:= .code ⟨Tryd.f69,_,c69.code,Tryd.func69,rfl,by kernel_rfl,rfl,by kernel_rfl,by kernel_rfl⟩
/- raddle/stitch.forms -/
def c70:n9:=⟨.seq (.ops [O1 2 (.alloc 110 [(1,(.string ⟨#[]⟩)),(4,(.int .i64 0)),(1,(.bool false)),(2,(.int .i64 0))]),O1 3 (.mov (.const (.bool false)))] [0,2]) (.seq (.ops [O1 8 (.build [(.int .i64 0),(.int .i64 0)] [(0,1,(.const (.int .i64 2))),(1,1,(.const (.int .i64 4)))]),O1 9 (.build [(.int .i64 0),(.int .i64 0)] [(0,1,(.const (.int .i64 1))),(1,1,(.const (.int .i64 6)))]),O1 4 (.alloc 108 [(2,(.int .i64 0))]),O1 5 (.alloc 108 [(2,(.int .i64 0))]),⟨none,none,.store 2 (.tmp 4) (.tmp 8)⟩,⟨none,none,.store 2 (.tmp 5) (.tmp 9)⟩] [0,2,4,5]) (.seq (.ops [O1 10 (.build [(.int .i64 0),(.int .i64 0)] [(0,1,(.const (.int .i64 1))),(1,1,(.const (.int .i64 200)))]),O1 6 (.alloc 108 [(2,(.int .i64 0))]),⟨none,none,.store 2 (.tmp 6) (.tmp 10)⟩] [0,2,4,5,6]) (.seq (.ops [O1 11 (.build [(.int .i64 0),(.int .i64 0)] []),O1 12 (.build [(.int .i64 0),(.int .i64 0)] []),O1 13 (.build [(.string ⟨#[]⟩),(.int .i64 0),(.int .i64 0),(.int .i64 0),(.int .i64 0),(.bool false),(.int .i64 0),(.int .i64 0)] [(0,1,(.const (.string ⟨#[]⟩))),(1,2,(.tmp 11)),(3,2,(.tmp 12)),(5,1,(.const (.bool true))),(6,1,(.const (.int .i64 1))),(7,1,(.const (.int .i64 1)))]),O1 14 (.build [(.int .i64 0),(.int .i64 0)] []),O1 15 (.build [(.int .i64 0),(.int .i64 0)] []),O1 16 (.build [(.string ⟨#[]⟩),(.int .i64 0),(.int .i64 0),(.int .i64 0),(.int .i64 0),(.bool false),(.int .i64 0),(.int .i64 0)] [(0,1,(.const (.string ⟨#[]⟩))),(1,2,(.tmp 14)),(3,2,(.tmp 15)),(5,1,(.const (.bool false))),(6,1,(.const (.int .i64 0))),(7,1,(.const (.int .i64 1)))]),O1 17 (.load (some 2) (.tmp 4)),O1 18 (.build [(.int .i64 0),(.int .i64 0)] []),O1 19 (.build [(.string ⟨#[]⟩),(.int .i64 0),(.int .i64 0),(.int .i64 0),(.int .i64 0),(.bool false),(.int .i64 0),(.int .i64 0)] [(0,1,(.const (.string ⟨#[102]⟩))),(1,2,(.tmp 17)),(3,2,(.tmp 18)),(5,1,(.const (.bool true))),(6,1,(.const (.int .i64 2))),(7,1,(.const (.int .i64 1)))]),O1 20 (.load (some 2) (.tmp 4)),O1 21 (.build [(.int .i64 0),(.int .i64 0)] []),O1 22 (.build [(.string ⟨#[]⟩),(.int .i64 0),(.int .i64 0),(.int .i64 0),(.int .i64 0),(.bool false),(.int .i64 0),(.int .i64 0)] [(0,1,(.const (.string ⟨#[108]⟩))),(1,2,(.tmp 20)),(3,2,(.tmp 21)),(5,1,(.const (.bool true))),(6,1,(.const (.int .i64 2))),(7,1,(.const (.int .i64 1)))]),O1 23 (.load (some 2) (.tmp 4)),O1 24 (.build [(.int .i64 0),(.int .i64 0)] []),O1 25 (.build [(.string ⟨#[]⟩),(.int .i64 0),(.int .i64 0),(.int .i64 0),(.int .i64 0),(.bool false),(.int .i64 0),(.int .i64 0)] [(0,1,(.const (.string ⟨#[109]⟩))),(1,2,(.tmp 23)),(3,2,(.tmp 24)),(5,1,(.const (.bool true))),(6,1,(.const (.int .i64 1))),(7,1,(.const (.int .i64 2)))]),O1 26 (.load (some 2) (.tmp 5)),O1 27 (.load (some 2) (.tmp 5)),O1 28 (.build [(.string ⟨#[]⟩),(.int .i64 0),(.int .i64 0),(.int .i64 0),(.int .i64 0),(.bool false),(.int .i64 0),(.int .i64 0)] [(0,1,(.const (.string ⟨#[120]⟩))),(1,2,(.tmp 26)),(3,2,(.tmp 27)),(5,1,(.const (.bool true))),(6,1,(.const (.int .i64 3))),(7,1,(.const (.int .i64 3)))]),O1 29 (.load (some 2) (.tmp 5)),
  O1 30 (.load (some 2) (.tmp 5)),O1 31 (.build [(.string ⟨#[]⟩),(.int .i64 0),(.int .i64 0),(.int .i64 0),(.int .i64 0),(.bool false),(.int .i64 0),(.int .i64 0)] [(0,1,(.const (.string ⟨#[121]⟩))),(1,2,(.tmp 29)),(3,2,(.tmp 30)),(5,1,(.const (.bool true))),(6,1,(.const (.int .i64 3))),(7,1,(.const (.int .i64 3)))]),O1 32 (.build [(.int .i64 0),(.int .i64 0)] []),O1 33 (.build [(.int .i64 0),(.int .i64 0)] []),O1 34 (.build [(.string ⟨#[]⟩),(.int .i64 0),(.int .i64 0),(.int .i64 0),(.int .i64 0),(.bool false),(.int .i64 0),(.int .i64 0)] [(0,1,(.const (.string ⟨#[115]⟩))),(1,2,(.tmp 32)),(3,2,(.tmp 33)),(5,1,(.const (.bool true))),(6,1,(.const (.int .i64 1))),(7,1,(.const (.int .i64 1)))]),O1 35 (.load (some 2) (.tmp 6)),O1 36 (.build [(.int .i64 0),(.int .i64 0)] []),O1 37 (.build [(.string ⟨#[]⟩),(.int .i64 0),(.int .i64 0),(.int .i64 0),(.int .i64 0),(.bool false),(.int .i64 0),(.int .i64 0)] [(0,1,(.const (.string ⟨#[]⟩))),(1,2,(.tmp 35)),(3,2,(.tmp 36)),(5,1,(.const (.bool false))),(6,1,(.const (.int .i64 0))),(7,1,(.const (.int .i64 2)))]),O1 38 (.load (some 2) (.tmp 6)),O1 39 (.build [(.int .i64 0),(.int .i64 0)] []),O1 40 (.build [(.string ⟨#[]⟩),(.int .i64 0),(.int .i64 0),(.int .i64 0),(.int .i64 0),(.bool false),(.int .i64 0),(.int .i64 0)] [(0,1,(.const (.string ⟨#[111]⟩))),(1,2,(.tmp 38)),(3,2,(.tmp 39)),(5,1,(.const (.bool true))),(6,1,(.const (.int .i64 2))),(7,1,(.const (.int .i64 0)))]),O1 41 (.mkRow 110 8 10 [(.string ⟨#[]⟩),(.int .i64 0),(.int .i64 0),(.int .i64 0),(.int .i64 0),(.bool false),(.int .i64 0),(.int .i64 0)] [(0,8,(.tmp 13)),(8,8,(.tmp 16)),(16,8,(.tmp 19)),(24,8,(.tmp 22)),(32,8,(.tmp 25)),(40,8,(.tmp 28)),(48,8,(.tmp 31)),(56,8,(.tmp 34)),(64,8,(.tmp 37)),(72,8,(.tmp 40))]),O1 7 (.mov (.tmp 41))] [0,2,7]) (.seq (.seq (.ops [O1 42 (.mov (.tmp 0)),O1 43 (.bin .lss (.tmp 42) (.const (.int .u8 1))),O1 44 (.mov (.tmp 43)),⟨some 45,some (44,false),.mov (.tmp 0)⟩,⟨some 46,some (44,false),.convI .i64 (.tmp 45)⟩,⟨some 47,some (44,false),.mov (.tmp 7)⟩,⟨some 48,some (44,false),.len false (.tmp 47)⟩,⟨some 49,some (44,false),.bin .gtr (.tmp 46) (.tmp 48)⟩,O1 50 (.pick (.tmp 44) (.const (.bool true)) (.tmp 49))] [0,2,7,50]) (.cond (.tmp 50) (.seq (.ops [O1 51 (.build [(.string ⟨#[]⟩),(.int .i64 0),(.int .i64 0),(.int .i64 0),(.int .i64 0),(.bool false),(.int .i64 0),(.int .i64 0)] []),⟨none,none,.store 8 (.tmp 2) (.tmp 51)⟩,O1 3 (.mov (.const (.bool false)))] [2,3]) (.ret)) (.skip))) (.seq (.ops [O1 52 (.mov (.tmp 7)),O1 53 (.mov (.tmp 0)),O1 54 (.bin .sub (.tmp 53) (.const (.int .u8 1))),O1 55 (.idxS 8 (.tmp 52) (.tmp 54)),O1 56 (.load (some 8) (.tmp 55)),⟨none,none,.store 8 (.tmp 2) (.tmp 56)⟩,O1 3 (.mov (.const (.bool true)))] [2,3]) (.ret)))))),57,[(2,(some (some 8))),(3,none)],true⟩
theorem cC8:n7 Tryd.prog 70 c70:= .code ⟨Tryd.f70,_,c70.code,Tryd.func70,rfl,by kernel_rfl,rfl,by kernel_rfl,by kernel_rfl⟩
/- raddle/stitch.within -/
def c71:n9:=⟨.seq (.ops [O1 3 (.box 108 (.tmp 1)),O1 4 (.mov (.const (.bool false)))] [0,3]) (.seq (.ops [O1 5 (.mov (.tmp 0)),O1 6 (.idxA 2 1 (.tmp 3) (.const (.int .i64 0))),O1 7 (.load none (.tmp 6)),O1 8 (.bin .geq (.tmp 5) (.tmp 7)),O1 9 (.mov (.tmp 8)),⟨some 10,some (9,true),.mov (.tmp 0)⟩,⟨some 11,some (9,true),.idxA 2 1 (.tmp 3) (.const (.int .i64 1))⟩,⟨some 12,some (9,true),.load none (.tmp 11)⟩,⟨some 13,some (9,true),.bin .leq (.tmp 10) (.tmp 12)⟩,O1 14 (.pick (.tmp 9) (.tmp 13) (.const (.bool false))),O1 4 (.mov (.tmp 14))] [4]) (.ret)),15,[(4,none)],true⟩
theorem cC9:n7 Tryd.prog 71 c71:= .code ⟨Tryd.f71,_,c71.code,Tryd.func71,rfl,by kernel_rfl,rfl,by kernel_rfl,by kernel_rfl⟩
/- raddle/stitch.loops -/
def c72:n9:=⟨.seq (.ops [O1 2 (.box 48 (.tmp 0)),O1 4 (.mov (.const (.int .i64 0)))] [1,2]) (.seq (.ops [O1 5 (.fldA 2 (.tmp 2)),O1 6 (.load none (.tmp 5)),O1 7 (.fldA 2 (.tmp 2)),O1 8 (.load none (.tmp 7)),O1 9 (.fldA 3 (.tmp 2)),O1 10 (.load none (.tmp 9)),O1 11 (.bin .add (.tmp 8) (.tmp 10)),O1 12 (.build [(.int .i64 0),(.int .i64 0),(.int .i64 0),(.int .i64 0)] [(0,1,(.const (.int .i64 0))),(1,1,(.const (.int .i64 1))),(2,1,(.tmp 6)),(3,1,(.tmp 11))]),O1 13 (.mov (.tmp 1)),O1 14 (.idxV 4 1 none (.tmp 12) (.tmp 13)),O1 4 (.mov (.tmp 14))] [4]) (.ret)),15,[(4,none)],true⟩
theorem cD0:n7 Tryd.prog 72 c72:= .code ⟨Tryd.f72,_,c72.code,Tryd.func72,rfl,by kernel_rfl,rfl,by kernel_rfl,by kernel_rfl⟩
/- raddle/raddleref25.Used -/
def c75:n9:=⟨.seq (.ops [O1 1 (.box 48 (.tmp 0)),O1 2 (.mov (.const (.int .i64 0)))] [1]) (.seq (.seq (.ops [O1 3 (.fldA 0 (.tmp 1)),O1 4 (.load none (.tmp 3))] [1,4]) (.block 0 (.seq (.seq (.ops [O1 6 (.bin .eql (.tmp 4) (.const (.int .u8 2))),O1 5 (.mov (.tmp 6))] [1,4,5]) (.cond (.tmp 5) (.skip) (.ops [O1 7 (.bin .eql (.tmp 4) (.const (.int .u8 9))),O1 5 (.mov (.tmp 7))] [1,4,5]))) (.cond (.tmp 5) (.seq (.ops [O1 2 (.mov (.const (.int .i64 0)))] [2]) (.ret)) (.seq (.seq (.ops [O1 9 (.bin .eql (.tmp 4) (.const (.int .u8 3))),O1 8 (.mov (.tmp 9))] [1,4,8]) (.cond (.tmp 8) (.skip) (.seq (.ops [O1 10 (.bin .eql (.tmp 4) (.const (.int .u8 4))),O1 8 (.mov (.tmp 10))] [1,4,8]) (.cond (.tmp 8) (.skip) (.ops [O1 11 (.bin .eql (.tmp 4) (.const (.int .u8 10))),O1 8 (.mov (.tmp 11))] [1,4,8]))))) (.cond (.tmp 8) (.seq (.ops [O1 12 (.fldA 2 (.tmp 1)),O1 13 (.load none (.tmp 12)),O1 2 (.mov (.tmp 13))] [2]) (.ret)) (.seq (.seq (.ops [O1 15 (.bin .eql (.tmp 4) (.const (.int .u8 6))),O1 14 (.mov (.tmp 15))] [1,4,14]) (.cond (.tmp 14) (.skip) (.ops [O1 16 (.bin .eql (.tmp 4) (.const (.int .u8 7))),O1 14 (.mov (.tmp 16))] [1,14]))) (.cond (.tmp 14) (.seq (.ops [O1 17 (.fldA 2 (.tmp 1)),O1 18 (.load none (.tmp 17)),O1 19 (.fldA 3 (.tmp 1)),O1 20 (.load none (.tmp 19)),O1 21 (.bin .add (.tmp 18) (.tmp 20)),O1 2 (.mov (.tmp 21))] [2]) (.ret)) (.skip))))))))) (.seq (.ops [O1 2 (.mov (.const (.int .i64 1)))] [2]) (.ret))),22,[(2,none)],true⟩
theorem cD1:n7 Tryd.prog 75 c75:= .code ⟨Tryd.f75,_,c75.code,Tryd.func75,rfl,by kernel_rfl,rfl,by kernel_rfl,by kernel_rfl⟩
/- raddle/raddleref25.Gives -/
def c76:n9:=⟨.seq (.ops [O1 1 (.box 48 (.tmp 0)),O1 2 (.mov (.const (.int .i64 0)))] [1]) (.seq (.seq (.ops [O1 3 (.fldA 0 (.tmp 1)),O1 4 (.load none (.tmp 3))] [1,4]) (.block 0 (.seq (.ops [O1 6 (.bin .eql (.tmp 4) (.const (.int .u8 10))),O1 5 (.mov (.tmp 6))] [1,4,5]) (.cond (.tmp 5) (.seq (.ops [O1 2 (.mov (.const (.int .i64 0)))] [2]) (.ret)) (.seq (.seq (.ops [O1 8 (.bin .eql (.tmp 4) (.const (.int .u8 5))),O1 7 (.mov (.tmp 8))] [1,4,7]) (.cond (.tmp 7) (.skip) (.ops [O1 9 (.bin .eql (.tmp 4) (.const (.int .u8 9))),O1 7 (.mov (.tmp 9))] [1,4,7]))) (.cond (.tmp 7) (.seq (.ops [O1 10 (.fldA 2 (.tmp 1)),O1 11 (.load none (.tmp 10)),O1 2 (.mov (.tmp 11))] [2]) (.ret)) (.seq (.seq (.ops [O1 13 (.bin .eql (.tmp 4) (.const (.int .u8 6))),O1 12 (.mov (.tmp 13))] [1,4,12]) (.cond (.tmp 12) (.skip) (.ops [O1 14 (.bin .eql (.tmp 4) (.const (.int .u8 7))),O1 12 (.mov (.tmp 14))] [1,12]))) (.cond (.tmp 12) (.seq (.ops [O1 15 (.fldA 2 (.tmp 1)),O1 16 (.load none (.tmp 15)),O1 17 (.fldA 3 (.tmp 1)),O1 18 (.load none (.tmp 17)),O1 19 (.bin .add (.tmp 16) (.tmp 18)),O1 2 (.mov (.tmp 19))] [2]) (.ret)) (.skip))))))))) (.seq (.ops [O1 2 (.mov (.const (.int .i64 1)))] [2]) (.ret))),20,[(2,none)],true⟩
theorem cD2:n7 Tryd.prog 76 c76:= .code ⟨Tryd.f76,_,c76.code,Tryd.func76,rfl,by kernel_rfl,rfl,by kernel_rfl,by kernel_rfl⟩
/- raddle/raddleref41.side -/
def c77:n9:=⟨.seq (.ops [O1 1 (.box 48 (.tmp 0)),O1 2 (.mov (.const (.string ⟨#[]⟩)))] [1]) (.seq (.seq (.ops [O1 3 (.fldA 1 (.tmp 1)),O1 4 (.load none (.tmp 3))] [4]) (.cond (.tmp 4) (.seq (.ops [O1 2 (.mov (.const (.string ⟨#[112,117,114,108]⟩)))] [2]) (.ret)) (.skip))) (.seq (.ops [O1 2 (.mov (.const (.string ⟨#[107,110,105,116]⟩)))] [2]) (.ret))),5,[(2,none)],true⟩
theorem cD3:n7 Tryd.prog 77 c77:= .code ⟨Tryd.f77,_,c77.code,Tryd.func77,rfl,by kernel_rfl,rfl,by kernel_rfl,by kernel_rfl⟩
/- raddle/raddleref41.base -/
def c78:n9:=⟨.seq (.ops [O1 1 (.box 48 (.tmp 0)),O1 2 (.mov (.const (.string ⟨#[]⟩)))] [1]) (.seq (.draw [O1 5 (.fldA 2 (.tmp 1)),O1 6 (.load none (.tmp 5)),O1 7 (.mm true (.tmp 6) (.const (.int .i64 0))),O1 8 (.callF 64 [.tmp 7]),O1 9 (.fldA 3 (.tmp 1)),O1 10 (.load none (.tmp 9)),O1 11 (.mm true (.tmp 10) (.const (.int .i64 0)))] [O1 12 (.callF 64 [.tmp 11]),O1 3 (.mov (.tmp 8)),O1 4 (.mov (.tmp 12))] [[],[],[],[],[false,false,false,false],[true,false,false,false,false],[true,true,false,false,false,false]] [1,3,4]) (.seq (.seq (.ops [O1 13 (.fldA 0 (.tmp 1)),O1 14 (.load none (.tmp 13))] [1,3,4,14]) (.block 0 (.seq (.ops [O1 16 (.bin .eql (.tmp 14) (.const (.int .u8 2))),O1 15 (.mov (.tmp 16))] [1,3,4,14,15]) (.cond (.tmp 15) (.seq (.ops [O1 2 (.mov (.const (.string ⟨#[121,97,114,110,32,111,118,101,114]⟩)))] [2]) (.ret)) (.seq (.ops [O1 18 (.bin .eql (.tmp 14) (.const (.int .u8 3))),O1 17 (.mov (.tmp 18))] [1,3,4,14,17]) (.cond (.tmp 17) (.seq (.ops [O1 19 (.load (some 4) (.tmp 1)),O1 20 (.callF 77 [.tmp 19]),O1 21 (.bin .add (.tmp 20) (.const (.string ⟨#[32]⟩))),O1 22 (.mov (.tmp 3)),O1 23 (.bin .add (.tmp 21) (.tmp 22)),O1 24 (.bin .add (.tmp 23) (.const (.string ⟨#[32,116,111,103,101,116,104,101,114,32,40,102,105,114,115,116,32,111,110,32,116,111,112,41]⟩))),O1 2 (.mov (.tmp 24))] [2]) (.ret)) (.seq (.ops [O1 26 (.bin .eql (.tmp 14) (.const (.int .u8 4))),O1 25 (.mov (.tmp 26))] [1,3,4,14,25]) (.cond (.tmp 25) (.seq (.ops [O1 27 (.load (some 4) (.tmp 1)),O1 28 (.callF 77 [.tmp 27]),O1 29 (.bin .add (.tmp 28) (.const (.string ⟨#[32]⟩))),O1 30 (.mov (.tmp 3)),O1 31 (.bin .add (.tmp 29) (.tmp 30)),O1 32 (.bin .add (.tmp 31) (.const (.string ⟨#[32,116,111,103,101,116,104,101,114]⟩))),O1 2 (.mov (.tmp 32))] [2]) (.ret)) (.seq (.ops [O1 34 (.bin .eql (.tmp 14) (.const (.int .u8 5))),O1 33 (.mov (.tmp 34))] [1,3,4,14,33]) (.cond (.tmp 33) (.seq (.ops [O1 35 (.mov (.tmp 3)),O1 36 (.bin .add (.const (.string ⟨#[109,97,107,101,32]⟩)) (.tmp 35)),O1 37 (.bin .add (.tmp 36) (.const (.string ⟨#[32,111,117,116,32,111,102,32,49]⟩))),O1 38 (.load (some 4) (.tmp 1)),O1 39 (.callF 94 [.tmp 38]),O1 40 (.bin .add (.tmp 37) (.tmp 39)),O1 2 (.mov (.tmp 40))] [2]) (.ret)) (.seq (.ops [O1 42 (.bin .eql (.tmp 14) (.const (.int .u8 6))),O1 41 (.mov (.tmp 42))] [1,3,4,14,41]) (.cond (.tmp 41) (.seq (.ops [O1 43 (.mov (.tmp 3)),O1 44 (.bin .add (.const (.string ⟨#[99,114,111,115,115,32]⟩)) (.tmp 43)),O1 45 (.bin .add (.tmp 44) (.const (.string ⟨#[32,105,110,32,102,114,111,110,116,32,111,102,32]⟩))),O1 46 (.mov (.tmp 4)),O1 47 (.bin .add (.tmp 45) (.tmp 46)),O1 48 (.load (some 4) (.tmp 1)),O1 49 (.callF 94 [.tmp 48]),O1 50 (.bin .add (.tmp 47) (.tmp 49)),O1 2 (.mov (.tmp 50))] [2]) (.ret)) (.seq (.ops [O1 52 (.bin .eql (.tmp 14) (.const (.int .u8 7))),O1 51 (.mov (.tmp 52))] [1,3,4,14,51]) (.cond (.tmp 51) (.seq (.ops [O1 53 (.mov (.tmp 3)),O1 54 (.bin .add (.const (.string ⟨#[99,114,111,115,115,32]⟩)) (.tmp 53)),O1 55 (.bin .add (.tmp 54) (.const (.string ⟨#[32,98,101,104,105,110,100,32]⟩))),
  O1 56 (.mov (.tmp 4)),O1 57 (.bin .add (.tmp 55) (.tmp 56)),O1 58 (.load (some 4) (.tmp 1)),O1 59 (.callF 94 [.tmp 58]),O1 60 (.bin .add (.tmp 57) (.tmp 59)),O1 2 (.mov (.tmp 60))] [2]) (.ret)) (.seq (.ops [O1 62 (.bin .eql (.tmp 14) (.const (.int .u8 9))),O1 61 (.mov (.tmp 62))] [1,3,61]) (.cond (.tmp 61) (.seq (.ops [O1 63 (.mov (.tmp 3)),O1 64 (.bin .add (.const (.string ⟨#[99,97,115,116,32,111,110,32]⟩)) (.tmp 63)),O1 2 (.mov (.tmp 64))] [2]) (.ret)) (.skip))))))))))))))))) (.seq (.ops [O1 65 (.mov (.tmp 3)),O1 66 (.bin .add (.const (.string ⟨#[98,105,110,100,32,111,102,102,32]⟩)) (.tmp 65)),O1 67 (.load (some 4) (.tmp 1)),O1 68 (.callF 94 [.tmp 67]),O1 69 (.bin .add (.tmp 66) (.tmp 68)),O1 2 (.mov (.tmp 69))] [2]) (.ret)))),70,[(2,none)],true⟩
theorem cD4:n7 Tryd.prog 78 c78:= .code ⟨Tryd.f78,_,c78.code,Tryd.func78,rfl,by kernel_rfl,rfl,by kernel_rfl,by kernel_rfl⟩
/- strings.explode -/
def bQ4:AC:= .seq (.seq (.ops [O1 22 (.mov (.tmp 7)),O1 23 (.mov (.tmp 1)),O1 24 (.bin .sub (.tmp 23) (.const (.int .i64 1))),O1 25 (.bin .lss (.tmp 22) (.tmp 24))] [0,1,6,7,25]) (.cond (.tmp 25) (.skip) (.exit 0))) (.seq (.block 1 (.seq (.ops [O1 29 (.mov (.tmp 0)),O1 30 (.callF 92 [.tmp 29]),O1 28 (.mov (.tmp 30)),O1 31 (.ext (.tmp 28) 0),O1 32 (.ext (.tmp 28) 1),O1 8 (.mov (.tmp 31)),O1 9 (.mov (.tmp 32))] [0,1,6,7,9]) (.seq (.ops [O1 33 (.mov (.tmp 6)),O1 34 (.mov (.tmp 7)),O1 35 (.mov (.tmp 0)),O1 36 (.mov (.tmp 9)),O1 37 (.slcS (.tmp 35) none (some (.tmp 36))),O1 38 (.idxS 1 (.tmp 33) (.tmp 34)),⟨none,none,.store 1 (.tmp 38) (.tmp 37)⟩] [0,1,6,7,9]) (.ops [O1 39 (.mov (.tmp 0)),O1 40 (.mov (.tmp 9)),O1 41 (.slcS (.tmp 39) (some (.tmp 40)) none),O1 0 (.mov (.tmp 41))] [0,1,6,7])))) (.ops [O1 26 (.mov (.tmp 7)),O1 27 (.bin .add (.tmp 26) (.const (.int .i64 1))),O1 7 (.mov (.tmp 27))] [0,1,6,7]))
def c79:n9:=⟨.seq (.ops [O1 4 (.mov (.const (.slice none 0 0)))] [0,1]) (.seq (.ops [O1 10 (.mov (.tmp 0)),O1 11 (.callF 95 [.tmp 10]),O1 5 (.mov (.tmp 11))] [0,1,5]) (.seq (.seq (.ops [O1 12 (.mov (.tmp 1)),O1 13 (.bin .lss (.tmp 12) (.const (.int .i64 0))),O1 14 (.mov (.tmp 13)),⟨some 15,some (14,false),.mov (.tmp 1)⟩,⟨some 16,some (14,false),.mov (.tmp 5)⟩,⟨some 17,some (14,false),.bin .gtr (.tmp 15) (.tmp 16)⟩,O1 18 (.pick (.tmp 14) (.const (.bool true)) (.tmp 17))] [0,1,5,18]) (.cond (.tmp 18) (.ops [O1 19 (.mov (.tmp 5)),O1 1 (.mov (.tmp 19))] [0,1]) (.skip))) (.seq (.ops [O1 20 (.mov (.tmp 1)),O1 21 (.mkSlice 9 1 16 [(.string ⟨#[]⟩)] (.tmp 20) (.tmp 20)),O1 6 (.mov (.tmp 21))] [0,1,6]) (.seq (.seq (.ops [O1 7 (.mov (.const (.int .i64 0)))] [0,1,6,7]) (.block 0 (.loop [0,1,6,7] bQ4))) (.seq (.seq (.ops [O1 42 (.mov (.tmp 1)),O1 43 (.bin .gtr (.tmp 42) (.const (.int .i64 0)))] [0,1,6,43]) (.cond (.tmp 43) (.ops [O1 44 (.mov (.tmp 6)),O1 45 (.mov (.tmp 1)),O1 46 (.bin .sub (.tmp 45) (.const (.int .i64 1))),O1 47 (.mov (.tmp 0)),O1 48 (.idxS 1 (.tmp 44) (.tmp 46)),⟨none,none,.store 1 (.tmp 48) (.tmp 47)⟩] [6]) (.skip))) (.seq (.ops [O1 49 (.mov (.tmp 6)),O1 4 (.mov (.tmp 49))] [4]) (.ret))))))),50,[(4,none)],true⟩
theorem cD5:n7 Tryd.prog 79 c79:= .code ⟨Tryd.f79,_,c79.code,Tryd.func79,rfl,by kernel_rfl,rfl,by kernel_rfl,by kernel_rfl⟩
/- raddle/r4.side -/
def c82:n9:=⟨.seq (.ops [O1 2 (.mov (.const (.string ⟨#[]⟩)))] [0]) (.seq (.seq (.ops [O1 3 (.mov (.tmp 0))] [3]) (.cond (.tmp 3) (.seq (.ops [O1 2 (.mov (.const (.string ⟨#[112,117,114,108]⟩)))] [2]) (.ret)) (.skip))) (.seq (.ops [O1 2 (.mov (.const (.string ⟨#[107,110,105,116]⟩)))] [2]) (.ret))),4,[(2,none)],true⟩
theorem cD6:n7 Tryd.prog 82 c82:= .code ⟨Tryd.f82,_,c82.code,Tryd.func82,rfl,by kernel_rfl,rfl,by kernel_rfl,by kernel_rfl⟩
/- internal/stringslite.TrimPrefix -/
def c83:n9:=⟨.seq (.ops [O1 4 (.mov (.const (.string ⟨#[]⟩)))] [0,1]) (.seq (.seq (.ops [O1 5 (.mov (.tmp 0)),O1 6 (.mov (.tmp 1)),O1 7 (.callF 88 [(.tmp 5),(.tmp 6)])] [0,1,7]) (.cond (.tmp 7) (.seq (.ops [O1 8 (.mov (.tmp 0)),O1 9 (.mov (.tmp 1)),O1 10 (.len true (.tmp 9)),O1 11 (.slcS (.tmp 8) (some (.tmp 10)) none),O1 4 (.mov (.tmp 11))] [4]) (.ret)) (.skip))) (.seq (.ops [O1 12 (.mov (.tmp 0)),O1 4 (.mov (.tmp 12))] [4]) (.ret))),13,[(4,none)],true⟩
theorem cD7:n7 Tryd.prog 83 c83:= .code ⟨Tryd.f83,_,c83.code,Tryd.func83,rfl,by kernel_rfl,rfl,by kernel_rfl,by kernel_rfl⟩
/- raddle/raddleref25.Cut -/
def ID:AC:= .seq (.seq (.ops [O1 8 (.mov (.tmp 7)),O1 9 (.mov (.tmp 0)),O1 10 (.len true (.tmp 9)),O1 11 (.bin .leq (.tmp 8) (.tmp 10))] [0,1,5,6,7,11]) (.cond (.tmp 11) (.skip) (.exit 0))) (.seq (.block 1 (.seq (.ops [O1 14 (.mov (.tmp 7)),O1 15 (.mov (.tmp 0)),O1 16 (.len true (.tmp 15)),O1 17 (.bin .eql (.tmp 14) (.tmp 16)),O1 18 (.mov (.tmp 17)),⟨some 19,some (18,false),.mov (.tmp 0)⟩,⟨some 20,some (18,false),.mov (.tmp 7)⟩,⟨some 21,some (18,false),.idxStr (.tmp 19) (.tmp 20)⟩,⟨some 22,some (18,false),.mov (.tmp 1)⟩,⟨some 23,some (18,false),.bin .eql (.tmp 21) (.tmp 22)⟩,O1 24 (.pick (.tmp 18) (.const (.bool true)) (.tmp 23))] [0,1,5,6,7,24]) (.cond (.tmp 24) (.seq (.ops [O1 25 (.mov (.tmp 5)),O1 26 (.mov (.tmp 0)),O1 27 (.mov (.tmp 6)),O1 28 (.mov (.tmp 7)),O1 29 (.slcS (.tmp 26) (some (.tmp 27)) (some (.tmp 28))),O1 30 (.mkRow 9 1 1 [(.string ⟨#[]⟩)] [(0,1,(.tmp 29))]),O1 31 (.app 9 1 16 (.tmp 25) (.tmp 30)),O1 5 (.mov (.tmp 31))] [0,1,5,7]) (.ops [O1 32 (.mov (.tmp 7)),O1 33 (.bin .add (.tmp 32) (.const (.int .i64 1))),O1 6 (.mov (.tmp 33))] [0,1,5,6,7])) (.skip)))) (.ops [O1 12 (.mov (.tmp 7)),O1 13 (.bin .add (.tmp 12) (.const (.int .i64 1))),O1 7 (.mov (.tmp 13))] [0,1,5,6,7]))
def c84:n9:=⟨.seq (.ops [O1 4 (.mov (.const (.slice none 0 0)))] [0,1]) (.seq (.ops [O1 5 (.mov (.const (.slice none 0 0)))] [0,1,5]) (.seq (.ops [O1 6 (.mov (.const (.int .i64 0)))] [0,1,5,6]) (.seq (.seq (.ops [O1 7 (.mov (.const (.int .i64 0)))] [0,1,5,6,7]) (.block 0 (.loop [0,1,5,6,7] ID))) (.seq (.ops [O1 34 (.mov (.tmp 5)),O1 4 (.mov (.tmp 34))] [4]) (.ret))))),35,[(4,none)],true⟩
theorem cD8:n7 Tryd.prog 84 c84:= .code ⟨Tryd.f84,_,c84.code,Tryd.func84,rfl,by kernel_rfl,rfl,by kernel_rfl,by kernel_rfl⟩
/- raddle/raddleref25.Number -/
def SE:AC:= .seq (.seq (.ops [O1 24 (.mov (.tmp 5)),O1 25 (.mov (.tmp 0)),O1 26 (.len true (.tmp 25)),O1 27 (.bin .lss (.tmp 24) (.tmp 26))] [0,4,5,27]) (.cond (.tmp 27) (.skip) (.exit 0))) (.seq (.block 1 (.seq (.seq (.ops [O1 30 (.mov (.tmp 0)),O1 31 (.mov (.tmp 5)),O1 32 (.idxStr (.tmp 30) (.tmp 31)),O1 33 (.bin .lss (.tmp 32) (.const (.int .u8 48))),O1 34 (.mov (.tmp 33)),⟨some 35,some (34,false),.mov (.tmp 0)⟩,⟨some 36,some (34,false),.mov (.tmp 5)⟩,⟨some 37,some (34,false),.idxStr (.tmp 35) (.tmp 36)⟩,⟨some 38,some (34,false),.bin .gtr (.tmp 37) (.const (.int .u8 57))⟩,O1 39 (.pick (.tmp 34) (.const (.bool true)) (.tmp 38))] [0,4,5,39]) (.cond (.tmp 39) (.seq (.ops [O1 2 (.mov (.const (.int .i64 0))),O1 3 (.mov (.const (.bool false)))] [2,3]) (.ret)) (.skip))) (.ops [O1 40 (.mov (.tmp 4)),O1 41 (.bin .mul (.const (.int .i64 10)) (.tmp 40)),O1 42 (.mov (.tmp 0)),O1 43 (.mov (.tmp 5)),O1 44 (.idxStr (.tmp 42) (.tmp 43)),O1 45 (.bin .sub (.tmp 44) (.const (.int .u8 48))),O1 46 (.convI .i64 (.tmp 45)),O1 47 (.bin .add (.tmp 41) (.tmp 46)),O1 4 (.mov (.tmp 47))] [0,4,5]))) (.ops [O1 28 (.mov (.tmp 5)),O1 29 (.bin .add (.tmp 28) (.const (.int .i64 1))),O1 5 (.mov (.tmp 29))] [0,4,5]))
def c85:n9:=⟨.seq (.ops [O1 2 (.mov (.const (.int .i64 0))),O1 3 (.mov (.const (.bool false)))] [0]) (.seq (.seq (.ops [O1 6 (.mov (.tmp 0)),O1 7 (.len true (.tmp 6)),O1 8 (.bin .eql (.tmp 7) (.const (.int .i64 0))),O1 9 (.mov (.tmp 8)),⟨some 10,some (9,false),.mov (.tmp 0)⟩,⟨some 11,some (9,false),.len true (.tmp 10)⟩,⟨some 12,some (9,false),.bin .gtr (.tmp 11) (.const (.int .i64 4))⟩,O1 13 (.pick (.tmp 9) (.const (.bool true)) (.tmp 12)),O1 14 (.mov (.tmp 13)),⟨some 15,some (14,false),.mov (.tmp 0)⟩,⟨some 16,some (14,false),.len true (.tmp 15)⟩,⟨some 17,some (14,false),.bin .gtr (.tmp 16) (.const (.int .i64 1))⟩,⟨some 18,some (14,false),.mov (.tmp 17)⟩,⟨some 19,some (18,true),.mov (.tmp 0)⟩,⟨some 20,some (18,true),.idxStr (.tmp 19) (.const (.int .i64 0))⟩,⟨some 21,some (18,true),.bin .eql (.tmp 20) (.const (.int .u8 48))⟩,⟨some 22,some (14,false),.pick (.tmp 18) (.tmp 21) (.const (.bool false))⟩,O1 23 (.pick (.tmp 14) (.const (.bool true)) (.tmp 22))] [0,23]) (.cond (.tmp 23) (.seq (.ops [O1 2 (.mov (.const (.int .i64 0))),O1 3 (.mov (.const (.bool false)))] [2,3]) (.ret)) (.skip))) (.seq (.ops [O1 4 (.mov (.const (.int .i64 0)))] [0,4]) (.seq (.seq (.ops [O1 5 (.mov (.const (.int .i64 0)))] [0,4,5]) (.block 0 (.loop [0,4,5] SE))) (.seq (.ops [O1 48 (.mov (.tmp 4)),O1 2 (.mov (.tmp 48)),O1 3 (.mov (.const (.bool true)))] [2,3]) (.ret))))),49,[(2,none),(3,none)],true⟩
theorem cD9:n7 Tryd.prog 85 c85:= .code ⟨Tryd.f85,_,c85.code,Tryd.func85,rfl,by kernel_rfl,rfl,by kernel_rfl,by kernel_rfl⟩
/- internal/stringslite.HasSuffix -/
def c87:n9:=⟨.seq (.ops [O1 4 (.mov (.const (.bool false)))] [0,1]) (.seq (.ops [O1 5 (.mov (.tmp 0)),O1 6 (.len true (.tmp 5)),O1 7 (.mov (.tmp 1)),O1 8 (.len true (.tmp 7)),O1 9 (.bin .geq (.tmp 6) (.tmp 8)),O1 10 (.mov (.tmp 9)),⟨some 11,some (10,true),.mov (.tmp 0)⟩,⟨some 12,some (10,true),.mov (.tmp 0)⟩,⟨some 13,some (10,true),.len true (.tmp 12)⟩,⟨some 14,some (10,true),.mov (.tmp 1)⟩,⟨some 15,some (10,true),.len true (.tmp 14)⟩,⟨some 16,some (10,true),.bin .sub (.tmp 13) (.tmp 15)⟩,⟨some 17,some (10,true),.slcS (.tmp 11) (some (.tmp 16)) none⟩,⟨some 18,some (10,true),.mov (.tmp 1)⟩,⟨some 19,some (10,true),.bin .eql (.tmp 17) (.tmp 18)⟩,O1 20 (.pick (.tmp 10) (.tmp 19) (.const (.bool false))),O1 4 (.mov (.tmp 20))] [4]) (.ret)),21,[(4,none)],true⟩
theorem cE0:n7 Tryd.prog 87 c87:= .code ⟨Tryd.f87,_,c87.code,Tryd.func87,rfl,by kernel_rfl,rfl,by kernel_rfl,by kernel_rfl⟩
/- internal/stringslite.HasPrefix -/
def c88:n9:=⟨.seq (.ops [O1 4 (.mov (.const (.bool false)))] [0,1]) (.seq (.ops [O1 5 (.mov (.tmp 0)),O1 6 (.len true (.tmp 5)),O1 7 (.mov (.tmp 1)),O1 8 (.len true (.tmp 7)),O1 9 (.bin .geq (.tmp 6) (.tmp 8)),O1 10 (.mov (.tmp 9)),⟨some 11,some (10,true),.mov (.tmp 0)⟩,⟨some 12,some (10,true),.mov (.tmp 1)⟩,⟨some 13,some (10,true),.len true (.tmp 12)⟩,⟨some 14,some (10,true),.slcS (.tmp 11) none (some (.tmp 13))⟩,⟨some 15,some (10,true),.mov (.tmp 1)⟩,⟨some 16,some (10,true),.bin .eql (.tmp 14) (.tmp 15)⟩,O1 17 (.pick (.tmp 10) (.tmp 16) (.const (.bool false))),O1 4 (.mov (.tmp 17))] [4]) (.ret)),18,[(4,none)],true⟩
theorem cE1:n7 Tryd.prog 88 c88:= .code ⟨Tryd.f88,_,c88.code,Tryd.func88,rfl,by kernel_rfl,rfl,by kernel_rfl,by kernel_rfl⟩
/- unicode/utf8.DecodeRuneInString -/
def c92:n9:=⟨.seq (.ops [O1 2 (.mov (.const (.int .i32 0))),O1 3 (.mov (.const (.int .i64 0)))] [0]) (.seq (.seq (.ops [O1 4 (.mov (.tmp 0)),O1 5 (.bin .neq (.tmp 4) (.const (.string ⟨#[]⟩))),O1 6 (.mov (.tmp 5)),⟨some 7,some (6,true),.mov (.tmp 0)⟩,⟨some 8,some (6,true),.idxStr (.tmp 7) (.const (.int .i64 0))⟩,⟨some 9,some (6,true),.bin .lss (.tmp 8) (.const (.int .u8 128))⟩,O1 10 (.pick (.tmp 6) (.tmp 9) (.const (.bool false)))] [0,10]) (.cond (.tmp 10) (.seq (.ops [O1 11 (.mov (.tmp 0)),O1 12 (.idxStr (.tmp 11) (.const (.int .i64 0))),O1 13 (.convI .i32 (.tmp 12)),O1 2 (.mov (.tmp 13)),O1 3 (.mov (.const (.int .i64 1)))] [2,3]) (.ret)) (.ops [O1 15 (.mov (.tmp 0)),O1 16 (.callF 104 [.tmp 15]),O1 14 (.mov (.tmp 16)),O1 17 (.ext (.tmp 14) 0),O1 18 (.ext (.tmp 14) 1),O1 2 (.mov (.tmp 17)),O1 3 (.mov (.tmp 18))] [2,3]))) (.ret)),19,[(2,none),(3,none)],true⟩
theorem cE2:n7 Tryd.prog 92 c92:= .code ⟨Tryd.f92,_,c92.code,Tryd.func92,rfl,by kernel_rfl,rfl,by kernel_rfl,by kernel_rfl⟩
/- raddle/raddleref41.wise -/
def c94:n9:=⟨.seq (.ops [O1 1 (.box 48 (.tmp 0)),O1 2 (.mov (.const (.string ⟨#[]⟩)))] [1]) (.seq (.seq (.ops [O1 3 (.fldA 1 (.tmp 1)),O1 4 (.load none (.tmp 3))] [4]) (.cond (.tmp 4) (.seq (.ops [O1 2 (.mov (.const (.string ⟨#[32,112,117,114,108,119,105,115,101]⟩)))] [2]) (.ret)) (.skip))) (.seq (.ops [O1 2 (.mov (.const (.string ⟨#[]⟩)))] [2]) (.ret))),5,[(2,none)],true⟩
theorem cE3:n7 Tryd.prog 94 c94:= .code ⟨Tryd.f94,_,c94.code,Tryd.func94,rfl,by kernel_rfl,rfl,by kernel_rfl,by kernel_rfl⟩
/- unicode/utf8.RuneCountInString -/
def bQ6:AC:= .seq (.ops [O1 5 (.nextS (.tmp 4)),O1 6 (.ext (.tmp 5) 0)] [2,4,6]) (.seq (.cond (.tmp 6) (.skip) (.exit 0)) (.block 1 (.ops [O1 7 (.mov (.tmp 2)),O1 8 (.bin .add (.tmp 7) (.const (.int .i64 1))),O1 2 (.mov (.tmp 8))] [2,4])))
def c95:n9:=⟨.seq (.ops [O1 2 (.mov (.const (.int .i64 0)))] [0,2]) (.seq (.seq (.ops [O1 3 (.mov (.tmp 0)),O1 4 (.rangeS (.tmp 3))] [2,4]) (.block 0 (.loop [2,4] bQ6))) (.seq (.ops [O1 9 (.mov (.tmp 2)),O1 2 (.mov (.tmp 9))] [2]) (.ret))),10,[(2,none)],true⟩
theorem cE4:n7 Tryd.prog 95 c95:= .code ⟨Tryd.f95,_,c95.code,Tryd.func95,rfl,by kernel_rfl,rfl,by kernel_rfl,by kernel_rfl⟩
/- unicode/utf8.decodeRuneInStringSlow -/
def bF2:n9:=⟨.seq (.ops [O1 2 (.mov (.const (.int .i32 0))),O1 3 (.mov (.const (.int .i64 0)))] [0]) (.seq (.ops [O1 13 (.mov (.tmp 0)),O1 14 (.len true (.tmp 13)),O1 4 (.mov (.tmp 14))] [0,4]) (.seq (.seq (.ops [O1 15 (.mov (.tmp 4)),O1 16 (.bin .lss (.tmp 15) (.const (.int .i64 1)))] [0,4,16]) (.cond (.tmp 16) (.seq (.ops [O1 2 (.mov (.const (.int .i32 65533))),O1 3 (.mov (.const (.int .i64 0)))] [2,3]) (.ret)) (.skip))) (.seq (.ops [O1 17 (.mov (.tmp 0)),O1 18 (.idxStr (.tmp 17) (.const (.int .i64 0))),O1 5 (.mov (.tmp 18))] [0,4,5]) (.seq (.ops [O1 19 (.mov (.tmp 5)),O1 20 (.idxA 256 1 (.global 2) (.tmp 19)),O1 21 (.load none (.tmp 20)),O1 6 (.mov (.tmp 21))] [0,4,5,6]) (.seq (.seq (.ops [O1 22 (.mov (.tmp 6)),O1 23 (.bin .geq (.tmp 22) (.const (.int .u8 240)))] [0,4,5,6,23]) (.cond (.tmp 23) (.seq (.ops [O1 24 (.mov (.tmp 6)),O1 25 (.convI .i32 (.tmp 24)),O1 26 (.bin .shl (.tmp 25) (.const (.int .u64 31))),O1 27 (.bin .shr (.tmp 26) (.const (.int .u64 31))),O1 7 (.mov (.tmp 27))] [0,7]) (.seq (.ops [O1 28 (.mov (.tmp 0)),O1 29 (.idxStr (.tmp 28) (.const (.int .i64 0))),O1 30 (.convI .i32 (.tmp 29)),O1 31 (.mov (.tmp 7)),O1 32 (.bin .andNot (.tmp 30) (.tmp 31)),O1 33 (.mov (.tmp 7)),O1 34 (.bin .and (.const (.int .i32 65533)) (.tmp 33)),O1 35 (.bin .or (.tmp 32) (.tmp 34)),O1 2 (.mov (.tmp 35)),O1 3 (.mov (.const (.int .i64 1)))] [2,3]) (.ret))) (.skip))) (.seq (.ops [O1 36 (.mov (.tmp 6)),O1 37 (.bin .and (.tmp 36) (.const (.int .u8 7))),O1 38 (.convI .i64 (.tmp 37)),O1 8 (.mov (.tmp 38))] [0,4,5,6,8]) (.seq (.ops [O1 39 (.mov (.tmp 6)),O1 40 (.bin .shr (.tmp 39) (.const (.int .u64 4))),O1 41 (.idxA 16 2 (.global 3) (.tmp 40)),O1 42 (.load (some 2) (.tmp 41)),O1 9 (.alloc 152 [(2,(.int .u8 0))]),⟨none,none,.store 2 (.tmp 9) (.tmp 42)⟩] [0,4,5,8,9]) (.seq (.seq (.ops [O1 43 (.mov (.tmp 4)),O1 44 (.mov (.tmp 8)),O1 45 (.bin .lss (.tmp 43) (.tmp 44))] [0,5,8,9,45]) (.cond (.tmp 45) (.seq (.ops [O1 2 (.mov (.const (.int .i32 65533))),O1 3 (.mov (.const (.int .i64 1)))] [2,3]) (.ret)) (.skip))) (.seq (.ops [O1 46 (.mov (.tmp 0)),O1 47 (.idxStr (.tmp 46) (.const (.int .i64 1))),O1 10 (.mov (.tmp 47))] [0,5,8,9,10]) (.seq (.seq (.ops [O1 48 (.mov (.tmp 10)),O1 49 (.fldA 0 (.tmp 9)),O1 50 (.load none (.tmp 49)),O1 51 (.bin .lss (.tmp 48) (.tmp 50)),O1 52 (.mov (.tmp 51)),⟨some 53,some (52,false),.fldA 1 (.tmp 9)⟩,⟨some 54,some (52,false),.load none (.tmp 53)⟩,⟨some 55,some (52,false),.mov (.tmp 10)⟩,⟨some 56,some (52,false),.bin .lss (.tmp 54) (.tmp 55)⟩,O1 57 (.pick (.tmp 52) (.const (.bool true)) (.tmp 56))] [0,5,8,10,57]) (.cond (.tmp 57) (.seq (.ops [O1 2 (.mov (.const (.int .i32 65533))),O1 3 (.mov (.const (.int .i64 1)))] [2,3]) (.ret)) (.skip))) (.seq (.seq (.ops [O1 58 (.mov (.tmp 8)),O1 59 (.bin .leq (.tmp 58) (.const (.int .i64 2)))] [0,5,8,10,59]) (.cond (.tmp 59) (.seq (.ops [O1 60 (.mov (.tmp 5)),O1 61 (.bin .and (.tmp 60) (.const (.int .u8 31))),O1 62 (.convI .i32 (.tmp 61)),O1 63 (.bin .shl (.tmp 62) (.const (.int .u64 6))),O1 64 (.mov (.tmp 10)),
  O1 65 (.bin .and (.tmp 64) (.const (.int .u8 63))),O1 66 (.convI .i32 (.tmp 65)),O1 67 (.bin .or (.tmp 63) (.tmp 66)),O1 2 (.mov (.tmp 67)),O1 3 (.mov (.const (.int .i64 2)))] [2,3]) (.ret)) (.skip))) (.seq (.ops [O1 68 (.mov (.tmp 0)),O1 69 (.idxStr (.tmp 68) (.const (.int .i64 2))),O1 11 (.mov (.tmp 69))] [0,5,8,10,11]) (.seq (.seq (.ops [O1 70 (.mov (.tmp 11)),O1 71 (.bin .lss (.tmp 70) (.const (.int .u8 128))),O1 72 (.mov (.tmp 71)),⟨some 73,some (72,false),.mov (.tmp 11)⟩,⟨some 74,some (72,false),.bin .lss (.const (.int .u8 191)) (.tmp 73)⟩,O1 75 (.pick (.tmp 72) (.const (.bool true)) (.tmp 74))] [0,5,8,10,11,75]) (.cond (.tmp 75) (.seq (.ops [O1 2 (.mov (.const (.int .i32 65533))),O1 3 (.mov (.const (.int .i64 1)))] [2,3]) (.ret)) (.skip))) (.seq (.seq (.ops [O1 76 (.mov (.tmp 8)),O1 77 (.bin .leq (.tmp 76) (.const (.int .i64 3)))] [0,5,10,11,77]) (.cond (.tmp 77) (.seq (.ops [O1 78 (.mov (.tmp 5)),O1 79 (.bin .and (.tmp 78) (.const (.int .u8 15))),O1 80 (.convI .i32 (.tmp 79)),O1 81 (.bin .shl (.tmp 80) (.const (.int .u64 12))),O1 82 (.mov (.tmp 10)),O1 83 (.bin .and (.tmp 82) (.const (.int .u8 63))),O1 84 (.convI .i32 (.tmp 83)),O1 85 (.bin .shl (.tmp 84) (.const (.int .u64 6))),O1 86 (.bin .or (.tmp 81) (.tmp 85)),O1 87 (.mov (.tmp 11)),O1 88 (.bin .and (.tmp 87) (.const (.int .u8 63))),O1 89 (.convI .i32 (.tmp 88)),O1 90 (.bin .or (.tmp 86) (.tmp 89)),O1 2 (.mov (.tmp 90)),O1 3 (.mov (.const (.int .i64 3)))] [2,3]) (.ret)) (.skip))) (.seq (.ops [O1 91 (.mov (.tmp 0)),O1 92 (.idxStr (.tmp 91) (.const (.int .i64 3))),O1 12 (.mov (.tmp 92))] [5,10,11,12]) (.seq (.seq (.ops [O1 93 (.mov (.tmp 12)),O1 94 (.bin .lss (.tmp 93) (.const (.int .u8 128))),O1 95 (.mov (.tmp 94)),⟨some 96,some (95,false),.mov (.tmp 12)⟩,⟨some 97,some (95,false),.bin .lss (.const (.int .u8 191)) (.tmp 96)⟩,O1 98 (.pick (.tmp 95) (.const (.bool true)) (.tmp 97))] [5,10,11,12,98]) (.cond (.tmp 98) (.seq (.ops [O1 2 (.mov (.const (.int .i32 65533))),O1 3 (.mov (.const (.int .i64 1)))] [2,3]) (.ret)) (.skip))) (.seq (.ops [O1 99 (.mov (.tmp 5)),O1 100 (.bin .and (.tmp 99) (.const (.int .u8 7))),O1 101 (.convI .i32 (.tmp 100)),O1 102 (.bin .shl (.tmp 101) (.const (.int .u64 18))),O1 103 (.mov (.tmp 10)),O1 104 (.bin .and (.tmp 103) (.const (.int .u8 63))),O1 105 (.convI .i32 (.tmp 104)),O1 106 (.bin .shl (.tmp 105) (.const (.int .u64 12))),O1 107 (.bin .or (.tmp 102) (.tmp 106)),O1 108 (.mov (.tmp 11)),O1 109 (.bin .and (.tmp 108) (.const (.int .u8 63))),O1 110 (.convI .i32 (.tmp 109)),O1 111 (.bin .shl (.tmp 110) (.const (.int .u64 6))),O1 112 (.bin .or (.tmp 107) (.tmp 111)),O1 113 (.mov (.tmp 12)),O1 114 (.bin .and (.tmp 113) (.const (.int .u8 63))),O1 115 (.convI .i32 (.tmp 114)),O1 116 (.bin .or (.tmp 112) (.tmp 115)),O1 2 (.mov (.tmp 116)),O1 3 (.mov (.const (.int .i64 4)))] [2,3]) (.ret)))))))))))))))))),117,[(2,none),(3,none)],true⟩
theorem bR9:n7 Tryd.prog 104 bF2:= .code ⟨Tryd.f104,_,bF2.code,Tryd.func104,rfl,by kernel_rfl,rfl,by kernel_rfl,by kernel_rfl⟩
def fns:FuncId→Option n9
 |4=>some c4
 |9=>some c9
 |10=>some c10
 |11=>some c11
 |12=>some c12
 |13=>some c13
 |14=>some c14
 |15=>some c15
 |16=>some c16
 |17=>some c17
 |18=>some c18
 |19=>some c19
 |27=>some c27
 |28=>some c28
 |29=>some c29
 |30=>some c30
 |31=>some c31
 |32=>some c32
 |33=>some c33
 |34=>some c34
 |36=>some c36
 |37=>some c37
 |38=>some c38
 |39=>some c39
 |40=>some c40
 |41=>some c41
 |47=>some c47
 |48=>some c48
 |49=>some c49
 |50=>some c50
 |51=>some c51
 |53=>some c53
 |54=>some c54
 |55=>some c55
 |56=>some c56
 |57=>some c57
 |58=>some c58
 |59=>some c59
 |60=>some c60
 |61=>some c61
 |62=>some c62
 |64=>some c64
 |65=>some c65
 |66=>some c66
 |69=>some c69
 |70=>some c70
 |71=>some c71
 |72=>some c72
 |75=>some c75
 |76=>some c76
 |77=>some c77
 |78=>some c78
 |79=>some c79
 |82=>some c82
 |83=>some c83
 |84=>some c84
 |85=>some c85
 |87=>some c87
 |88=>some c88
 |92=>some c92
 |94=>some c94
 |95=>some c95
 |104=>some bF2
 |_=>none
theorem bG8:DS Tryd.prog fns:=by
 intro f af h
 unfold fns at h
 split at h
 ·cases h;exact ok4
 ·cases h;exact ok9
 ·cases h;exact bY5
 ·cases h;exact bY6
 ·cases h;exact bY7
 ·cases h;exact bY8
 ·cases h;exact bY9
 ·cases h;exact bZ0
 ·cases h;exact bZ1
 ·cases h;exact bZ2
 ·cases h;exact bZ3
 ·cases h;exact bZ4
 ·cases h;exact bZ5
 ·cases h;exact bZ6
 ·cases h;exact bZ7
 ·cases h;exact bZ8
 ·cases h;exact bZ9
 ·cases h;exact cA0
 ·cases h;exact cA1
 ·cases h;exact cA2
 ·cases h;exact cA3
 ·cases h;exact cA4
 ·cases h;exact cA5
 ·cases h;exact cA6
 ·cases h;exact cA7
 ·cases h;exact cA8
 ·cases h;exact cA9
 ·cases h;exact cB0
 ·cases h;exact cB1
 ·cases h;exact cB2
 ·cases h;exact cB3
 ·cases h;exact cB4
 ·cases h;exact cB5
 ·cases h;exact cB6
 ·cases h;exact cB7
 ·cases h;exact cB8
 ·cases h;exact cB9
 ·cases h;exact cC0
 ·cases h;exact cC1
 ·cases h;exact cC2
 ·cases h;exact cC3
 ·cases h;exact cC4
 ·cases h;exact cC5
 ·cases h;exact cC6
 ·cases h;exact cC7
 ·cases h;exact cC8
 ·cases h;exact cC9
 ·cases h;exact cD0
 ·cases h;exact cD1
 ·cases h;exact cD2
 ·cases h;exact cD3
 ·cases h;exact cD4
 ·cases h;exact cD5
 ·cases h;exact cD6
 ·cases h;exact cD7
 ·cases h;exact cD8
 ·cases h;exact cD9
 ·cases h;exact cE0
 ·cases h;exact cE1
 ·cases h;exact cE2
 ·cases h;exact cE3
 ·cases h;exact cE4
 ·cases h;exact bR9
 ·cases h
end Go.Proofs.YtimmmnanllcfoaaDoor
namespace Go.Proofs
open Go.Shelf
def Tryd.lays156_ren:Go.Shelf.Ren:=⟨fun|156=>52|165=>74|166=>44|169=>46|240=>68|241=>93|276=>91|277=>105|n=>n,fun|31=>62|9=>9|3=>3|4=>4|0=>0|20=>20|72=>83|76=>86|70=>80|37=>81|75=>85|127=>106|164=>126|5=>5|80=>89|n=>n,fun|n=>n⟩
theorem Tryd.lays156:Go.Proofs.Lays.n156 Tryd.prog Tryd.lays156_ren:={
 mixed:=by kernel_rfl
 f156:=Tryd.func52.trans (congrArg some (by kernel_rfl))
 f165:=Tryd.func74.trans (congrArg some (by kernel_rfl))
 f166:=Tryd.func44.trans (congrArg some (by kernel_rfl))
 f169:=Tryd.func46.trans (congrArg some (by kernel_rfl))
 f240:=Tryd.func68.trans (congrArg some (by kernel_rfl))
 f241:=Tryd.func93.trans (congrArg some (by kernel_rfl))
 f276:=Tryd.func91.trans (congrArg some (by kernel_rfl))
 f277:=Tryd.func105.trans (congrArg some (by kernel_rfl))
 t0:=Tryd.underlying0
 a0:=Tryd.isAgg0
 z0:=Tryd.sizeOf0
 v0:=Tryd.zeroValue0
 t3:=Tryd.underlying3
 a3:=Tryd.isAgg3
 z3:=Tryd.sizeOf3
 v3:=Tryd.zeroValue3
 t4:=Tryd.underlying4
 a4:=Tryd.isAgg4
 z4:=Tryd.sizeOf4
 v4:=Tryd.zeroValue4
 t9:=Tryd.underlying9
 a9:=Tryd.isAgg9
 z9:=Tryd.sizeOf9
 v9:=Tryd.zeroValue9
 t20:=Tryd.underlying20
 a20:=Tryd.isAgg20
 z20:=Tryd.sizeOf20
 v20:=Tryd.zeroValue20
 t31:=Tryd.underlying62
 a31:=Tryd.isAgg62
 z31:=Tryd.sizeOf62
 v31:=Tryd.zeroValue62
 t37:=Tryd.underlying81
 a37:=Tryd.isAgg81
 z37:=Tryd.sizeOf81
 v37:=Tryd.zeroValue81
 t70:=Tryd.underlying80
 a70:=Tryd.isAgg80
 z70:=Tryd.sizeOf80
 v70:=Tryd.zeroValue80
 t72:=Tryd.underlying83
 a72:=Tryd.isAgg83
 z72:=Tryd.sizeOf83
 v72:=Tryd.zeroValue83
 t75:=Tryd.underlying85
 a75:=Tryd.isAgg85
 z75:=Tryd.sizeOf85
 v75:=Tryd.zeroValue85
 t76:=Tryd.underlying86
 a76:=Tryd.isAgg86
 z76:=Tryd.sizeOf86
 v76:=Tryd.zeroValue86
 t127:=Tryd.underlying106
 a127:=Tryd.isAgg106
 z127:=Tryd.sizeOf106
 v127:=Tryd.zeroValue106
 t164:=Tryd.underlying126
 a164:=Tryd.isAgg126
 z164:=Tryd.sizeOf126
 v164:=Tryd.zeroValue126}
theorem Tryd.Builder_Extra_156:Builder.Extra Tryd.prog Tryd.lays156_ren:={
 sizeBuilder:=by kernel_rfl
 liesBuilder:=by kernel_rfl
 t5:=Tryd.underlying5
 a5:=Tryd.isAgg5
 z5:=Tryd.sizeOf5
 v5:=Tryd.zeroValue5
 infoByte:=by kernel_rfl
 cellsByte:=by kernel_rfl
 sizeByte:=by kernel_rfl
 neB5:=by decide}
open Go.RowKit in
theorem Tryd.strings_Join_none (a:Option Addr) (c:Nat) (sep:ByteArray) (w:World):
  Calls Tryd.prog 52 #[.slice a 0 c,.string sep] w fun e w'=>e= .returned (.string ⟨#[]⟩)∧w'=w:=Any.strings_Join_none Tryd.lays156 Tryd.Builder_Extra_156 a c sep w
open Go.RowKit in
theorem Tryd.strings_Join (bk o c:Nat) (xs:List ByteArray) (sep:ByteArray) (w:World) (hcells:∀ (j:Nat) x,xs[j]? =some x→w.cell? ⟨bk,o+j,none⟩=some (.string x)) (hbk:bk<w.heap.size) (hN:xs.length≤140737488355328) (hcap:xs.length≤c) (hlen:(Lib.join (xs.map (·.data.toList)) sep.data.toList).length≤140737488355328):
  Calls Tryd.prog 52 #[.slice (some ⟨bk,o,none⟩) xs.length c,.string sep] w fun e w'=>e= .returned (.string ⟨(Lib.join (xs.map (·.data.toList)) sep.data.toList).toArray⟩)∧Below w.heap.size w w':=Any.strings_Join Tryd.lays156 Tryd.Builder_Extra_156 bk o c xs sep w hcells hbk hN hcap hlen
def Tryd.laysM171_ren:Go.Shelf.Ren:=⟨fun|171=>35|243=>63|246=>86|283=>98|284=>99|285=>100|286=>101|129=>111|317=>110|318=>112|319=>113|320=>114|337=>117|338=>118|n=>n,fun|3=>3|9=>9|2=>2|4=>4|171=>134|0=>0|53=>135|37=>81|5=>5|173=>138|212=>145|51=>146|20=>20|213=>147|46=>143|232=>157|233=>158|n=>n,fun|17=>1|18=>4|19=>5|n=>n⟩
theorem Tryd.laysM171:Go.Proofs.LaysM.n171 Tryd.prog Tryd.laysM171_ren:={
 mixed:=by kernel_rfl
 f129:=Tryd.func111.trans (congrArg some (by kernel_rfl))
 f171:=Tryd.func35.trans (congrArg some (by kernel_rfl))
 f243:=Tryd.func63.trans (congrArg some (by kernel_rfl))
 f246:=Tryd.func86.trans (congrArg some (by kernel_rfl))
 f283:=Tryd.func98.trans (congrArg some (by kernel_rfl))
 f284:=Tryd.func99.trans (congrArg some (by kernel_rfl))
 f285:=Tryd.func100.trans (congrArg some (by kernel_rfl))
 f286:=Tryd.func101.trans (congrArg some (by kernel_rfl))
 f317:=Tryd.func110.trans (congrArg some (by kernel_rfl))
 f318:=Tryd.func112.trans (congrArg some (by kernel_rfl))
 f319:=Tryd.func113.trans (congrArg some (by kernel_rfl))
 f320:=Tryd.func114.trans (congrArg some (by kernel_rfl))
 f337:=Tryd.func117.trans (congrArg some (by kernel_rfl))
 f338:=Tryd.func118.trans (congrArg some (by kernel_rfl))
 t0:=Tryd.underlying0
 a0:=Tryd.isAgg0
 z0:=Tryd.sizeOf0
 v0:=Tryd.zeroValue0
 t2:=Tryd.underlying2
 a2:=Tryd.isAgg2
 z2:=Tryd.sizeOf2
 v2:=Tryd.zeroValue2
 t3:=Tryd.underlying3
 a3:=Tryd.isAgg3
 z3:=Tryd.sizeOf3
 v3:=Tryd.zeroValue3
 t4:=Tryd.underlying4
 a4:=Tryd.isAgg4
 z4:=Tryd.sizeOf4
 v4:=Tryd.zeroValue4
 t5:=Tryd.underlying5
 a5:=Tryd.isAgg5
 z5:=Tryd.sizeOf5
 v5:=Tryd.zeroValue5
 t9:=Tryd.underlying9
 a9:=Tryd.isAgg9
 z9:=Tryd.sizeOf9
 v9:=Tryd.zeroValue9
 t20:=Tryd.underlying20
 a20:=Tryd.isAgg20
 z20:=Tryd.sizeOf20
 v20:=Tryd.zeroValue20
 t37:=Tryd.underlying81
 a37:=Tryd.isAgg81
 z37:=Tryd.sizeOf81
 v37:=Tryd.zeroValue81
 t46:=Tryd.underlying143
 a46:=Tryd.isAgg143
 z46:=Tryd.sizeOf143
 v46:=Tryd.zeroValue143
 t51:=Tryd.underlying146
 a51:=Tryd.isAgg146
 z51:=Tryd.sizeOf146
 v51:=Tryd.zeroValue146
 t53:=Tryd.underlying135
 a53:=Tryd.isAgg135
 z53:=Tryd.sizeOf135
 v53:=Tryd.zeroValue135
 t171:=Tryd.underlying134
 a171:=Tryd.isAgg134
 z171:=Tryd.sizeOf134
 v171:=Tryd.zeroValue134
 t173:=Tryd.underlying138
 a173:=Tryd.isAgg138
 z173:=Tryd.sizeOf138
 v173:=Tryd.zeroValue138
 t212:=Tryd.underlying145
 a212:=Tryd.isAgg145
 z212:=Tryd.sizeOf145
 v212:=Tryd.zeroValue145
 t213:=Tryd.underlying147
 a213:=Tryd.isAgg147
 z213:=Tryd.sizeOf147
 t232:=Tryd.underlying157
 a232:=Tryd.isAgg157
 z232:=Tryd.sizeOf157
 v232:=Tryd.zeroValue157
 t233:=Tryd.underlying158
 a233:=Tryd.isAgg158
 z233:=Tryd.sizeOf158
 v233:=Tryd.zeroValue158
 g17:=by kernel_rfl
 g18:=by kernel_rfl
 g19:=by kernel_rfl
 i0:=by kernel_rfl
 i2:=by kernel_rfl
 i3:=by kernel_rfl
 i4:=by kernel_rfl
 i5:=by kernel_rfl
 i9:=by kernel_rfl
 i20:=by kernel_rfl
 i37:=by kernel_rfl
 i46:=by kernel_rfl
 i51:=by kernel_rfl
 i53:=by kernel_rfl
 i171:=by kernel_rfl
 i173:=by kernel_rfl
 i212:=by kernel_rfl
 i232:=by kernel_rfl
 i233:=by kernel_rfl
 m17:=by kernel_rfl
 m18:=by kernel_rfl
 m19:=by kernel_rfl}
open Go.RowKit Go.Sort Go.Lib in
theorem Tryd.strconv_Itoa (n:Int) (h0: -9223372036854775808≤n) (h1:n≤9223372036854775807) (w:World) (htab:Lib.TabIs Tryd.prog w "internal/strconv.uint64pow10" .u64 Lib.pow10Tab):
  Calls Tryd.prog 35 #[.int .i64 n] w fun e w'=>e= .returned (.string ⟨(Lib.itoa n).toArray⟩)∧∃ k os,w'=grow (w.drewN k) os:=Any.strconv_Itoa Tryd.laysM171 n h0 h1 w htab
def Tryd.lays143_ren:Go.Shelf.Ren:=⟨fun|143=>81|219=>97|217=>106|225=>107|224=>108|267=>109|266=>115|314=>116|n=>n,fun|9=>9|3=>3|4=>4|5=>5|46=>143|146=>154|51=>146|n=>n,fun|1=>0|n=>n⟩
theorem Tryd.lays143:Go.Proofs.Lays.n143 Tryd.prog Tryd.lays143_ren:={
 mixed:=by kernel_rfl
 f143:=Tryd.func81.trans (congrArg some (by kernel_rfl))
 f217:=Tryd.func106.trans (congrArg some (by kernel_rfl))
 f219:=Tryd.func97.trans (congrArg some (by kernel_rfl))
 f224:=Tryd.func108.trans (congrArg some (by kernel_rfl))
 f225:=Tryd.func107.trans (congrArg some (by kernel_rfl))
 f266:=Tryd.func115.trans (congrArg some (by kernel_rfl))
 f267:=Tryd.func109.trans (congrArg some (by kernel_rfl))
 f314:=Tryd.func116.trans (congrArg some (by kernel_rfl))
 t3:=Tryd.underlying3
 a3:=Tryd.isAgg3
 z3:=Tryd.sizeOf3
 v3:=Tryd.zeroValue3
 t4:=Tryd.underlying4
 a4:=Tryd.isAgg4
 z4:=Tryd.sizeOf4
 v4:=Tryd.zeroValue4
 t5:=Tryd.underlying5
 a5:=Tryd.isAgg5
 z5:=Tryd.sizeOf5
 v5:=Tryd.zeroValue5
 t9:=Tryd.underlying9
 a9:=Tryd.isAgg9
 z9:=Tryd.sizeOf9
 v9:=Tryd.zeroValue9
 t46:=Tryd.underlying143
 a46:=Tryd.isAgg143
 z46:=Tryd.sizeOf143
 v46:=Tryd.zeroValue143
 t51:=Tryd.underlying146
 a51:=Tryd.isAgg146
 z51:=Tryd.sizeOf146
 v51:=Tryd.zeroValue146
 t146:=Tryd.underlying154
 a146:=Tryd.isAgg154
 z146:=Tryd.sizeOf154
 v146:=Tryd.zeroValue154
 g1:=by kernel_rfl}
open Go.RowKit Go.Lib in
theorem Tryd.strings_Index (s sub:ByteArray) (m:Int) (w:World) (hs:s.size<4294967281) (hm:w.cell? ⟨0,0,none⟩=some (.int .i64 m)):
  Calls Tryd.prog 81 #[.string s,.string sub] w fun e w'=>e= .returned (.int .i64 (Lib.index s.data.toList sub.data.toList))∧w'=w:=Any.strings_Index Tryd.lays143 s sub m w hs hm
def Tryd.lays138_ren:Go.Shelf.Ren:=⟨fun|138=>80|195=>95|218=>96|143=>81|219=>97|217=>106|225=>107|224=>108|267=>109|266=>115|314=>116|n=>n,fun|9=>9|3=>3|4=>4|5=>5|0=>0|46=>143|146=>154|51=>146|n=>n,fun|1=>0|n=>n⟩
theorem Tryd.lays138:Go.Proofs.Lays.n138 Tryd.prog Tryd.lays138_ren:={
 mixed:=by kernel_rfl
 f138:=Tryd.func80.trans (congrArg some (by kernel_rfl))
 f143:=Tryd.func81.trans (congrArg some (by kernel_rfl))
 f195:=Tryd.func95.trans (congrArg some (by kernel_rfl))
 f217:=Tryd.func106.trans (congrArg some (by kernel_rfl))
 f218:=Tryd.func96.trans (congrArg some (by kernel_rfl))
 f219:=Tryd.func97.trans (congrArg some (by kernel_rfl))
 f224:=Tryd.func108.trans (congrArg some (by kernel_rfl))
 f225:=Tryd.func107.trans (congrArg some (by kernel_rfl))
 f266:=Tryd.func115.trans (congrArg some (by kernel_rfl))
 f267:=Tryd.func109.trans (congrArg some (by kernel_rfl))
 f314:=Tryd.func116.trans (congrArg some (by kernel_rfl))
 t0:=Tryd.underlying0
 a0:=Tryd.isAgg0
 z0:=Tryd.sizeOf0
 v0:=Tryd.zeroValue0
 t3:=Tryd.underlying3
 a3:=Tryd.isAgg3
 z3:=Tryd.sizeOf3
 v3:=Tryd.zeroValue3
 t4:=Tryd.underlying4
 a4:=Tryd.isAgg4
 z4:=Tryd.sizeOf4
 v4:=Tryd.zeroValue4
 t5:=Tryd.underlying5
 a5:=Tryd.isAgg5
 z5:=Tryd.sizeOf5
 v5:=Tryd.zeroValue5
 t9:=Tryd.underlying9
 a9:=Tryd.isAgg9
 z9:=Tryd.sizeOf9
 v9:=Tryd.zeroValue9
 t46:=Tryd.underlying143
 a46:=Tryd.isAgg143
 z46:=Tryd.sizeOf143
 v46:=Tryd.zeroValue143
 t51:=Tryd.underlying146
 a51:=Tryd.isAgg146
 z51:=Tryd.sizeOf146
 v51:=Tryd.zeroValue146
 t146:=Tryd.underlying154
 a146:=Tryd.isAgg154
 z146:=Tryd.sizeOf154
 v146:=Tryd.zeroValue154
 g1:=by kernel_rfl}
open Go.RowKit Go.Lib in
theorem Tryd.strings_Count_any (s sep:ByteArray) (m:Int) (w:World) (hs:s.size<4294967281) (hm:w.cell? ⟨0,0,none⟩=some (.int .i64 m)) (h1:1≤sep.size):
  Calls Tryd.prog 80 #[.string s,.string sep] w fun e w'=>e= .returned (.int .i64 (Lib.countB s sep))∧w'=w:=Any.strings_Count_any Tryd.lays138 s sep m w hs hm h1
def Tryd.lays154_ren:Go.Shelf.Ren:=⟨fun|154=>73|138=>80|165=>74|143=>81|166=>44|197=>92|169=>46|195=>95|218=>96|240=>68|241=>93|219=>97|260=>104|276=>91|277=>105|217=>106|225=>107|224=>108|267=>109|266=>115|314=>116|n=>n,fun|9=>9|3=>3|4=>4|72=>83|0=>0|76=>86|105=>130|21=>21|5=>5|70=>80|20=>20|37=>81|75=>85|127=>106|164=>126|46=>143|119=>150|139=>153|138=>152|146=>154|51=>146|80=>89|n=>n,fun|1=>0|3=>2|4=>3|n=>n⟩
theorem Tryd.lays154:Go.Proofs.Lays.n154 Tryd.prog Tryd.lays154_ren:={
 mixed:=by kernel_rfl
 f138:=Tryd.func80.trans (congrArg some (by kernel_rfl))
 f143:=Tryd.func81.trans (congrArg some (by kernel_rfl))
 f154:=Tryd.func73.trans (congrArg some (by kernel_rfl))
 f165:=Tryd.func74.trans (congrArg some (by kernel_rfl))
 f166:=Tryd.func44.trans (congrArg some (by kernel_rfl))
 f169:=Tryd.func46.trans (congrArg some (by kernel_rfl))
 f195:=Tryd.func95.trans (congrArg some (by kernel_rfl))
 f197:=Tryd.func92.trans (congrArg some (by kernel_rfl))
 f217:=Tryd.func106.trans (congrArg some (by kernel_rfl))
 f218:=Tryd.func96.trans (congrArg some (by kernel_rfl))
 f219:=Tryd.func97.trans (congrArg some (by kernel_rfl))
 f224:=Tryd.func108.trans (congrArg some (by kernel_rfl))
 f225:=Tryd.func107.trans (congrArg some (by kernel_rfl))
 f240:=Tryd.func68.trans (congrArg some (by kernel_rfl))
 f241:=Tryd.func93.trans (congrArg some (by kernel_rfl))
 f260:=Tryd.func104.trans (congrArg some (by kernel_rfl))
 f266:=Tryd.func115.trans (congrArg some (by kernel_rfl))
 f267:=Tryd.func109.trans (congrArg some (by kernel_rfl))
 f276:=Tryd.func91.trans (congrArg some (by kernel_rfl))
 f277:=Tryd.func105.trans (congrArg some (by kernel_rfl))
 f314:=Tryd.func116.trans (congrArg some (by kernel_rfl))
 t0:=Tryd.underlying0
 a0:=Tryd.isAgg0
 z0:=Tryd.sizeOf0
 v0:=Tryd.zeroValue0
 t3:=Tryd.underlying3
 a3:=Tryd.isAgg3
 z3:=Tryd.sizeOf3
 v3:=Tryd.zeroValue3
 t4:=Tryd.underlying4
 a4:=Tryd.isAgg4
 z4:=Tryd.sizeOf4
 v4:=Tryd.zeroValue4
 t5:=Tryd.underlying5
 a5:=Tryd.isAgg5
 z5:=Tryd.sizeOf5
 v5:=Tryd.zeroValue5
 t9:=Tryd.underlying9
 a9:=Tryd.isAgg9
 z9:=Tryd.sizeOf9
 v9:=Tryd.zeroValue9
 t20:=Tryd.underlying20
 a20:=Tryd.isAgg20
 z20:=Tryd.sizeOf20
 v20:=Tryd.zeroValue20
 t21:=Tryd.underlying21
 a21:=Tryd.isAgg21
 z21:=Tryd.sizeOf21
 v21:=Tryd.zeroValue21
 t37:=Tryd.underlying81
 a37:=Tryd.isAgg81
 z37:=Tryd.sizeOf81
 v37:=Tryd.zeroValue81
 t46:=Tryd.underlying143
 a46:=Tryd.isAgg143
 z46:=Tryd.sizeOf143
 v46:=Tryd.zeroValue143
 t51:=Tryd.underlying146
 a51:=Tryd.isAgg146
 z51:=Tryd.sizeOf146
 v51:=Tryd.zeroValue146
 t70:=Tryd.underlying80
 a70:=Tryd.isAgg80
 z70:=Tryd.sizeOf80
 v70:=Tryd.zeroValue80
 t72:=Tryd.underlying83
 a72:=Tryd.isAgg83
 z72:=Tryd.sizeOf83
 v72:=Tryd.zeroValue83
 t75:=Tryd.underlying85
 a75:=Tryd.isAgg85
 z75:=Tryd.sizeOf85
 v75:=Tryd.zeroValue85
 t76:=Tryd.underlying86
 a76:=Tryd.isAgg86
 z76:=Tryd.sizeOf86
 v76:=Tryd.zeroValue86
 t105:=Tryd.underlying130
 a105:=Tryd.isAgg130
 z105:=Tryd.sizeOf130
 v105:=Tryd.zeroValue130
 t119:=Tryd.underlying150
 a119:=Tryd.isAgg150
 z119:=Tryd.sizeOf150
 t127:=Tryd.underlying106
 a127:=Tryd.isAgg106
 z127:=Tryd.sizeOf106
 v127:=Tryd.zeroValue106
 t138:=Tryd.underlying152
 a138:=Tryd.isAgg152
 z138:=Tryd.sizeOf152
 v138:=Tryd.zeroValue152
 t139:=Tryd.underlying153
 a139:=Tryd.isAgg153
 z139:=Tryd.sizeOf153
 v139:=Tryd.zeroValue153
 t146:=Tryd.underlying154
 a146:=Tryd.isAgg154
 z146:=Tryd.sizeOf154
 v146:=Tryd.zeroValue154
 t164:=Tryd.underlying126
 a164:=Tryd.isAgg126
 z164:=Tryd.sizeOf126
 v164:=Tryd.zeroValue126
 g1:=by kernel_rfl
 g3:=by kernel_rfl
 g4:=by kernel_rfl}
theorem Tryd.Builder_Extra_154:Builder.Extra Tryd.prog Tryd.lays154_ren:={
 sizeBuilder:=by kernel_rfl
 liesBuilder:=by kernel_rfl
 t5:=Tryd.underlying5
 a5:=Tryd.isAgg5
 z5:=Tryd.sizeOf5
 v5:=Tryd.zeroValue5
 infoByte:=by kernel_rfl
 cellsByte:=by kernel_rfl
 sizeByte:=by kernel_rfl
 neB5:=by decide}
open Go.RowKit Go.Lib in
theorem Tryd.strings_Replace (s old new:ByteArray) (n:Int) (m:Int) (w:World) (hs:s.size<4294967281) (hm:w.cell? ⟨0,0,none⟩=some (.int .i64 m)) (h1:1≤old.size) (hlen:s.size+Lib.countB s old*new.size≤140737488355328):
  Calls Tryd.prog 73 #[.string s,.string old,.string new,.int .i64 n] w fun e w'=>
   e= .returned (.string ⟨(Lib.replace s.data.toList old.data.toList new.data.toList n).toArray⟩)∧Below w.heap.size w w':=Any.strings_Replace Tryd.lays154 Tryd.Builder_Extra_154 s old new n m w hs hm h1 hlen
end Go.Proofs
namespace Go.Proofs.YtimmmnanllcfoaaDoor
open Go Go.Itp
open Go.RowKit (Below)
set_option maxRecDepth 100000
set_option linter.unusedVariables false
theorem own:ownKnob Tryd.prog.godebug=none:=by kernel_rfl
theorem mixed:Tryd.prog.follows .mixedOrders=true:=by kernel_rfl
def QM:List (FuncId × HF × TypeId):= [(91,.same,0),(115,.indexByte,0),(96,.count,0),(105,.makeNoZero,5)]
theorem YC:sJ Tryd.prog QM:=
 ⟨⟨⟨Tryd.f91,Tryd.func91,by kernel_rfl,by kernel_rfl,by kernel_rfl,rfl⟩⟩,⟨⟨Tryd.f115,Tryd.func115,by kernel_rfl,by kernel_rfl,by kernel_rfl,rfl⟩⟩,⟨⟨Tryd.f96,Tryd.func96,by kernel_rfl,by kernel_rfl,by kernel_rfl,rfl⟩⟩,
  ⟨⟨Tryd.f105,Tryd.func105,by kernel_rfl,by kernel_rfl,#[3],81,by kernel_rfl,rfl,Tryd.underlying81⟩⟩,trivial⟩
def bR7:FuncId→List Value→St→Option (Value × List r7):=R7 (fnP 81 KH) (R7 (fnP 80 IJ) (fnP 73 wI))
def yX (w:World):Prop:=∃ m:Int,w.cell? ⟨0,0,none⟩=some (.int .i64 m)
theorem yX.below {w w':World} (h:yX w) (hb:Below w.heap.size w w'):yX w':=by
 obtain ⟨m,h⟩:=h
 exact ⟨m,by rw[hb.cell (World.block_lt_of_cell? _ _ h)];exact h⟩
theorem aU6 {w0:World} (h:yX w0):O6 Tryd.prog bR7 w0:=by
 refine cL (PU ⟨Tryd.f81,_,Tryd.func81,rfl,by kernel_rfl⟩ ?_ ?_) (cL (PU ⟨Tryd.f80,_,Tryd.func80,rfl,by kernel_rfl⟩ ?_ ?_) (PU ⟨Tryd.f73,_,Tryd.func73,rfl,by kernel_rfl⟩ ?_ ?_))
 ·intro xs v e
  unfold KH at e
  split at e
  ·split at e
   ·cases e;exact ⟨rfl,rfl⟩
   ·cases e
  ·cases e
 ·intro xs v e w hb
  unfold KH at e
  split at e
  ·split at e
   ·cases e
    obtain ⟨m,hm⟩:=h.below hb
    refine (Tryd.strings_Index _ _ m w ‹_› hm).mono fun e w' ⟨h1,h2⟩=>⟨h1,?_⟩
    rw[h2];exact Below.refl _ _
   ·cases e
  ·cases e
 ·intro xs v e
  unfold IJ at e
  split at e
  ·split at e
   ·cases e;exact ⟨rfl,rfl⟩
   ·cases e
  ·cases e
 ·intro xs v e w hb
  unfold IJ at e
  split at e
  ·split at e
   ·rename_i hc
    cases e
    obtain ⟨m,hm⟩:=h.below hb
    refine (Tryd.strings_Count_any _ _ m w hc.1 hm hc.2).mono fun e w' ⟨h1,h2⟩=>⟨h1,?_⟩
    rw[h2];exact Below.refl _ _
   ·cases e
  ·cases e
 ·intro xs v e
  unfold wI at e
  split at e
  ·split at e
   ·cases e;exact ⟨rfl,rfl⟩
   ·cases e
  ·cases e
 ·intro xs v e w hb
  unfold wI at e
  split at e
  ·split at e
   ·rename_i hc
    cases e
    obtain ⟨m,hm⟩:=h.below hb
    exact Tryd.strings_Replace _ _ _ _ m w hc.1 hm hc.2.1 hc.2.2
   ·cases e
  ·cases e
noncomputable abbrev PR (w:World):FuncId→List Value→St→Option (Value × List r7):=
 R7 (nJ QM) (R7 bR7 (R7 (KM 35) (AT (aK w) 52)))
noncomputable abbrev EN (w:World) (n:Nat):C7:=D5 (aK w) D4 fns (PR w) n
abbrev Tab (w:World):Prop:=Lib.TabIs Tryd.prog w "internal/strconv.uint64pow10" .u64 Lib.pow10Tab∧yX w
theorem aI8 (W:World) (ht:Tab W):O6 Tryd.prog (PR W) W:=
 cL (vZ QM YC W) (cL (aU6 ht.2) (cL
  (aF6 ⟨Tryd.f35,_,Tryd.func35,rfl,by kernel_rfl⟩ ht.1 Tryd.strconv_Itoa)
  (aF9 ⟨Tryd.f52,_,Tryd.func52,rfl,by kernel_rfl⟩ (LC W) Tryd.strings_Join_none Tryd.strings_Join)))
theorem bH8 {W:World} (ht:Tab W) {f:FuncId} {af:n9} (hf:fns f=some af) {xs:List Value} (hxs:w6 0 xs= []) (n:Nat) {v:Value} {s':St} (hb:body (EN W n) af xs St.empty=some (v,s')) (hv:p8 0 v= []):
  Calls Tryd.prog f xs.toArray W fun e w'=>e= .returned v∧Below W.heap.size W w':=
 bH7 mixed bG8 (LC W) (aI8 W ht) hf hxs n hb hv
theorem aF8 (w:World) (n:Nat) (st:l6) (k:Int) (h0: -9223372036854775808≤k) (h1:k≤9223372036854775807):H9 (EN w (n+1)) 35 st [.sc (.int .i64 k)] (.sc (.string ⟨(Lib.itoa k).toArray⟩)):=
 bH1 h0 h1 fun xs s r h=>B4 rfl (B4 rfl (P8 h))
theorem bH3 (w:World) (n:Nat) (st:l6) (s:Nat) (hs:s ≠ 1) (ls:List (List UInt8)) (sep:List UInt8) (hl:ls.length≤1099511627776) (hlen:(Lib.join ls sep).length≤140737488355328):
  H9 (EN w (n+1)) 52 st [.sl s ls.length (ls.map sD),.sc (.string ⟨sep.toArray⟩)] (.sc (.string ⟨(Lib.join ls sep).toArray⟩)):=
 bH2 s hs ls sep hl hlen fun xs s r h=>B4 rfl (B4 rfl (B4 rfl h))
abbrev l7 (l:List UInt8):V:= .sc (.string ⟨l.toArray⟩)
theorem TR (w:World) (n:Nat) (st:l6) (l t:List UInt8) (hl:l.length≤1000000000):H9 (EN w (n+1)) 81 st [l7 l,l7 t] (.sc (.int .i64 (Lib.index l t))):=
 bG7 (F:=KH) (v:= .int .i64 (Lib.index l t)) (ys:= [.string ⟨l.toArray⟩,.string ⟨t.toArray⟩]) (by simp only[KH];rw[if_pos (by rw[n6];omega)]) rfl fun xs s r h=>B4 rfl (P8 (P8 h))
theorem SG (w:World) (n:Nat) (st:l6) (l t:List UInt8) (hl:l.length≤1000000000) (ht:1≤t.length):H9 (EN w (n+1)) 80 st [l7 l,l7 t] (.sc (.int .i64 (Lib.countB ⟨l.toArray⟩ ⟨t.toArray⟩))):=
 bG7 (F:=IJ) (v:= .int .i64 (Lib.countB ⟨l.toArray⟩ ⟨t.toArray⟩)) (ys:= [.string ⟨l.toArray⟩,.string ⟨t.toArray⟩]) (by simp only[IJ];rw[if_pos ⟨by rw[n6];omega,by rw[n6];omega⟩]) rfl fun xs s r h=>B4 rfl (P8 (B4 rfl (P8 h)))
theorem QT (w:World) (n:Nat) (st:l6) (l t u:List UInt8) (k:Int) (hl:l.length≤1000000) (ht:1≤t.length) (hu:l.length+Lib.countB ⟨l.toArray⟩ ⟨t.toArray⟩*u.length≤140737488355328):H9 (EN w (n+1)) 73 st [l7 l,l7 t,l7 u,.sc (.int .i64 k)] (l7 (Lib.replace l t u k)):=
 bG7 (F:=wI) (v:= .string ⟨(Lib.replace l t u k).toArray⟩) (ys:= [.string ⟨l.toArray⟩,.string ⟨t.toArray⟩,.string ⟨u.toArray⟩,.int .i64 k]) (by simp only[wI];rw[if_pos ⟨by rw[n6];omega,by rw[n6];omega,by rw[n6,n6];exact hu⟩]) rfl fun xs s r h=>B4 rfl (P8 (B4 rfl (B4 rfl h)))
end Go.Proofs.YtimmmnanllcfoaaDoor
namespace Go.Itp
set_option linter.unusedVariables false
set_option linter.unusedSimpArgs false
set_option maxRecDepth 10000
structure r5 where
 kind:Nat
 purl:Bool
 a:Int
 b:Int
abbrev bU2:List UInt8:= [107,110,105,116]
abbrev WD:List UInt8:= [112,117,114,108]
abbrev WE:List UInt8:= [115,108,105,112]
abbrev aQ1:List UInt8:= [119,105,116,104]
abbrev yD:List UInt8:= [121,97,114,110]
abbrev wIn:List UInt8:= [105,110]
abbrev pY:List UInt8:= [102,114,111,110,116]
abbrev aQ0:List UInt8:= [111,118,101,114]
abbrev bA1:List UInt8:= [116,111,103,101,116,104,101,114]
abbrev RN:List UInt8:= [40,102,105,114,115,116]
abbrev wOn:List UInt8:= [111,110]
abbrev bM8:List UInt8:= [116,111,112,41]
abbrev WC:List UInt8:= [109,97,107,101]
abbrev bM7:List UInt8:= [111,117,116]
abbrev wOf:List UInt8:= [111,102]
abbrev w1:List UInt8:= [49]
abbrev OK:List UInt8:= [112,117,114,108,119,105,115,101]
abbrev yC:List UInt8:= [99,114,111,115,115]
abbrev GW:List UInt8:= [98,101,104,105,110,100]
abbrev WB:List UInt8:= [99,97,115,116]
abbrev VZ:List UInt8:= [98,105,110,100]
abbrev bM6:List UInt8:= [111,102,102]
abbrev N6:List UInt8:= [116,105,109,101,115]
theorem r5.ext' {x y:r5} (h1:x.kind=y.kind) (h2:x.purl=y.purl) (h3:x.a=y.a) (h4:x.b=y.b):x=y:=by
 cases x;cases y;simp_all
instance:DecidableEq r5:=fun x y=>decidable_of_iff (x.kind=y.kind∧x.purl=y.purl∧x.a=y.a∧x.b=y.b) ⟨fun ⟨h1,h2,h3,h4⟩=>r5.ext' h1 h2 h3 h4,fun h=>by subst h;exact ⟨rfl,rfl,rfl,rfl⟩⟩
def pT:r5:=⟨0,false,0,0⟩
instance:Inhabited r5:=⟨pT⟩
def B1 (x:r5):Prop:=
 (x.kind=1∨x.kind=8)∧x.a=0∧x.b=0∨
 x.kind=2∧x.purl=false∧x.a=0∧x.b=0∨
 (x.kind=3∨x.kind=4∨x.kind=5)∧2≤x.a∧x.a≤4∧x.b=0∨
 (x.kind=6∨x.kind=7)∧(1≤x.a∧x.a≤6)∧1≤x.b∧x.b≤6∨
 x.kind=9∧x.purl=false∧1≤x.a∧x.a≤200∧x.b=0∨
 x.kind=10∧1≤x.a∧x.a≤200∧x.b=0
instance bT5 (x:r5):Decidable (B1 x):=by unfold B1;infer_instance
def B5 (x:r5):Bool:=decide (B1 x)
theorem A1 {x:r5}:B5 x=true↔B1 x:=by unfold B5;exact decide_eq_true_iff
theorem B1.bounds {x:r5} (h:B1 x):1≤x.kind∧x.kind≤10∧0≤x.a∧x.a≤200∧0≤x.b∧x.b≤6:=by
 unfold B1 at h
 omega
def hI (p:Bool):List UInt8:=if p=true then WD else bU2
def iF (p:Bool):List (List UInt8):=if p=true then [OK] else []
def G5 (x:r5) (n:Int):List (List UInt8):=match x.kind with
 |1=> [hI x.purl,Lib.itoa n]
 |2=> [yD,aQ0]
 |3=> [hI x.purl,Lib.itoa x.a,bA1,RN,wOn,bM8]
 |4=> [hI x.purl,Lib.itoa x.a,bA1]
 |5=> [WC,Lib.itoa x.a,bM7,wOf,w1]++iF x.purl
 |6=> [yC,Lib.itoa x.a,wIn,pY,wOf,Lib.itoa x.b]++iF x.purl
 |7=> [yC,Lib.itoa x.a,GW,Lib.itoa x.b]++iF x.purl
 |8=> [WE,Lib.itoa n]++if x.purl=true then [aQ1,yD,wIn,pY] else []
 |9=> [WB,wOn,Lib.itoa x.a]
 |_=> [VZ,bM6,Lib.itoa x.a]++iF x.purl
def aU (x:r5) (n:Int):List (List UInt8):=if 1<n∧x.kind ≠ 1∧x.kind ≠ 8 then [Lib.itoa n,N6] else []
def H7 (x:r5) (n:Int):List (List UInt8):=G5 x n++aU x n
def n4 (x:r5) (n:Int):List UInt8:=join 32 (H7 x n)
theorem iV {z:Int} (h:0≤z) (c:UInt8) (hc:y7 c=false):c ∉ Lib.itoa z:=fun hm=>by
 rw[uS h c hm] at hc;cases hc
theorem P2 {z:Int} (h:0≤z) {c:UInt8} {l:List UInt8} (hc:y7 c=false):Lib.itoa z ≠ c::l:=fun e=>iV h c hc (by rw[e];simp)
def rF (w:List UInt8):Prop:=(32:UInt8) ∉ w∧(44:UInt8) ∉ w∧(10:UInt8) ∉ w∧w ≠ []
theorem vT {z:Int} (h:0≤z):rF (Lib.itoa z):=⟨iV h _ (by decide),iV h _ (by decide),iV h _ (by decide),sA⟩
instance bX2 (w:List UInt8):Decidable (rF w):=by unfold rF;infer_instance
theorem lH {x:r5} {n:Int} (hx:B1 x) (hn:0≤n):∀ w ∈ H7 x n,rF w:=by
 have hb:=hx.bounds
 have h1:=vT (z:=n) hn
 have h2:=vT (z:=x.a) (by omega)
 have h3:=vT (z:=x.b) (by omega)
 have hs:∀ p,rF (hI p):=by intro p;cases p<;>decide
 have hw:∀ p,∀ w ∈ iF p,rF w:=by intro p;cases p<;>decide
 have hf:∀ p:Bool,∀ w ∈ (if p=true then [aQ1,yD,wIn,pY] else []),rF w:=by intro p;cases p<;>decide
 have hc:rF yD∧rF aQ0∧rF bA1∧rF RN∧rF wOn∧rF bM8∧rF WC∧rF bM7∧rF wOf∧rF w1∧rF yC∧rF wIn∧rF pY∧rF GW∧rF WE∧rF WB∧rF VZ∧rF bM6∧rF N6:=by decide
 obtain ⟨c1,c2,c3,c4,c5,c6,c7,c8,c9,c10,c11,c12,c13,c14,c15,c16,c17,c18,c19⟩:=hc
 intro w hm
 unfold H7 at hm
 rcases List.mem_append.1 hm with hm|hm
 ·obtain ⟨k,p,a,b⟩:=x
  unfold G5 at hm
  simp only at hm h2 h3 hb
  split at hm
  all_goals
   simp only[List.cons_append,List.nil_append,List.mem_cons,List.not_mem_nil,or_false] at hm
  ·rcases hm with rfl|rfl<;>first|exact hs p|assumption
  ·rcases hm with rfl|rfl<;>assumption
  ·rcases hm with rfl|rfl|rfl|rfl|rfl|rfl<;>first|exact hs p|assumption
  ·rcases hm with rfl|rfl|rfl<;>first|exact hs p|assumption
  ·rcases hm with rfl|rfl|rfl|rfl|rfl|hm<;>first|exact hw p w hm|assumption
  ·rcases hm with rfl|rfl|rfl|rfl|rfl|rfl|hm<;>first|exact hw p w hm|assumption
  ·rcases hm with rfl|rfl|rfl|rfl|hm<;>first|exact hw p w hm|assumption
  ·rcases hm with rfl|rfl|hm<;>first|exact hf p w hm|assumption
  ·rcases hm with rfl|rfl|rfl<;>assumption
  ·rcases hm with rfl|rfl|rfl|hm<;>first|exact hw p w hm|assumption
 ·unfold aU at hm
  split at hm
  ·simp only[List.mem_cons,List.not_mem_nil,or_false] at hm
   rcases hm with rfl|rfl<;>assumption
  ·cases hm
theorem sX (x:r5) (n:Int):G5 x n ≠ []:=by
 unfold G5;split<;>simp
theorem QL (x:r5) (n:Int):H7 x n ≠ []:=by
 unfold H7;simp[sX]
theorem bT {x:r5} {n:Int} (hx:B1 x) (hn:0≤n):r4 32 (n4 x n)=H7 x n:=
 lS (QL x n) fun w hw=>(lH hx hn w hw).1
def KY (l:List UInt8):Int:=match Lib.atoiAll l with
 | .ok v=>v
 |_=>0
theorem iY {z:Int} (h0:0≤z) (h1:z≤1000000):KY (Lib.itoa z)=z:=by
 unfold KY;rw[WP h0 (by omega)]
def XV (ws:List (List UInt8)):List (List UInt8) × Int:=match ws.reverse with
 |t::n::r=>if t=N6 then (r.reverse,KY n) else (ws,1)
 |_=>(ws,1)
def aT4 (ws:List (List UInt8)) (n:Int):r5 × Int:=
 let h:=ws.headD []
 let at1:=KY (ws.getD 1 [])
 let ws2:=decide (OK ∈ ws)
 if h=yD then (⟨2,false,0,0⟩,n)
 else if h=WC then (⟨5,ws2,at1,0⟩,n)
 else if h=yC then (if ws.getD 2 []=wIn then (⟨6,ws2,at1,KY (ws.getD 5 [])⟩,n) else (⟨7,ws2,at1,KY (ws.getD 3 [])⟩,n))
 else if h=WB then (⟨9,false,KY (ws.getD 2 []),0⟩,n)
 else if h=VZ then (⟨10,ws2,KY (ws.getD 2 []),0⟩,n)
 else if h=WE then (⟨8,decide (2<ws.length),0,0⟩,at1)
 else if ws.length=2 then (⟨1,decide (h=WD),0,0⟩,at1)
 else if ws.length=3 then (⟨4,decide (h=WD),at1,0⟩,n)
 else (⟨3,decide (h=WD),at1,0⟩,n)
def aT5 (ws:List (List UInt8)):r5 × Int:=aT4 (XV ws).1 (XV ws).2
theorem QG (B:List (List UInt8)) {n:Int} (h0:0≤n) (h1:n≤1000000):XV (B++ [Lib.itoa n,N6])=(B,n):=by
 unfold XV
 simp only[List.reverse_append,List.reverse_cons,List.reverse_nil,List.nil_append,List.cons_append,List.reverse_reverse,if_true,iY h0 h1]
theorem zT {x:r5} {n:Int} (hx:B1 x) (h0:0≤n) (h1:n≤1000) (m:Int) (hm:x.kind ≠ 1→x.kind ≠ 8→m=n):aT4 (G5 x n) m=(x,n):=by
 have hb:=hx.bounds
 have n1:=iY (z:=n) h0 (by omega)
 have n2:=iY (z:=x.a) (by omega) (by omega)
 have n3:=iY (z:=x.b) (by omega) (by omega)
 have q1:Lib.itoa n ≠ OK:=P2 h0 (by decide)
 have q2:Lib.itoa x.a ≠ OK:=P2 (by omega) (by decide)
 have q3:Lib.itoa x.b ≠ OK:=P2 (by omega) (by decide)
 obtain ⟨k,p,a,b⟩:=x
 unfold B1 at hx
 simp only at hx n1 n2 n3 q1 q2 q3 hm
 have r2:=Ne.symm q2
 have r3:=Ne.symm q3
 rcases hx with ⟨rfl|rfl,rfl,rfl⟩|⟨rfl,rfl,rfl,rfl⟩|⟨rfl|rfl|rfl,h2,h3,rfl⟩|⟨rfl|rfl,h2,h3⟩|⟨rfl,rfl,h2,h3,rfl⟩|⟨rfl,h2,h3,rfl⟩
 all_goals
  try (have hm:=hm (by decide) (by decide);subst hm)
  first
  |(cases p<;>simp[aT4,G5,hI,iF,n1,n2,n3,r2,r3])
  |simp[aT4,G5,hI,iF,n1,n2,n3,r2,r3]
theorem XW (B:List (List UInt8)) (h:∀ w,B.getLast? =some w→w ≠ N6):XV B=(B,1):=by
 unfold XV
 cases hr:B.reverse with
 |nil=>rfl
 |cons t r=>
  have hl:B.getLast? =some t:=by rw[← List.head?_reverse,hr];rfl
  cases r with
  |nil=>rfl
  |cons n r=>simp only[if_neg (h t hl)]
theorem IS {x:r5} {n:Int} (hx:B1 x) (h0:1≤n) (h1:n≤1000):aT5 (H7 x n)=(x,n):=by
 unfold aT5 H7 aU
 by_cases ht:1<n∧x.kind ≠ 1∧x.kind ≠ 8
 ·rw[if_pos ht,QG _ (by omega) (by omega)]
  exact zT hx (by omega) h1 n fun _ _=>rfl
 ·rw[if_neg ht,List.append_nil,XW]
  ·exact zT hx (by omega) h1 1 fun a b=>by
    have:¬ 1<n:=fun h=>ht ⟨h,a,b⟩
    omega
  ·have hb:=hx.bounds
   have q1:Lib.itoa n ≠ N6:=P2 (by omega) (by decide)
   have q2:Lib.itoa x.a ≠ N6:=P2 (by omega) (by decide)
   have q3:Lib.itoa x.b ≠ N6:=P2 (by omega) (by decide)
   have r1:=Ne.symm q1
   have r2:=Ne.symm q2
   have r3:=Ne.symm q3
   intro w hw e
   subst e
   obtain ⟨k,p,a,b⟩:=x
   simp only at r1 r2 r3
   unfold G5 at hw
   simp only at hw
   split at hw
   all_goals
    revert hw
    cases p<;>simp[iF,hI,q1,q2,q3,r1,r2,r3]
def R8 (s:List UInt8):Option (r5 × Int):=
 let r:=aT5 (r4 32 s)
 if B1 r.1∧(1≤r.2∧r.2≤200)∧n4 r.1 r.2=s then some r else none
theorem lJ {s:List UInt8} {x:r5} {n:Int} (h:R8 s=some (x,n)):B1 x∧(1≤n∧n≤200)∧n4 x n=s:=by
 unfold R8 at h
 generalize aT5 (r4 32 s)=r at h
 simp only at h
 split at h
 ·rename_i hc
  cases h
  exact hc
 ·cases h
theorem nN {x:r5} {n:Int} (hx:B1 x) (h0:1≤n) (h1:n≤200):R8 (n4 x n)=some (x,n):=by
 unfold R8
 simp only[bT hx (by omega:0≤n),IS hx h0 (by omega:n≤1000)]
 rw[if_pos ⟨hx,⟨h0,h1⟩,trivial⟩]
end Go.Itp
namespace Go.Itp
set_option linter.unusedVariables false
set_option linter.unusedSimpArgs false
set_option maxRecDepth 10000
def M9 (x:r5):Int:=if x.kind=2∨x.kind=9 then 0 else if x.kind=3∨x.kind=4∨x.kind=10 then x.a else if x.kind=6∨x.kind=7 then x.a+x.b else 1
def M8 (x:r5):Int:=if x.kind=10 then 0 else if x.kind=5∨x.kind=9 then x.a else if x.kind=6∨x.kind=7 then x.a+x.b else 1
def N4 (f:r5→Int):List r5→Int
 | []=>0
 |x::l=>f x+N4 f l
def J7 (L:List r5):Int:=if 200<L.length then 4 else if L.all B5=true then (if 200<N4 M9 L∨200<N4 M8 L then 4 else 0) else 8
def G0:List r5→List (r5 × Nat)
 | []=> []
 |x::l=>match G0 l with
  | []=> [(x,1)]
  |(y,n)::r=>if y=x then (x,n+1)::r else (x,1)::(y,n)::r
def FY (r:r5 × Nat):List UInt8:=n4 r.1 r.2
def OT:List (List UInt8)→List UInt8
 | []=> []
 | [w]=>w
 |w::ws=>w++44::32::OT ws
theorem fZ (w:List UInt8) {ws:List (List UInt8)} (h:ws ≠ []):OT (w::ws)=w++44::32::OT ws:=by
 cases ws with
 |nil=>exact absurd rfl h
 |cons a r=>rfl
theorem PY:∀ ws,OT ws=Lib.join ws [44,32]
 | []=>rfl
 | [w]=>by simp[OT,Lib.join,List.intercalate]
 |w::v::ws=>by
  rw[fZ w (by simp),PY (v::ws)]
  simp[Lib.join,List.intercalate]
theorem KN:∀ (ws:List (List UInt8)) (w:List UInt8),ws ≠ []→OT (ws++ [w])=OT ws++44::32::w
 | [],w,h=>absurd rfl h
 | [v],w,_=>rfl
 |v::u::ws,w,_=>by
  rw[List.cons_append,fZ v (by simp),KN (u::ws) w (by simp),fZ v (by simp)]
  simp
def F6:List UInt8:= [110,111,116,104,105,110,103]
def u9 (L:List r5):List UInt8:=if L= [] then F6 else OT ((G0 L).map FY)
def x9 (L:List r5):List UInt8 × Int:=if J7 L=0 then (if 2000<(u9 L).length then ([],4) else (u9 L,0)) else ([],J7 L)
theorem bB {L:List r5} (h:J7 L=0):L.length≤200∧L.all B5=true∧N4 M9 L≤200∧N4 M8 L≤200:=by
 unfold J7 at h
 split at h
 ·exact absurd h (by decide)
 split at h
 ·split at h
  ·exact absurd h (by decide)
  ·rename_i h1 h2 h3
   exact ⟨by omega,h2,by omega,by omega⟩
 ·exact absurd h (by decide)
def jY (R:List (r5 × Nat)):List r5:=R.flatMap fun r=>List.replicate r.2 r.1
theorem aP:∀ L,jY (G0 L)=L
 | []=>rfl
 |x::l=>by
  have ih:=aP l
  rw[G0]
  cases hr:G0 l with
  |nil=>rw[hr] at ih;simp[jY] at ih ⊢;exact ih
  |cons y r=>
   obtain ⟨y,n⟩:=y
   rw[hr] at ih
   simp only[jY,List.flatMap_cons] at ih
   by_cases e:y=x
   ·simp only[if_pos e,jY,List.flatMap_cons,List.replicate_succ,List.cons_append]
    rw[← e,ih]
   ·simp only[if_neg e,jY,List.flatMap_cons]
    rw[ih];rfl
theorem U4:∀ L,∀ r ∈ G0 L,1≤r.2∧r.2≤L.length∧r.1 ∈ L
 | [],r,h=>by cases h
 |x::l,r,h=>by
  have ih:=U4 l
  rw[G0] at h
  cases hr:G0 l with
  |nil=>
   rw[hr] at h
   simp only[List.mem_singleton] at h
   subst h
   simp
  |cons y q=>
   obtain ⟨y,n⟩:=y
   rw[hr] at h ih
   simp only at h
   have h1:=ih (y,n) (by simp)
   split at h
   ·rcases List.mem_cons.1 h with rfl|h
    ·simp only[List.length_cons,List.mem_cons,true_or,and_true];omega
    ·have:=ih r (List.mem_cons_of_mem _ h)
     exact ⟨this.1,by simp;omega,List.mem_cons_of_mem _ this.2.2⟩
   ·rcases List.mem_cons.1 h with rfl|h
    ·simp
    ·have:=ih r h
     exact ⟨this.1,by simp;omega,List.mem_cons_of_mem _ this.2.2⟩
theorem nS {L:List r5} (h:L ≠ []):G0 L ≠ []:=fun e=>h (by rw[← aP L,e];rfl)
theorem kY (r:r5 × Nat) (R:List (r5 × Nat)):jY (r::R)=List.replicate r.2 r.1++jY R:=rfl
def mH (c:UInt8):List (List UInt8)→List (List UInt8)
 | []=> [[c]]
 |w::ws=>(c::w)::ws
def l9:List UInt8→List (List UInt8)
 | []=> [[]]
 | [c]=> [[c]]
 |c::d::r=>if c=44∧d=32 then []::l9 r else mH c (l9 (d::r))
theorem Q3:∀ s,l9 s ≠ []
 | []=>by simp[l9]
 | [c]=>by simp[l9]
 |c::d::r=>by
  rw[l9]
  split
  ·simp
  ·cases l9 (d::r)<;>simp[mH]
theorem L3 {c d:UInt8} {r:List UInt8} (h:¬ (c=44∧d=32)):l9 (c::d::r)=mH c (l9 (d::r)):=by rw[l9,if_neg h]
theorem rL:∀ {w:List UInt8},(44:UInt8) ∉ w→l9 w= [w]
 | [],_=>rfl
 | [c],_=>rfl
 |c::d::r,h=>by
  rw[L3 (fun e=>h (by rw[e.1];simp)),rL (fun e=>h (List.mem_cons_of_mem _ e))]
  rfl
theorem wX:∀ {w:List UInt8} (r:List UInt8),(44:UInt8) ∉ w→l9 (w++44::32::r)=w::l9 r
 | [],r,_=>by rw[List.nil_append,l9,if_pos ⟨rfl,rfl⟩]
 | [c],r,h=>by
  rw[List.cons_append,List.nil_append,L3 (fun e=>h (by rw[e.1];simp)),l9,if_pos ⟨rfl,rfl⟩]
  rfl
 |c::d::w,r,h=>by
  have ih:=wX (w:=d::w) r (fun e=>h (List.mem_cons_of_mem _ e))
  rw[List.cons_append] at ih
  rw[List.cons_append,List.cons_append,L3 (fun e=>h (by rw[e.1];simp)),ih]
  rfl
theorem hS:∀ {ws:List (List UInt8)},ws ≠ []→(∀ w ∈ ws,(44:UInt8) ∉ w)→l9 (OT ws)=ws
 | [],h,_=>absurd rfl h
 | [w],_,h=>rL (h w (by simp))
 |w::v::ws,_,h=>by
  rw[fZ w (by simp),wX _ (h w (by simp)),hS (by simp) (fun x hx=>h x (List.mem_cons_of_mem _ hx))]
theorem QK {x:r5} {n:Int} (hx:B1 x) (hn:0≤n):(44:UInt8) ∉ n4 x n∧(10:UInt8) ∉ n4 x n:=by
 have aux:∀ d:UInt8,d ≠ 32→∀ ws:List (List UInt8),(∀ w ∈ ws,d ∉ w)→d ∉ join 32 ws:=by
  intro d hd ws
  induction ws with
  |nil=>intro _;simp[join]
  |cons w ws ih=>
   intro h
   cases ws with
   |nil=>exact h w (by simp)
   |cons v r=>
    rw[join,List.mem_append,List.mem_cons]
    rintro (h1|h1|h1)
    ·exact h w (by simp) h1
    ·exact hd h1
    ·exact ih (fun x hx=>h x (List.mem_cons_of_mem _ hx)) h1
 exact ⟨aux 44 (by decide) _ fun w hw=>(lH hx hn w hw).2.1,aux 10 (by decide) _ fun w hw=>(lH hx hn w hw).2.2.1⟩
def eQ:List (List UInt8)→List r5→Option (List r5)
 | [],acc=>some acc
 |p::ps,acc=>match R8 p with
  |none=>none
  |some (x,n)=>if 200<(acc.length:Int)+n then none else eQ ps (acc++List.replicate n.toNat x)
def Y4 (s:List UInt8):Option (List r5):=if 2000<s.length then none else if s=F6 then some [] else match eQ (l9 s) [] with
 |none=>none
 |some L=>if J7 L=0∧u9 L=s then some L else none
def G3 (s:List UInt8):List r5 × Int:=match Y4 s with
 |none=>([],12)
 |some L=>(L,0)
theorem BN:∀ (R:List (r5 × Nat)) (acc:List r5),(∀ r ∈ R,B1 r.1∧1≤r.2∧r.2≤200)→acc.length+(jY R).length≤200→eQ (R.map FY) acc=some (acc++jY R)
 | [],acc,_,_=>by simp[eQ,jY]
 |r::R,acc,h,hl=>by
  obtain ⟨h1,h2,h3⟩:=h r (by simp)
  rw[kY,List.length_append,List.length_replicate] at hl
  rw[List.map_cons,eQ,show FY r=n4 r.1 (r.2:Int) from rfl,nN h1 (by omega) (by omega)]
  simp only
  rw[if_neg (by omega),Int.toNat_natCast,BN R _ (fun q hq=>h q (List.mem_cons_of_mem _ hq)) (by rw[List.length_append,List.length_replicate];omega),kY]
  simp
theorem aI5 {L:List r5} (h:L.all B5=true):∀ w ∈ (G0 L).map FY,(44:UInt8) ∉ w∧(10:UInt8) ∉ w:=by
 intro w hw
 obtain ⟨r,hr,rfl⟩:=List.mem_map.1 hw
 have h1:=U4 L r hr
 exact QK (A1.1 (List.all_eq_true.1 h _ h1.2.2)) (by omega)
theorem nY {L:List r5} (h:L.all B5=true) (hl:L.length≤200) (hn:L ≠ []):u9 L ≠ F6:=fun e=>by
 unfold u9 at e
 rw[if_neg hn] at e
 have h1:=congrArg l9 e
 rw[hS (by simp[nS hn]) (fun w hw=>(aI5 h w hw).1),show l9 F6= [F6] from by decide] at h1
 cases hr:G0 L with
 |nil=>exact nS hn hr
 |cons r R=>
  rw[hr,List.map_cons] at h1
  obtain ⟨h2,_⟩:=List.cons.inj h1
  have h3:=U4 L r (by rw[hr];simp)
  have h4:=bT (A1.1 (List.all_eq_true.1 h _ h3.2.2)) (n:=(r.2:Int)) (by omega)
  rw[show n4 r.1 (r.2:Int)=FY r from rfl,h2,show r4 32 F6= [F6] from by decide] at h4
  have h5:(H7 r.1 (r.2:Int)).length=1:=by rw[← h4];rfl
  have h6:2≤(G5 r.1 (r.2:Int)).length:=by
   unfold G5;split<;>simp
  unfold H7 at h5
  rw[List.length_append] at h5
  omega
theorem bU {L:List r5} (h:(x9 L).2=0):Y4 (u9 L)=some L∧x9 L=(u9 L,0):=by
 unfold x9 at h ⊢
 by_cases ha:J7 L=0
 ·rw[if_pos ha] at h ⊢
  by_cases hl:2000<(u9 L).length
  ·rw[if_pos hl] at h;exact absurd h (by decide)
  ·rw[if_neg hl]
   refine ⟨?_,rfl⟩
   obtain ⟨h1,h2,h3,h4⟩:=bB ha
   unfold Y4
   rw[if_neg hl]
   by_cases hn:L= []
   ·subst hn;rfl
   ·rw[if_neg (nY h2 h1 hn)]
    have e:l9 (u9 L)=(G0 L).map FY:=by
     unfold u9
     rw[if_neg hn,hS (by simp[nS hn]) (fun w hw=>(aI5 h2 w hw).1)]
    rw[e,BN _ [] (fun r hr=>by
     have:=U4 L r hr
     exact ⟨A1.1 (List.all_eq_true.1 h2 _ this.2.2),by omega,by omega⟩) (by rw[aP];simpa using h1),aP]
    simp only[List.nil_append]
    rw[if_pos ⟨ha,trivial⟩]
 ·rw[if_neg ha] at h;exact absurd h ha
theorem nM {s:List UInt8} {L:List r5} (h:Y4 s=some L):x9 L=(s,0):=by
 unfold Y4 at h
 split at h
 ·cases h
 rename_i hs
 split at h
 ·rename_i he
  cases h
  rw[he]
  rfl
 ·cases hr:eQ (l9 s) [] with
  |none=>rw[hr] at h;cases h
  |some M=>
   rw[hr] at h
   simp only at h
   split at h
   ·rename_i hc
    cases h
    unfold x9
    rw[if_pos hc.1,if_neg (by rw[hc.2];exact hs),hc.2]
   ·cases h
theorem lI {s:List UInt8} {L:List r5} (h:x9 L=(s,0)):Y4 s=some L:=by
 have h1:=bU (L:=L) (by rw[h])
 rw[h1.2] at h
 cases h
 exact h1.1
theorem PG {L M:List r5} {s:List UInt8} (h1:x9 L=(s,0)) (h2:x9 M=(s,0)):L=M:=by
 have:=lI h1
 rw[lI h2] at this
 exact (Option.some.inj this).symm
def S9 (b:Bool):List UInt8:=if b=true then [98,97,99,107] else [102,114,111,110,116]
def qP (b:Bool):List UInt8:=40::S9 b++ [41,58]
def YJ:List UInt8:= [114,111,119]
def y4 (b:Bool) (n:Int):List UInt8:=YJ++32::(Lib.itoa n++32::(qP b++ [32]))
def I5 (b:Bool) (L:List r5) (n:Int):List UInt8 × Int:=if J7 L=0 then (if n<1∨100<n then ([],2) else if (x9 L).2=0 then (y4 b n++(x9 L).1++ [46],0) else ([],(x9 L).2)) else ([],J7 L)
theorem jK {b:Bool} {L:List r5} {n:Int} (h:(I5 b L n).2=0):(1≤n∧n≤100)∧x9 L=(u9 L,0)∧I5 b L n=(y4 b n++u9 L++ [46],0)∧J7 L=0:=by
 unfold I5 at h ⊢
 by_cases h1:J7 L=0
 ·rw[if_pos h1] at h ⊢
  by_cases h2:n<1∨100<n
  ·rw[if_pos h2] at h;exact absurd h (by decide)
  ·rw[if_neg h2] at h ⊢
   by_cases h3:(x9 L).2=0
   ·have:=(bU h3).2
    rw[if_pos h3,this]
    exact ⟨by omega,rfl,rfl,h1⟩
   ·rw[if_neg h3] at h;exact absurd h h3
 ·rw[if_neg h1] at h;exact absurd h h1
theorem aW7 {b:Bool} {L:List r5} {n:Int} {m:List UInt8} (h0:1≤n) (h1:n≤100) (h:x9 L=(m,0)):I5 b L n=(y4 b n++m++ [46],0):=by
 have ha:J7 L=0:=by
  by_cases e:J7 L=0
  ·exact e
  ·unfold x9 at h
   rw[if_neg e] at h
   exact absurd (congrArg Prod.snd h) e
 unfold I5
 rw[if_pos ha,if_neg (by omega),h,if_pos rfl]
theorem qV (b:Bool) {n:Int} (hn:0≤n) (r:List UInt8):r4 32 (y4 b n++r)=YJ::Lib.itoa n::qP b::r4 32 r:=by
 have h2:(32:UInt8) ∉ Lib.itoa n:=iV hn _ (by decide)
 have h3:(32:UInt8) ∉ qP b:=by cases b<;>decide
 have e:y4 b n++r=YJ++32::(Lib.itoa n++32::(qP b++32::r)):=by simp[y4]
 rw[e,M3 _ (by decide),M3 _ h2,M3 _ h3]
theorem XC {b c:Bool} (h:qP b=qP c):b=c:=by cases b<;>cases c<;>first|rfl|(revert h;decide)
theorem XI {b c:Bool} {n m:Int} {r q:List UInt8} (hn:0≤n) (hm:0≤m) (h:y4 b n++r=y4 c m++q):b=c∧n=m∧r=q:=by
 have e:=congrArg (r4 32) h
 rw[qV b hn,qV c hm] at e
 obtain ⟨_,e⟩:=List.cons.inj e
 obtain ⟨e1,e⟩:=List.cons.inj e
 obtain ⟨e2,e⟩:=List.cons.inj e
 have h1:=aF7 hn hm e1
 have h2:=XC e2
 subst h1 h2
 exact ⟨rfl,rfl,List.append_cancel_left h⟩
theorem aL4 {b c:Bool} {L M:List r5} {n m:Int} {s:List UInt8} (h1:I5 b L n=(s,0)) (h2:I5 c M m=(s,0)):b=c∧L=M∧n=m:=by
 obtain ⟨a1,a2,a3,_⟩:=jK (by rw[h1]:(I5 b L n).2=0)
 obtain ⟨b1,b2,b3,_⟩:=jK (by rw[h2]:(I5 c M m).2=0)
 rw[h1] at a3
 rw[h2] at b3
 have e:y4 b n++(u9 L++ [46])=y4 c m++(u9 M++ [46]):=by
  rw[← List.append_assoc,← List.append_assoc]
  exact (congrArg Prod.fst a3).symm.trans (congrArg Prod.fst b3)
 obtain ⟨e1,e2,e3⟩:=XI (by omega) (by omega) e
 have e4:=List.append_cancel_right e3
 rw[e4] at a2
 exact ⟨e1,PG a2 b2,e2⟩
open Classical in
noncomputable def T0 (s:List UInt8):Option (Bool × List r5 × Int):=if h:∃ r:Bool × List r5 × Int,I5 r.1 r.2.1 r.2.2=(s,0) then some (Classical.choose h) else none
theorem MC {b:Bool} {L:List r5} {n:Int} {s:List UInt8} (h:I5 b L n=(s,0)):T0 s=some (b,L,n):=by
 have hx:∃ r:Bool × List r5 × Int,I5 r.1 r.2.1 r.2.2=(s,0):=⟨(b,L,n),h⟩
 unfold T0
 rw[dif_pos hx]
 have h2:=Classical.choose_spec hx
 generalize Classical.choose hx=r at h2
 obtain ⟨c,M,m⟩:=r
 obtain ⟨e1,e2,e3⟩:=aL4 h2 h
 simp only at e1 e2 e3
 rw[e1,e2,e3]
theorem wF {b:Bool} {L:List r5} {n:Int} {s:List UInt8} (h:T0 s=some (b,L,n)):I5 b L n=(s,0):=by
 unfold T0 at h
 split at h
 ·rename_i hx
  have h2:=Classical.choose_spec hx
  rw[Option.some.inj h] at h2
  exact h2
 ·cases h
theorem QR {s:List UInt8} (h:∀ b L n,I5 b L n ≠ (s,0)):T0 s=none:=by
 unfold T0
 rw[dif_neg]
 rintro ⟨r,hr⟩
 exact h _ _ _ hr
abbrev ChT:=Int × List (Bool × List r5)
def bD8:List (Bool × List r5)→Int
 | []=>0
 |r::l=>if J7 r.2=0 then bD8 l else J7 r.2
def aA9 (c:ChT):Int:=if 100<c.2.length then 4 else if c.1<0∨200<c.1 then 8 else bD8 c.2
def lG:Int→List (Bool × List r5)→List UInt8 × Int
 |_,[]=>([],0)
 |n,r::l=>if (I5 r.1 r.2 n).2=0 then (if (lG (n+1) l).2=0 then ((I5 r.1 r.2 n).1++10::(lG (n+1) l).1,0) else ([],(lG (n+1) l).2)) else ([],(I5 r.1 r.2 n).2)
def aN1 (n:Int):List UInt8:= [115,116,97,114,116]++32::([119,105,116,104]++32::(Lib.itoa n++32:: [115,116,105,116,99,104,101,115,46]))
def bF6 (c:ChT):List UInt8 × Int:=if aA9 c=0 then (if (lG 1 c.2).2=0 then (if 60000<(aN1 c.1++10::(lG 1 c.2).1).length then ([],4) else (aN1 c.1++10::(lG 1 c.2).1,0)) else ([],(lG 1 c.2).2)) else ([],aA9 c)
open Classical in
noncomputable def cG0 (s:List UInt8):Option ChT:=if h:∃ c:ChT,bF6 c=(s,0) then some (Classical.choose h) else none
end Go.Itp
namespace Go.Itp
set_option linter.unusedVariables false
set_option linter.unusedSimpArgs false
set_option maxRecDepth 10000
def eM (p:Bool):List UInt8:=if p=true then [112,117,114,108] else [107,110,105,116]
def rS (p:Bool):List UInt8:=if p=true then [32,112,117,114,108,119,105,115,101] else []
def n5 (k:Nat) (p:Bool):List (List UInt8):=match k with
 |1=> [eM p++ [32],[]]
 |2=> [[121,97,114,110,32,111,118,101,114]]
 |3=> [eM p++ [32],[32,116,111,103,101,116,104,101,114,32,40,102,105,114,115,116,32,111,110,32,116,111,112,41]]
 |4=> [eM p++ [32],[32,116,111,103,101,116,104,101,114]]
 |5=> [[109,97,107,101,32],[32,111,117,116,32,111,102,32,49]++rS p]
 |6=> [[99,114,111,115,115,32],[32,105,110,32,102,114,111,110,116,32,111,102,32],rS p]
 |7=> [[99,114,111,115,115,32],[32,98,101,104,105,110,100,32],rS p]
 |8=> [[115,108,105,112,32],if p=true then [32,119,105,116,104,32,121,97,114,110,32,105,110,32,102,114,111,110,116] else []]
 |9=> [[99,97,115,116,32,111,110,32],[]]
 |_=> [[98,105,110,100,32,111,102,102,32],rS p]
def M7 (k:Nat) (p:Bool):List UInt8:=join 35 (n5 k p)
def countB (k:Nat):Bool:=decide (k=1∨k=8)
theorem zZ:∀ k p,∀ w ∈ n5 k p,(35:UInt8) ∉ w:=by
 intro k p
 unfold n5
 split<;>cases p<;>decide
theorem JG (k:Nat) (p:Bool):r4 35 (M7 k p)=n5 k p:=
 lS (by unfold n5;split<;>simp) (zZ k p)
def fill:List (List UInt8)→List Int→List UInt8
 | [],_=> []
 | [p],_=>p
 |p::ps,[]=>p++35::fill ps []
 |p::ps,v::vs=>p++(Lib.itoa v++fill ps vs)
def aH1 (x:r5) (n:Int):List Int:=if x.kind=1∨x.kind=8 then [n] else [x.a,x.b]
def H4 (x:r5) (n:Int):List UInt8:=if 1<n∧x.kind ≠ 1∧x.kind ≠ 8 then 32::(Lib.itoa n++32::N6) else []
theorem nF {x:r5} (n:Int) (hx:B1 x):n4 x n=fill (n5 x.kind x.purl) (aH1 x n)++H4 x n:=by
 have hb:∀ B:List (List UInt8),B ≠ []→join 32 (B++aU x n)=join 32 B++H4 x n:=fun B hB=>by
  unfold aU H4
  split
  ·rw[show B++ [Lib.itoa n,N6]=(B++ [Lib.itoa n])++ [N6] from by simp,cI _ _ (by simp),cI _ _ hB]
   simp
  ·simp
 unfold n4 H7
 rw[hb _ (sX x n)]
 congr 1
 obtain ⟨k,p,a,b⟩:=x
 unfold B1 at hx
 simp only at hx
 rcases hx with ⟨rfl|rfl,rfl,rfl⟩|⟨rfl,rfl,rfl,rfl⟩|⟨rfl|rfl|rfl,h2,h3,rfl⟩|⟨rfl|rfl,h2,h3⟩|⟨rfl,rfl,h2,h3,rfl⟩|⟨rfl,h2,h3,rfl⟩
 all_goals
  first
  |(cases p<;>simp[G5,hI,iF,join,n5,fill,aH1,eM,rS])
  |simp[G5,hI,iF,join,n5,fill,aH1,eM,rS]
def G6 (s:List UInt8):List UInt8:=(s.take 4).takeWhile y7
def W7:List UInt8→Int
 |l=>l.foldl (fun a d=>10*a+((d.toNat:Int) - 48)) 0
def cP (s:List UInt8):List UInt8:=s.drop (G6 s).length
theorem aO0:∀ (w:List UInt8),(∀ c ∈ w,y7 c=true)→w.takeWhile y7=w
 | [],_=>rfl
 |c::w,h=>by rw[List.takeWhile_cons,h c (by simp),if_pos rfl,aO0 w fun x hx=>h x (List.mem_cons_of_mem _ hx)]
theorem WY {w r:List UInt8} (hw:∀ c ∈ w,y7 c=true) (hl:w.length≤4) (hr:w.length=4∨∀ c,r.head? =some c→y7 c=false):G6 (w++r)=w:=by
 unfold G6
 rw[List.take_append,List.take_of_length_le hl,List.takeWhile_append]
 have h1:w.takeWhile y7=w:=aO0 w hw
 rw[h1,if_pos rfl]
 rcases hr with h|h
 ·rw[h];simp
 ·cases r with
  |nil=>simp
  |cons c r=>
   have:=h c rfl
   cases hk:4 - w.length with
   |zero=>simp
   |succ k=>rw[List.take_succ_cons,List.takeWhile_cons,this];simp
theorem pU (l:List UInt8) (d:UInt8):W7 (l++ [d])=10*W7 l+((d.toNat:Int) - 48):=by simp[W7]
theorem rP:∀ (n u:Nat),u≤n→W7 (Lib.decDigits u)=u
 |n,u,hn=>by
  rw[Lib.decDigits]
  split
  ·rename_i h
   have:=(Y7 h).2
   simp only[W7,List.foldl_cons,List.foldl_nil,this]
   omega
  ·cases n with
   |zero=>omega
   |succ n=>
    rw[pU,rP n (u / 10) (by omega),(Y7 (show u % 10<10 by omega)).2]
    omega
theorem jQ {z:Int} (h:0≤z):W7 (Lib.itoa z)=z:=by
 obtain ⟨u,rfl⟩:=Int.eq_ofNat_of_zero_le h
 rw[Lib.itoa_nonneg]
 exact rP u u (Nat.le_refl _)
theorem D0 {z:Int} (h:0≤z) (h1:z≤9999):(Lib.itoa z).length≤4:=by
 obtain ⟨u,rfl⟩:=Int.eq_ofNat_of_zero_le h
 rw[Lib.itoa_nonneg]
 exact bQ 3 u (by omega)
def P7 (r:List UInt8):Prop:=∀ c,r.head? =some c→y7 c=false
theorem Z8 {z:Int} (h:0≤z) (h1:z≤9999) {r:List UInt8} (hr:P7 r):G6 (Lib.itoa z++r)=Lib.itoa z:=
 WY (uS h) (D0 h h1) (.inr hr)
theorem dR {z:Int} (h:0≤z) (h1:z≤9999) {r:List UInt8} (hr:P7 r):cP (Lib.itoa z++r)=r:=by
 unfold cP
 rw[Z8 h h1 hr,List.drop_left]
def q8 (p s:List UInt8):Option (List UInt8):=if p.length≤s.length∧s.take p.length=p then some (s.drop p.length) else none
theorem H2 (p r:List UInt8):q8 p (p++r)=some r:=by
 unfold q8
 rw[if_pos ⟨by simp,by simp⟩]
 simp
def T6:List (List UInt8)→List UInt8→List Int→Option (List Int × List UInt8)
 | [],s,l=>some (l,s)
 |p::ps,s,l=>if G6 s= [] then none else match q8 p (cP s) with
  |none=>none
  |some t=>T6 ps t (l++ [W7 (G6 s)])
def E1 (f:List (List UInt8)) (s:List UInt8):Option (List Int × List UInt8):=match f with
 | []=>some ([],s)
 |p::ps=>match q8 p s with
  |none=>none
  |some t=>T6 ps t []
theorem vD:∀ (ps:List (List UInt8)) (s:List UInt8) (l m:List Int) (r:List UInt8),T6 ps s l=some (m,r)→m.length=l.length+ps.length∧r.length≤s.length
 | [],s,l,m,r,h=>by cases h;simp
 |p::ps,s,l,m,r,h=>by
  rw[T6] at h
  split at h
  ·cases h
  ·cases hc:q8 p (cP s) with
   |none=>rw[hc] at h;cases h
   |some t=>
    rw[hc] at h
    have:=vD ps t _ m r h
    unfold q8 at hc
    split at hc
    ·cases hc
     rw[List.length_append,List.length_drop] at this
     unfold cP at this
     rw[List.length_drop] at this
     simp only[List.length_cons,List.length_nil] at this ⊢
     omega
    ·cases hc
theorem vC {f:List (List UInt8)} {s r:List UInt8} {m:List Int} (hf:f ≠ []) (h:E1 f s=some (m,r)):m.length+1=f.length∧r.length≤s.length:=by
 cases f with
 |nil=>exact absurd rfl hf
 |cons p ps=>
  unfold E1 at h
  cases hc:q8 p s with
  |none=>simp only[hc] at h;cases h
  |some t=>
   simp only[hc] at h
   have:=vD ps t [] m r h
   unfold q8 at hc
   split at hc
   ·cases hc
    rw[List.length_drop] at this
    simp only[List.length_cons,List.length_nil] at this ⊢
    omega
   ·cases hc
theorem gF:∀ (ps:List (List UInt8)) (v:Int) (vs:List Int) (r:List UInt8) (l:List Int),ps ≠ []→vs.length+1=ps.length→(∀ z ∈ v::vs,0≤z∧z≤9999)→(∀ p ∈ ps.dropLast,p ≠ [])→(∀ p ∈ ps,P7 p)→P7 r→
  T6 ps (Lib.itoa v++fill ps vs++r) l=some (l++v::vs,r)
 | [],v,vs,r,l,h,_,_,_,_,_=>absurd rfl h
 | [p],v,vs,r,l,_,hl,hv,hne,hp,hr=>by
  have:vs= []:=by cases vs with
   |nil=>rfl
   |cons a b=>simp at hl
  subst this
  have h0:=hv v (by simp)
  have hnd:P7 (p++r):=by
   cases p with
   |nil=>exact hr
   |cons c q=>intro d hd;exact hp (c::q) (by simp) d (by simpa using hd)
  rw[fill,List.append_assoc,T6,Z8 h0.1 h0.2 hnd,if_neg sA,dR h0.1 h0.2 hnd,H2,jQ h0.1]
  rfl
 |p::q::ps,v,vs,r,l,_,hl,hv,hne,hp,hr=>by
  cases vs with
  |nil=>simp at hl
  |cons u us=>
   have h0:=hv v (by simp)
   have hpn:=hne p (by simp)
   have hnd:P7 (p++(Lib.itoa u++fill (q::ps) us++r)):=by
    cases p with
    |nil=>exact absurd rfl hpn
    |cons c t=>intro d hd;exact hp (c::t) (by simp) d (by simpa using hd)
   have e:Lib.itoa v++fill (p::q::ps) (u::us)++r=Lib.itoa v++(p++(Lib.itoa u++fill (q::ps) us++r)):=by
    rw[fill]
    ·simp
    ·simp
   rw[e,T6,Z8 h0.1 h0.2 hnd,if_neg sA,dR h0.1 h0.2 hnd,H2,jQ h0.1]
   simp only
   rw[gF (q::ps) u us r _ (by simp) (by simpa using hl) (fun z hz=>hv z (List.mem_cons_of_mem _ hz)) (fun z hz=>hne z (by simp at hz ⊢;exact .inr hz)) (fun z hz=>hp z (List.mem_cons_of_mem _ hz)) hr]
   simp
def bW:List UInt8:=32::N6
def H3 (p s:List UInt8):Option (List UInt8):=if p.length≤s.length∧s.drop (s.length - p.length)=p then some (s.take (s.length - p.length)) else none
theorem tO (p r:List UInt8):H3 p (r++p)=some r:=by
 unfold H3
 rw[if_pos ⟨by simp,by simp⟩]
 simp
def qI (k:Nat) (p:Bool) (m:List Int):r5:=if countB k=true then ⟨k,p,0,0⟩ else match m with
 | [a,b]=>⟨k,p,a,b⟩
 | [a]=>⟨k,p,a,0⟩
 |_=>⟨k,p,0,0⟩
def V9 (k:Nat) (m:List Int) (rest:List UInt8):Int × List UInt8:=if countB k=true then (m.headD 0,rest) else match H3 bW rest with
 |none=>(1,rest)
 |some t=>(W7 (G6 ((q8 [32] t).getD t)),cP ((q8 [32] t).getD t))
def M5 (x:r5) (q:Int × List UInt8) (s:List UInt8):Option (r5 × Int):=if q.2= []∧(1≤q.1∧q.1≤200)∧B1 x∧n4 x q.1=s then some (x,q.1) else none
def fC (k:Nat) (p:Bool) (s:List UInt8):Option (r5 × Int):=match E1 (n5 k p) s with
 |none=>none
 |some (m,r)=>M5 (qI k p m) (V9 k m r) s
theorem tG {x y:r5} {q:Int × List UInt8} {s:List UInt8} {n:Int} (h:M5 x q s=some (y,n)):R8 s=some (y,n):=by
 unfold M5 at h
 split at h
 ·rename_i hc
  cases h
  rw[← hc.2.2.2]
  exact nN hc.2.2.1 hc.2.1.1 hc.2.1.2
 ·cases h
theorem PE {k:Nat} {p:Bool} {s:List UInt8} {x:r5} {n:Int} (h:fC k p s=some (x,n)):R8 s=some (x,n):=by
 unfold fC at h
 cases hm:E1 (n5 k p) s with
 |none=>rw[hm] at h;cases h
 |some r=>
  obtain ⟨m,r⟩:=r
  rw[hm] at h
  exact tG h
instance bO6 (r:List UInt8):Decidable (P7 r):=decidable_of_iff (r.head?.all (fun c=> !y7 c)=true) (by
 cases r with
 |nil=>simp[P7]
 |cons c r=>simp[P7])
theorem PS:∀ k p,∀ w ∈ n5 k p,P7 w:=by
 intro k p
 unfold n5
 split<;>cases p<;>decide
theorem PT:∀ k p,∀ w ∈ (n5 k p).tail.dropLast,w ≠ []:=by
 intro k p
 unfold n5
 split<;>cases p<;>decide
theorem RC (x:r5) (n:Int):P7 (H4 x n):=by
 unfold H4
 split
 ·intro c hc;cases hc;decide
 ·intro c hc;cases hc
theorem FP {x:r5} {n:Int} (hx:B1 x) (h0:1≤n) (h1:n≤200):E1 (n5 x.kind x.purl) (n4 x n)=some (if x.kind=2 then [] else (if x.kind=6∨x.kind=7 then [x.a,x.b] else if x.kind=1∨x.kind=8 then [n] else [x.a]),H4 x n):=by
 rw[nF n hx]
 have hd:=PS x.kind x.purl
 have hm:=PT x.kind x.purl
 have ht:=RC x n
 have hb:=hx.bounds
 have two:∀ (p q:List UInt8) (v:Int),0≤v→v≤9999→P7 q→∀ t,P7 t→E1 [p,q] (fill [p,q] [v]++t)=some ([v],t):=fun p q v a b c t d=>by
  rw[fill,List.append_assoc,E1,H2]
  ·have:=gF [q] v [] t [] (by simp) rfl (by simp;omega) (by simp) (by simpa using c) d
   exact this
  ·simp
 have one:∀ p t:List UInt8,E1 [p] (p++t)=some ([],t):=fun p t=>by
  unfold E1
  simp only[H2]
  rfl
 have two':∀ (p q:List UInt8) (v u:Int),0≤v→v≤9999→P7 q→∀ t,P7 t→E1 [p,q] (fill [p,q] [v,u]++t)=some ([v],t):=fun p q v u a b c t d=>by
  have:=two p q v a b c t d
  have e:fill [p,q] [v,u]=fill [p,q] [v]:=by
   rw[fill,fill,fill,fill]<;>simp
  rw[e];exact this
 have three:∀ (p q r:List UInt8) (v u:Int),0≤v→v≤9999→0≤u→u≤9999→P7 q→q ≠ []→P7 r→∀ t,P7 t→E1 [p,q,r] (fill [p,q,r] [v,u]++t)=some ([v,u],t):=fun p q r v u a b a' b' c c' d t e=>by
  rw[fill,List.append_assoc,E1,H2]
  ·have:=gF [q,r] v [u] t [] (by simp) rfl (by simp;omega) (by simpa using c') (by simpa using ⟨c,d⟩) e
   exact this
  ·simp
 obtain ⟨k,p,a,b⟩:=x
 unfold B1 at hx
 simp only at hx hb hd hm ht ⊢
 rcases hx with ⟨rfl|rfl,rfl,rfl⟩|⟨rfl,rfl,rfl,rfl⟩|⟨rfl|rfl|rfl,h2,h3,rfl⟩|⟨rfl|rfl,h2,h3⟩|⟨rfl,rfl,h2,h3,rfl⟩|⟨rfl,h2,h3,rfl⟩
 ·exact two _ _ n (by omega) (by omega) (hd _ (by simp[n5])) _ ht
 ·exact two _ _ n (by omega) (by omega) (hd _ (by simp[n5])) _ ht
 ·exact one _ _
 ·exact two' _ _ a 0 (by omega) (by omega) (hd _ (by simp[n5])) _ ht
 ·exact two' _ _ a 0 (by omega) (by omega) (hd _ (by simp[n5])) _ ht
 ·exact two' _ _ a 0 (by omega) (by omega) (hd _ (by simp[n5])) _ ht
 ·exact three _ _ _ a b (by omega) (by omega) (by omega) (by omega) (hd _ (by simp[n5])) (hm _ (by simp[n5])) (hd _ (by simp[n5])) _ ht
 ·exact three _ _ _ a b (by omega) (by omega) (by omega) (by omega) (hd _ (by simp[n5])) (hm _ (by simp[n5])) (hd _ (by simp[n5])) _ ht
 ·exact two' _ _ a 0 (by omega) (by omega) (hd _ (by simp[n5])) _ ht
 ·exact two' _ _ a 0 (by omega) (by omega) (hd _ (by simp[n5])) _ ht
theorem IG {x:r5} {n:Int} (hk:¬ (x.kind=1∨x.kind=8)) (h0:1≤n) (h1:n≤200) (m:List Int):V9 x.kind m (H4 x n)=(n,[]):=by
 unfold V9 countB
 rw[decide_eq_false hk,if_neg (by decide)]
 unfold H4
 by_cases h2:1<n
 ·rw[if_pos ⟨h2,fun e=>hk (.inl e),fun e=>hk (.inr e)⟩,show (32::(Lib.itoa n++32::N6))=(32::Lib.itoa n)++bW from by simp[bW],tO]
  have e:q8 [32] (32::Lib.itoa n)=some (Lib.itoa n):=H2 [32] (Lib.itoa n)
  have hd:P7 []:=by decide
  have d1:=Z8 (z:=n) (by omega) (by omega) hd
  have d2:=dR (z:=n) (by omega) (by omega) hd
  rw[List.append_nil] at d1 d2
  simp only[e,Option.getD_some,d1,d2,jQ (show 0≤n by omega)]
 ·rw[if_neg (fun e=>h2 e.1)]
  have:n=1:=by omega
  subst this
  rfl
theorem aA5 {x:r5} {n:Int} (hx:B1 x) (h0:1≤n) (h1:n≤200):fC x.kind x.purl (n4 x n)=some (x,n):=by
 unfold fC
 rw[FP hx h0 h1]
 simp only
 have fin:∀ m,qI x.kind x.purl m=x→V9 x.kind m (H4 x n)=(n,[])→M5 (qI x.kind x.purl m) (V9 x.kind m (H4 x n)) (n4 x n)=some (x,n):=fun m e1 e2=>by
  rw[e1,e2]
  unfold M5
  rw[if_pos ⟨rfl,⟨h0,h1⟩,hx,rfl⟩]
 have hb:=hx.bounds
 have hx':=hx
 unfold B1 at hx'
 refine fin _ ?_ ?_
 ·clear fin
  obtain ⟨k,p,a,b⟩:=x
  simp only at hx' ⊢
  rcases hx' with ⟨rfl|rfl,rfl,rfl⟩|⟨rfl,rfl,rfl,rfl⟩|⟨rfl|rfl|rfl,h2,h3,rfl⟩|⟨rfl|rfl,h2,h3⟩|⟨rfl,rfl,h2,h3,rfl⟩|⟨rfl,h2,h3,rfl⟩<;>rfl
 ·by_cases hk:x.kind=1∨x.kind=8
  ·have ht:H4 x n= []:=by unfold H4;rw[if_neg (by omega)]
   rw[ht]
   unfold V9 countB
   rw[decide_eq_true hk,if_pos rfl]
   rcases hk with e|e<;>simp[e]
  ·exact IG hk h0 h1 _
def K2 (l:List UInt8):Option Int:=if l ≠ []∧l.length≤4∧(1<l.length→l[0]! ≠ 48)∧l.all y7=true then some (((Lib.decFrom 0 l).getD 0:Nat):Int) else none
theorem pF {z:Int} (h0:0≤z) (h1:z≤9999):K2 (Lib.itoa z)=some z:=by
 have hd:=uS h0
 have hl:=D0 h0 h1
 obtain ⟨u,rfl⟩:=Int.eq_ofNat_of_zero_le h0
 rw[Lib.itoa_nonneg] at hd hl ⊢
 have hf:=K7 u u (Nat.le_refl _)
 have h48:∀ (n u:Nat),u≤n→1<(Lib.decDigits u).length→(Lib.decDigits u)[0]! ≠ 48:=by
  intro n
  induction n with
  |zero=>intro u hu h;rw[show u=0 by omega,Lib.decDigits,dif_pos (by decide)] at h;simp at h
  |succ n ih=>
   intro u hu h
   rw[Lib.decDigits] at h ⊢
   split at h
   ·simp at h
   ·rename_i h10
    rw[dif_neg h10]
    by_cases h2:1<(Lib.decDigits (u / 10)).length
    ·have:=ih (u / 10) (by omega) h2
     rw[getElem!_pos _ 0 (by simp),List.getElem_append_left (by omega),← getElem!_pos _ 0 (by omega)]
     exact this
    ·have hlt:u / 10<10:=by
      refine Classical.byContradiction fun hc=>h2 ?_
      rw[Lib.decDigits,dif_neg hc,List.length_append]
      have:=List.length_pos_iff.2 (Y0 (u / 10 / 10))
      simp;omega
     rw[Lib.decDigits,dif_pos hlt]
     show UInt8.ofNat (48+u / 10) ≠ 48
     intro e
     have e2:=congrArg UInt8.toNat e
     rw[(Y7 hlt).2] at e2
     have:(48:UInt8).toNat=48:=rfl
     omega
 unfold K2
 rw[if_pos ⟨Y0 u,hl,h48 u u (Nat.le_refl _),List.all_eq_true.2 hd⟩,hf]
 rfl
theorem vN {c:UInt8} {l:List UInt8} (h:y7 c=false):K2 (c::l)=none:=by
 unfold K2
 rw[if_neg]
 intro hh
 have:=List.all_eq_true.1 hh.2.2.2 c (by simp)
 rw[h] at this;cases this
def L0 (ws:List (List UInt8)):List Int:=ws.filterMap K2
def X5 (k:Nat) (p:Bool) (l:List Int):r5 × Int:=
 if k=1∨k=8 then (⟨k,p,0,0⟩,if l.length=0 then 0 else l[0]!)
 else if k=2 then (⟨k,p,0,0⟩,if 0<l.length then l[0]! else 1)
 else if l.length=0 then (⟨k,p,0,0⟩,0)
 else if k=5 then (⟨k,p,l[0]!,0⟩,if 2<l.length then l[2]! else 1)
 else if k=6∨k=7 then (if l.length<2 then (⟨k,p,l[0]!,0⟩,0) else (⟨k,p,l[0]!,l[1]!⟩,if 2<l.length then l[2]! else 1))
 else (⟨k,p,l[0]!,0⟩,if 1<l.length then l[1]! else 1)
def qH (k:Nat) (p:Bool) (s:List UInt8):Option (r5 × Int):=M5 (X5 k p (L0 (r4 32 s))).1 ((X5 k p (L0 (r4 32 s))).2,[]) s
theorem PF {k:Nat} {p:Bool} {s:List UInt8} {x:r5} {n:Int} (h:qH k p s=some (x,n)):R8 s=some (x,n):=tG h
theorem GS {x:r5} {n:Int} (hx:B1 x) (h0:1≤n) (h1:n≤200):X5 x.kind x.purl (L0 (H7 x n))=(x,n):=by
 have hb:=hx.bounds
 have n1:=pF (z:=n) (by omega) (by omega)
 have n2:=pF (z:=x.a) (by omega) (by omega)
 have n3:=pF (z:=x.b) (by omega) (by omega)
 have ht:L0 (aU x n)=if 1<n∧x.kind ≠ 1∧x.kind ≠ 8 then [n] else []:=by
  unfold aU
  split
  ·simp[L0,n1,vN (show y7 116=false by decide)]
  ·rfl
 have hbase:L0 (G5 x n)=(if x.kind=2 then [] else (if x.kind=6∨x.kind=7 then [x.a,x.b] else if x.kind=1∨x.kind=8 then [n] else if x.kind=5 then [x.a,1] else [x.a])):=by
  have bad:∀ (c:UInt8) (l:List UInt8),y7 c=false→K2 (c::l)=none:=fun c l h=>vN h
  have e1:K2 w1=some 1:=by decide
  have side:∀ p,K2 (hI p)=none:=by intro p;cases p<;>exact vN (by decide)
  have wise:∀ p,(iF p).filterMap K2= []:=by intro p;cases p<;>decide
  have ff:∀ p:Bool,(if p=true then [aQ1,yD,wIn,pY] else []).filterMap K2= []:=by intro p;cases p<;>decide
  have cs:K2 yD=none∧K2 aQ0=none∧K2 bA1=none∧K2 RN=none∧K2 wOn=none∧K2 bM8=none∧K2 WC=none∧K2 bM7=none∧K2 wOf=none∧K2 yC=none∧K2 wIn=none∧K2 pY=none∧K2 GW=none∧K2 WE=none∧K2 WB=none∧K2 VZ=none∧K2 bM6=none:=by decide
  obtain ⟨c1,c2,c3,c4,c5,c6,c7,c8,c9,c10,c11,c12,c13,c14,c15,c16,c17⟩:=cs
  obtain ⟨k,p,a,b⟩:=x
  unfold B1 at hx
  simp only at hx n1 n2 n3
  rcases hx with ⟨rfl|rfl,rfl,rfl⟩|⟨rfl,rfl,rfl,rfl⟩|⟨rfl|rfl|rfl,h2,h3,rfl⟩|⟨rfl|rfl,h2,h3⟩|⟨rfl,rfl,h2,h3,rfl⟩|⟨rfl,h2,h3,rfl⟩
  all_goals
   simp only[L0,G5,List.filterMap_append,List.filterMap_cons,List.filterMap_nil,n1,n2,n3,e1,side,wise,ff,c1,c2,c3,c4,c5,c6,c7,c8,c9,c10,c11,c12,c13,c14,c15,c16,c17]
   rfl
 have hall:L0 (H7 x n)=L0 (G5 x n)++L0 (aU x n):=List.filterMap_append
 rw[hall,hbase,ht]
 obtain ⟨k,p,a,b⟩:=x
 unfold B1 at hx
 simp only at hx
 by_cases h2:1<n
 all_goals
  rcases hx with ⟨rfl|rfl,rfl,rfl⟩|⟨rfl,rfl,rfl,rfl⟩|⟨rfl|rfl|rfl,h3,h4,rfl⟩|⟨rfl|rfl,h3,h4⟩|⟨rfl,rfl,h3,h4,rfl⟩|⟨rfl,h3,h4,rfl⟩
  all_goals
   simp[X5,h2]
   try omega
theorem aA6 {x:r5} {n:Int} (hx:B1 x) (h0:1≤n) (h1:n≤200):qH x.kind x.purl (n4 x n)=some (x,n):=by
 unfold qH
 rw[bT hx (by omega),GS hx h0 h1]
 unfold M5
 rw[if_pos ⟨rfl,⟨h0,h1⟩,hx,rfl⟩]
theorem BO {cand:Nat→Bool→List UInt8→Option (r5 × Int)} (hof:∀ {x:r5} {n:Int},B1 x→1≤n→n≤200→cand x.kind x.purl (n4 x n)=some (x,n)) {s:List UInt8} (h:∀ k p,1≤k→k≤10→cand k p s=none):R8 s=none:=by
 cases hr:R8 s with
 |none=>rfl
 |some r=>
  obtain ⟨x,n⟩:=r
  obtain ⟨a,b,c⟩:=lJ hr
  have:=hof a b.1 b.2
  rw[c,h x.kind x.purl a.bounds.1 a.bounds.2.1] at this
  cases this
end Go.Itp
namespace Go.Proofs.YtimmmnanllcfoaaDoor
open Go Go.Itp
set_option maxRecDepth 100000
set_option maxHeartbeats 400000
set_option linter.unusedSimpArgs false
set_option linter.unusedVariables false
def fL:Nat→List UInt8
 |3=> [102]|4=> [108]|5=> [109]|6=> [120]|7=> [121]|8=> [115]|10=> [111]
 |_=> []
def fA0:Nat→Int
 |3=>2|4=>2|5=>2|6=>1|7=>1|9=>1|10=>1
 |_=>0
def fA1:Nat→Int
 |3=>4|4=>4|5=>4|6=>6|7=>6|9=>200|10=>200
 |_=>0
def fB0:Nat→Int
 |6=>1|7=>1
 |_=>0
def fB1:Nat→Int
 |6=>6|7=>6
 |_=>0
def fS:Nat→Bool
 |2=>false|9=>false
 |_=>true
def fU:Nat→Nat
 |1=>1|2=>0|3=>2|4=>2|5=>1|6=>3|7=>3|8=>1|9=>0
 |_=>2
def fM:Nat→Nat
 |1=>1|2=>1|3=>1|4=>1|5=>2|6=>3|7=>3|8=>1|9=>2
 |_=>0
def aC (k:Nat):List Value:= [.string ⟨(fL k).toArray⟩,.int .i64 (fA0 k),.int .i64 (fA1 k),.int .i64 (fB0 k),.int .i64 (fB1 k),.bool (fS k),.int .i64 (fU k),.int .i64 (fM k)]
def PV:List D:=(aC 1++aC 2++aC 3++aC 4++aC 5++aC 6++aC 7++aC 8++aC 9++aC 10).map D.sc
theorem bT2 (s g u m:Value) (a b c d:Value):W8 (QO (QO [.sc s,.sc (.int .i64 0),.sc (.int .i64 0),.sc (.int .i64 0),.sc (.int .i64 0),.sc (.bool false),.sc (.int .i64 0),.sc (.int .i64 0)] 1 [.sc a,.sc b]) 3 [.sc c,.sc d]) [(5,1,.sc g),(6,1,.sc u),(7,1,.sc m)]=some [.sc s,.sc a,.sc b,.sc c,.sc d,.sc g,.sc u,.sc m]:=(rfl)
theorem bT3 (nx t:Nat):N3 nx t 8 10 [.string ⟨#[]⟩,.int .i64 0,.int .i64 0,.int .i64 0,.int .i64 0,.bool false,.int .i64 0,.int .i64 0] [(0,8,.agg [.sc (.string ⟨#[]⟩),.sc (.int .i64 0),.sc (.int .i64 0),.sc (.int .i64 0),.sc (.int .i64 0),.sc (.bool true),.sc (.int .i64 1),.sc (.int .i64 1)]),(8,8,.agg [.sc (.string ⟨#[]⟩),.sc (.int .i64 0),.sc (.int .i64 0),.sc (.int .i64 0),.sc (.int .i64 0),.sc (.bool false),.sc (.int .i64 0),.sc (.int .i64 1)]),(16,8,.agg [.sc (.string ⟨#[102]⟩),.sc (.int .i64 2),.sc (.int .i64 4),.sc (.int .i64 0),.sc (.int .i64 0),.sc (.bool true),.sc (.int .i64 2),.sc (.int .i64 1)]),(24,8,.agg [.sc (.string ⟨#[108]⟩),.sc (.int .i64 2),.sc (.int .i64 4),.sc (.int .i64 0),.sc (.int .i64 0),.sc (.bool true),.sc (.int .i64 2),.sc (.int .i64 1)]),(32,8,.agg [.sc (.string ⟨#[109]⟩),.sc (.int .i64 2),.sc (.int .i64 4),.sc (.int .i64 0),.sc (.int .i64 0),.sc (.bool true),.sc (.int .i64 1),.sc (.int .i64 2)]),(40,8,.agg [.sc (.string ⟨#[120]⟩),.sc (.int .i64 1),.sc (.int .i64 6),.sc (.int .i64 1),.sc (.int .i64 6),.sc (.bool true),.sc (.int .i64 3),.sc (.int .i64 3)]),(48,8,.agg [.sc (.string ⟨#[121]⟩),.sc (.int .i64 1),.sc (.int .i64 6),.sc (.int .i64 1),.sc (.int .i64 6),.sc (.bool true),.sc (.int .i64 3),.sc (.int .i64 3)]),(56,8,.agg [.sc (.string ⟨#[115]⟩),.sc (.int .i64 0),.sc (.int .i64 0),.sc (.int .i64 0),.sc (.int .i64 0),.sc (.bool true),.sc (.int .i64 1),.sc (.int .i64 1)]),(64,8,.agg [.sc (.string ⟨#[]⟩),.sc (.int .i64 1),.sc (.int .i64 200),.sc (.int .i64 0),.sc (.int .i64 0),.sc (.bool false),.sc (.int .i64 0),.sc (.int .i64 2)]),(72,8,.agg [.sc (.string ⟨#[111]⟩),.sc (.int .i64 1),.sc (.int .i64 200),.sc (.int .i64 0),.sc (.int .i64 0),.sc (.bool true),.sc (.int .i64 2),.sc (.int .i64 0)])]=some (.ref nx 0 10 10,some (.row t 8 false false PV),[]):=(rfl)
theorem XD (k:Nat) (h1:1≤k) (h2:k≤10):E9 PV ((k - 1)*8) (some 8)=some (.agg ((aC k).map V.sc)):=by
 rcases (by omega:k=1∨k=2∨k=3∨k=4∨k=5∨k=6∨k=7∨k=8∨k=9∨k=10) with rfl|rfl|rfl|rfl|rfl|rfl|rfl|rfl|rfl|rfl<;>rfl
attribute [local irreducible] PV
theorem YS {x:r5} (h1:1≤x.kind) (h2:x.kind≤10):B1 x↔(fA0 x.kind≤x.a∧x.a≤fA1 x.kind)∧(fB0 x.kind≤x.b∧x.b≤fB1 x.kind)∧(x.purl=true→fS x.kind=true):=by
 obtain ⟨k,p,a,b⟩:=x
 simp only at h1 h2 ⊢
 unfold B1
 simp only
 rcases (by omega:k=1∨k=2∨k=3∨k=4∨k=5∨k=6∨k=7∨k=8∨k=9∨k=10) with rfl|rfl|rfl|rfl|rfl|rfl|rfl|rfl|rfl|rfl
 all_goals
  cases p<;>simp[fA0,fA1,fB0,fB1,fS]<;>omega
theorem YT {x:r5} (h:¬ (1≤x.kind∧x.kind≤10)):B5 x=false:=by
 rw[← Bool.not_eq_true,A1]
 intro hx
 exact h ⟨hx.bounds.1,hx.bounds.2.1⟩
def FO (x:r5) (h:Nat):Int:=if h=0 then 0 else if h=1 then 1 else if h=2 then x.a else x.a+x.b
theorem RH {x:r5} (h1:1≤x.kind) (h2:x.kind≤10):M9 x=FO x (fU x.kind)∧M8 x=FO x (fM x.kind):=by
 obtain ⟨k,p,a,b⟩:=x
 simp only at h1 h2 ⊢
 rcases (by omega:k=1∨k=2∨k=3∨k=4∨k=5∨k=6∨k=7∨k=8∨k=9∨k=10) with rfl|rfl|rfl|rfl|rfl|rfl|rfl|rfl|rfl|rfl
 all_goals
  simp[M9,M8,FO,fU,fM]
theorem aC4 (k:Nat):fU k≤3∧fM k≤3:=by
 constructor
 ·unfold fU;split<;>decide
 ·unfold fM;split<;>decide
abbrev dV (x:r5):V:= .agg [.sc (.int .u8 x.kind),.sc (.bool x.purl),.sc (.int .i64 x.a),.sc (.int .i64 x.b)]
theorem ZK:Int.toNat 0=0:=rfl
theorem tn1:Int.toNat 1=1:=rfl
theorem tn2:Int.toNat 2=2:=rfl
section
variable (w:World) (n:Nat)
theorem SQ (k:Nat) (hk:1≤k) (hk2:k≤10):k7 (EN w (n+1)) 70 [.sc (.int .u8 k)] (.tup [.agg ((aC k).map V.sc),.sc (.bool true)]) ⟨[],0,0⟩:=by
 refine b9 rfl rfl (fun _ _=>rfl) (Nat.le_of_ble_eq_true rfl) (d9 w) rfl fun C hC h0=>?_
 have hld:=XD k hk hk2
 have hw:IntKind.u8.wrap ((k:Int) - 1)=((k - 1:Nat):Int):=by rw[sI _ (by omega) (by omega)];omega
 unfold aC at hld ⊢
 simp (disch:=first|omega|assumption|exact bd (by with_unfolding_all rfl)|exact Or.inl rfl|(simp only[a7]<;>omega)|fail) only[O1,WA,Nat.reduceEqDiff,Nat.reduceLT,Nat.reduceAdd,↓reduceIte,reduceCtorEq,List.replicate,c70,bT2,↓bT3]
 rw[hw]
 simp (disch:=first|omega|assumption|exact bd (by with_unfolding_all rfl)|exact Or.inl rfl|(simp only[a7]<;>omega)|fail) only[O1,WA,Nat.reduceEqDiff,Nat.reduceLT,↓reduceIte,reduceCtorEq,hld]
 exact b8 rfl h0 rfl
theorem aC7 (k:Nat) (hk:¬ (1≤k∧k≤10)) (hb:k<256):k7 (EN w (n+1)) 70 [.sc (.int .u8 k)] (.tup [.agg [.sc (.string ⟨#[]⟩),.sc (.int .i64 0),.sc (.int .i64 0),.sc (.int .i64 0),.sc (.int .i64 0),.sc (.bool false),.sc (.int .i64 0),.sc (.int .i64 0)],.sc (.bool false)]) ⟨[],0,0⟩:=by
 have hne:¬ (k:Int)<1→10<(k:Int):=by omega
 by_cases h1:(k:Int)<1
 all_goals
  refine b9 rfl rfl (fun _ _=>rfl) (Nat.le_of_ble_eq_true rfl) (d9 w) rfl fun C hC h0=>?_
  repeat' (first|(simp (disch:=first|omega|assumption|exact bd (by with_unfolding_all rfl)|exact Or.inl rfl|(simp only[a7]<;>omega)|fail) only[O1,WA,Nat.reduceEqDiff,Nat.reduceLT,Nat.reduceAdd,↓reduceIte,reduceCtorEq,List.replicate,c70,bT2,↓bT3])|apply r6|((first|apply C5|apply y9|apply x6|apply C6|apply C4|apply x7)<;>intro _))
  all_goals try (exfalso;omega)
  exact b8 rfl h0 rfl
theorem ON (v lo hi:Int):k7 (EN w (n+1)) 71 [.sc (.int .i64 v),.agg [.sc (.int .i64 lo),.sc (.int .i64 hi)]] (.sc (.bool (decide (lo≤v∧v≤hi)))) ⟨[],0,0⟩:=by
 refine b9 rfl rfl (fun _ _=>rfl) (Nat.le_of_ble_eq_true rfl) (d9 w) rfl fun C hC h0=>?_
 by_cases h1:lo≤v
 ·by_cases h2:v≤hi
  ·rw[decide_eq_true ⟨h1,h2⟩]
   simp (disch:=first|omega|assumption|exact bd (by with_unfolding_all rfl)|exact Or.inl rfl|(simp only[a7]<;>omega)|fail) only[O1,WA,Nat.reduceEqDiff,Nat.reduceLT,↓reduceIte,reduceCtorEq,c71,ZK,tn1]
   all_goals try (exfalso;omega)
   exact b8 rfl h0 rfl
  ·rw[decide_eq_false (fun h=>h2 h.2)]
   simp (disch:=first|omega|assumption|exact bd (by with_unfolding_all rfl)|exact Or.inl rfl|(simp only[a7]<;>omega)|fail) only[O1,WA,Nat.reduceEqDiff,Nat.reduceLT,↓reduceIte,reduceCtorEq,c71,ZK,tn1]
   all_goals try (exfalso;omega)
   exact b8 rfl h0 rfl
 ·rw[decide_eq_false (fun h=>h1 h.1)]
  simp (disch:=first|omega|assumption|exact bd (by with_unfolding_all rfl)|exact Or.inl rfl|(simp only[a7]<;>omega)|fail) only[O1,WA,Nat.reduceEqDiff,Nat.reduceLT,↓reduceIte,reduceCtorEq,c71,ZK,tn1]
  all_goals try (exfalso;omega)
  exact b8 rfl h0 rfl
end
end Go.Proofs.YtimmmnanllcfoaaDoor
namespace Go.Proofs.YtimmmnanllcfoaaDoor
open Go Go.Itp
set_option maxRecDepth 100000
set_option maxHeartbeats 400000
set_option linter.unusedSimpArgs false
set_option linter.unusedVariables false
def z6 (L:List r5):List D:=L.flatMap fun x=> [.sc (.int .u8 x.kind),.sc (.bool x.purl),.sc (.int .i64 x.a),.sc (.int .i64 x.b)]
theorem E3 (L:List r5):(z6 L).length=L.length*4:=by
 induction L with
 |nil=>rfl
 |cons p L ih=>
  have e:z6 (p::L)= [.sc (.int .u8 p.kind),.sc (.bool p.purl),.sc (.int .i64 p.a),.sc (.int .i64 p.b)]++z6 L:=by simp[z6]
  rw[e,List.length_append,ih];simp;omega
theorem J4 (L:List r5) (k:Nat) (hk:k<L.length):E9 (z6 L) (k*4) (some 4)=some (dV L[k]!):=by
 have:=PL (fun x:r5=> [D.sc (.int .u8 x.kind),.sc (.bool x.purl),.sc (.int .i64 x.a),.sc (.int .i64 x.b)]) 4 L (fun _=>rfl) (by decide) k hk
 unfold z6
 rw[this]
 rfl
theorem ix0 (a b c d:V):uQ 4 1 none (.agg [a,b,c,d]) (.sc (.int .i64 ((0:Nat):Int)))=some a:=(rfl)
theorem ix1 (a b c d:V):uQ 4 1 none (.agg [a,b,c,d]) (.sc (.int .i64 ((1:Nat):Int)))=some b:=(rfl)
theorem ix2 (a b c d:V):uQ 4 1 none (.agg [a,b,c,d]) (.sc (.int .i64 ((2:Nat):Int)))=some c:=(rfl)
theorem ix3 (a b c d:V):uQ 4 1 none (.agg [a,b,c,d]) (.sc (.int .i64 ((3:Nat):Int)))=some d:=(rfl)
section
variable (w:World) (n:Nat)
theorem MP (x:r5) (hk:x.kind<256):k7 (EN w (n+2)) 49 [dV x] (.sc (.int .i64 (if B5 x=true then 0 else 8))) ⟨[],0,0⟩:=by
 by_cases hr:1≤x.kind∧x.kind≤10
 ·have hf:=SQ w n x.kind hr.1 hr.2
  have w1:=ON w n x.a (fA0 x.kind) (fA1 x.kind)
  have w2:=ON w n x.b (fB0 x.kind) (fB1 x.kind)
  have he:B5 x=(decide (fA0 x.kind≤x.a∧x.a≤fA1 x.kind) && (decide (fB0 x.kind≤x.b∧x.b≤fB1 x.kind) && (!x.purl||fS x.kind))):=by
   have h1:=YS hr.1 hr.2
   rw[Bool.eq_iff_iff,A1,h1]
   cases x.purl<;>simp
  rw[he]
  unfold aC at hf
  generalize decide (fA0 x.kind≤x.a∧x.a≤fA1 x.kind)=A at*
  generalize decide (fB0 x.kind≤x.b∧x.b≤fB1 x.kind)=B at*
  generalize fS x.kind=S at*
  obtain ⟨k,p,a,b⟩:=x
  simp only at hf w1 w2 ⊢
  have go:∀ e:Int,(A=false∧e=8)∨(A=true∧B=false∧e=8)∨(A=true∧B=true∧p=false∧e=0)∨(A=true∧B=true∧p=true∧S=false∧e=8)∨(A=true∧B=true∧p=true∧S=true∧e=0)→k7 (EN w (n+2)) 49 [dV ⟨k,p,a,b⟩] (.sc (.int .i64 e)) ⟨[],0,0⟩:=by
   rintro e (⟨rfl,rfl⟩|⟨rfl,rfl,rfl⟩|⟨rfl,rfl,rfl,rfl⟩|⟨rfl,rfl,rfl,rfl,rfl⟩|⟨rfl,rfl,rfl,rfl,rfl⟩)
   all_goals
    refine b9 rfl rfl (fun _ _=>rfl) (Nat.le_of_ble_eq_true rfl) (d9 w) rfl fun C hC h0=>?_
    repeat' (first|(simp (disch:=first|omega|assumption|exact bd (by with_unfolding_all rfl)|exact Or.inl rfl|(simp only[a7]<;>omega)|fail) only[O1,WA,Nat.reduceEqDiff,Nat.reduceLT,↓reduceIte,reduceCtorEq,c49]))
    refine a6 (by rw[hC];exact hf.flat rfl rfl) ?_
    repeat' (first|(simp (disch:=first|omega|assumption|exact bd (by with_unfolding_all rfl)|exact Or.inl rfl|(simp only[a7]<;>omega)|fail) only[O1,WA,Nat.reduceEqDiff,Nat.reduceLT,Nat.reduceAdd,↓reduceIte,reduceCtorEq,List.replicate]))
    refine a6 (by rw[hC];exact w1.flat rfl rfl) ?_
    repeat' (first|(simp (disch:=first|omega|assumption|exact bd (by with_unfolding_all rfl)|exact Or.inl rfl|(simp only[a7]<;>omega)|fail) only[O1,WA,Nat.reduceEqDiff,Nat.reduceLT,↓reduceIte,reduceCtorEq]))
   ·exact b8 rfl h0 rfl
   all_goals
    refine a6 (by rw[hC];exact w2.flat rfl rfl) ?_
    repeat' (first|(simp (disch:=first|omega|assumption|exact bd (by with_unfolding_all rfl)|exact Or.inl rfl|(simp only[a7]<;>omega)|fail) only[O1,WA,Nat.reduceEqDiff,Nat.reduceLT,↓reduceIte,reduceCtorEq]))
    exact b8 rfl h0 rfl
  refine go _ ?_
  cases A<;>cases B<;>cases p<;>cases S<;>simp
 ·have hf:=aC7 w n x.kind hr hk
  rw[YT hr]
  obtain ⟨k,p,a,b⟩:=x
  refine b9 rfl rfl (fun _ _=>rfl) (Nat.le_of_ble_eq_true rfl) (d9 w) rfl fun C hC h0=>?_
  simp (disch:=first|omega|assumption|exact bd (by with_unfolding_all rfl)|exact Or.inl rfl|(simp only[a7]<;>omega)|fail) only[O1,WA,Nat.reduceEqDiff,Nat.reduceLT,↓reduceIte,reduceCtorEq,c49]
  refine a6 (by rw[hC];exact hf.flat rfl rfl) ?_
  simp (disch:=first|omega|assumption|exact bd (by with_unfolding_all rfl)|exact Or.inl rfl|(simp only[a7]<;>omega)|fail) only[O1,WA,Nat.reduceEqDiff,Nat.reduceLT,Nat.reduceAdd,↓reduceIte,List.replicate]
  exact b8 rfl h0 rfl
theorem UA (x:r5) (h:Nat) (hh:h≤3) (ha: -1000000≤x.a∧x.a≤1000000) (hb: -1000000≤x.b∧x.b≤1000000):k7 (EN w (n+1)) 72 [dV x,.sc (.int .i64 h)] (.sc (.int .i64 (FO x h))) ⟨[],0,0⟩:=by
 obtain ⟨k,p,a,b⟩:=x
 simp only at ha hb
 rcases (by omega:h=0∨h=1∨h=2∨h=3) with rfl|rfl|rfl|rfl
 all_goals
  refine b9 rfl rfl (fun _ _=>rfl) (Nat.le_of_ble_eq_true rfl) (d9 w) rfl fun C hC h0=>?_
  repeat' (first|(simp (disch:=first|omega|assumption|exact bd (by with_unfolding_all rfl)|exact Or.inl rfl|(simp only[a7]<;>omega)|fail) only[O1,WA,Nat.reduceEqDiff,Nat.reduceLT,↓reduceIte,reduceCtorEq,c72,ix0,ix1,ix2,ix3]))
  all_goals try (exfalso;omega)
  exact b8 rfl h0 rfl
theorem jO {f:r5→Int} {L:List r5} (h:∀ x ∈ L,0≤f x∧f x≤1000):0≤N4 f L∧N4 f L≤1000*L.length:=by
 induction L with
 |nil=>simp[N4]
 |cons x L ih=>
  have h1:=h x (by simp)
  have h2:=ih fun y hy=>h y (List.mem_cons_of_mem _ hy)
  simp only[N4,List.length_cons]
  omega
theorem jN {f:r5→Int} {L:List r5} {k:Nat} (hk:k<L.length):N4 f (L.take (k+1))=N4 f (L.take k)+f L[k]! :=by
 have app:∀ A B:List r5,N4 f (A++B)=N4 f A+N4 f B:=by
  intro A B
  induction A with
  |nil=>simp[N4]
  |cons x A ih=>simp only[List.cons_append,N4,ih];omega
 rw[List.take_succ_eq_append_getElem hk,app,getElem!_pos _ k hk]
 simp[N4]
theorem U8 {x:r5} (h:B1 x):(0≤M9 x∧M9 x≤1000)∧0≤M8 x∧M8 x≤1000:=by
 have hb:=h.bounds
 unfold M9 M8
 constructor
 ·split
  ·omega
  split
  ·omega
  split<;>omega
 ·split
  ·omega
  split
  ·omega
  split<;>omega
theorem bK8 (s:Nat) (L:List r5) (hL:L.length≤200) (hok:L.all B5=true):k7 (EN w (n+2)) 50 [.sl s L.length (z6 L)] (.tup [.sc (.int .i64 (N4 M9 L)),.sc (.int .i64 (N4 M8 L))]) ⟨[],0,0⟩:=by
 refine b9 rfl rfl (fun _ _=>rfl) (Nat.le_of_ble_eq_true rfl) (d9 w) rfl fun C hC h0=>?_
 have hrn:C.E.rounds=D4:=by rw[hC,k8]
 have hil:=E3 L
 simp (disch:=first|omega|assumption|exact bd (by with_unfolding_all rfl)|exact Or.inl rfl|(simp only[a7]<;>omega)|fail) only[O1,WA,Nat.reduceEqDiff,Nat.reduceLT,↓reduceIte,reduceCtorEq,c50]
 all_goals try (exfalso;omega)
 refine x8 (fun m fr st=>∃ (k:Nat),m=L.length - k∧k≤L.length∧fr= [(2,.sc (.int .i64 (N4 M9 (L.take k)))),(3,.sc (.int .i64 (N4 M8 (L.take k)))),(8,.sl s L.length (z6 L)),(9,.sc (.int .i64 L.length)),(10,.sc (.int .i64 k))]∧st=⟨[],0,0⟩) L.length ?_ ⟨_,_,.refl _ _,0,by omega,Nat.zero_le _,rfl,rfl⟩ ?_
 ·rw[hrn];unfold D4;omega
 rintro m fr st ⟨k,rfl,hk,rfl,rfl⟩
 by_cases hlt:k<L.length
 case neg=>
  have:k=L.length:=by omega
  subst this
  rw[List.take_length]
  simp (disch:=first|omega|assumption|exact bd (by with_unfolding_all rfl)|exact Or.inl rfl|(simp only[a7]<;>omega)|fail) only[O1,WA,Nat.reduceEqDiff,Nat.reduceLT,↓reduceIte,aA0]
  all_goals try (exfalso;omega)
  exact b8 rfl h0 rfl
 have hag:=J4 L k hlt
 have u1:=jN (f:=M9) hlt
 have u2:=jN (f:=M8) hlt
 have htk:∀ x ∈ L.take k,B1 x:=fun x hx=>A1.1 (List.all_eq_true.1 hok x (List.mem_of_mem_take hx))
 have b1:=jO (f:=M9) fun x hx=>(U8 (htk x hx)).1
 have b2:=jO (f:=M8) fun x hx=>(U8 (htk x hx)).2
 have hl2:(L.take k).length≤200:=by rw[List.length_take];omega
 have hx:B1 L[k]! :=A1.1 (List.all_eq_true.1 hok _ (by rw[getElem!_pos _ k hlt];exact List.getElem_mem hlt))
 generalize L[k]! =X at*
 have hb:=hx.bounds
 have c1:=U8 hx
 have hf:=SQ w n X.kind hb.1 hb.2.1
 have l1:=UA w n X (fU X.kind) (aC4 _).1 (by omega) (by omega)
 have l2:=UA w n X (fM X.kind) (aC4 _).2 (by omega) (by omega)
 have e:=RH hb.1 hb.2.1
 rw[← e.1] at l1
 rw[← e.2] at l2
 unfold aC at hf
 generalize N4 M9 (L.take k)=U at*
 generalize N4 M8 (L.take k)=M at*
 generalize M9 X=uu at*
 generalize M8 X=mm at*
 obtain ⟨xk,xp,xa,xb⟩:=X
 simp (disch:=first|omega|assumption|exact bd (by with_unfolding_all rfl)|exact Or.inl rfl|(simp only[a7]<;>omega)|fail) only[O1,WA,Nat.reduceEqDiff,Nat.reduceLT,↓reduceIte,List.replicate,aA0,hag]
 all_goals try (exfalso;omega)
 refine a6 (by rw[hC];exact hf.flat rfl rfl) ?_
 simp (disch:=first|omega|assumption|exact bd (by with_unfolding_all rfl)|exact Or.inl rfl|(simp only[a7]<;>omega)|fail) only[O1,WA,Nat.reduceEqDiff,Nat.reduceLT,Nat.reduceAdd,↓reduceIte,reduceCtorEq,List.replicate]
 refine a6 (by rw[hC];exact l1.flat rfl rfl) ?_
 simp (disch:=first|omega|assumption|exact bd (by with_unfolding_all rfl)|exact Or.inl rfl|(simp only[a7]<;>omega)|fail) only[O1,WA,Nat.reduceEqDiff,Nat.reduceLT,↓reduceIte,reduceCtorEq]
 refine a6 (by rw[hC];exact l2.flat rfl rfl) ?_
 simp (disch:=first|omega|assumption|exact bd (by with_unfolding_all rfl)|exact Or.inl rfl|(simp only[a7]<;>omega)|fail) only[O1,WA,Nat.reduceEqDiff,Nat.reduceLT,↓reduceIte]
 all_goals try (exfalso;omega)
 refine ⟨L.length - (k+1),_,_,by omega,s7 [] 0 h0 rfl rfl rfl rfl,k+1,rfl,by omega,?_,rfl⟩
 rw[u1,u2]
 rfl
end
abbrev RS (L:List r5):Prop:=∀ x ∈ L,x.kind<256
theorem RS.at {L:List r5} (h:RS L) {k:Nat} (hk:k<L.length):L[k]!.kind<256:=h _ (by rw[getElem!_pos _ k hk];exact List.getElem_mem hk)
theorem CQ {L:List r5} {k:Nat} (hk:k<L.length) (h:(L.take k).all B5=true) (h2:B5 L[k]! =true):(L.take (k+1)).all B5=true:=by
 rw[List.take_succ_eq_append_getElem hk,List.all_append,h]
 rw[getElem!_pos _ k hk] at h2
 simp[h2]
theorem NC {L:List r5} {k:Nat} (hk:k<L.length) (h2:B5 L[k]! =false):¬ L.all B5=true:=fun h=>by
 rw[getElem!_pos _ k hk] at h2
 have:=List.all_eq_true.1 h _ (List.getElem_mem hk)
 rw[this] at h2;cases h2
section
variable (w:World) (n:Nat)
theorem aX3 (x:r5) (hk:x.kind<256):k7 (EN w (n+3)) 48 [dV x] (.sc (.bool (!B5 x))) ⟨[],0,0⟩:=by
 have hc:=MP w n x hk
 cases he:B5 x with
 |true=>
  rw[he,if_pos rfl] at hc
  obtain ⟨xk,xp,xa,xb⟩:=x
  refine b9 rfl rfl (fun _ _=>rfl) (Nat.le_of_ble_eq_true rfl) (d9 w) rfl fun C hC h0=>?_
  simp (disch:=first|omega|assumption|exact bd (by with_unfolding_all rfl)|exact Or.inl rfl|(simp only[a7]<;>omega)|fail) only[O1,WA,Nat.reduceEqDiff,Nat.reduceLT,↓reduceIte,reduceCtorEq,c48]
  refine a6 (by rw[hC];exact hc.flat rfl rfl) ?_
  simp (disch:=first|omega|assumption|exact bd (by with_unfolding_all rfl)|exact Or.inl rfl|(simp only[a7]<;>omega)|fail) only[O1,WA,Nat.reduceEqDiff,Nat.reduceLT,↓reduceIte]
  exact b8 rfl h0 rfl
 |false=>
  rw[he,if_neg (by decide)] at hc
  obtain ⟨xk,xp,xa,xb⟩:=x
  refine b9 rfl rfl (fun _ _=>rfl) (Nat.le_of_ble_eq_true rfl) (d9 w) rfl fun C hC h0=>?_
  simp (disch:=first|omega|assumption|exact bd (by with_unfolding_all rfl)|exact Or.inl rfl|(simp only[a7]<;>omega)|fail) only[O1,WA,Nat.reduceEqDiff,Nat.reduceLT,↓reduceIte,reduceCtorEq,c48]
  refine a6 (by rw[hC];exact hc.flat rfl rfl) ?_
  simp (disch:=first|omega|assumption|exact bd (by with_unfolding_all rfl)|exact Or.inl rfl|(simp only[a7]<;>omega)|fail) only[O1,WA,Nat.reduceEqDiff,Nat.reduceLT,Int.reduceEq,↓reduceIte]
  exact b8 rfl h0 rfl
theorem aM6 (s:Nat) (L:List r5) (hL:L.length≤200) (hK:RS L):∃ r:Int,(L.all B5=true→r= -1)∧(¬ L.all B5=true→0≤r)∧
  k7 (EN w (n+4)) 69 [.sl s L.length (z6 L),.sc (.func (.func 48) #[] #[])] (.sc (.int .i64 r)) ⟨[],0,0⟩:=by
 have main:∀ (j:Nat),j≤L.length→(L.take j).all B5=true→(j<L.length→B5 L[j]! =false)→k7 (EN w (n+4)) 69 [.sl s L.length (z6 L),.sc (.func (.func 48) #[] #[])] (.sc (.int .i64 (if j<L.length then (j:Int) else -1))) ⟨[],0,0⟩:=by
  intro j hj hall hbad
  refine b9 rfl rfl (fun _ _=>rfl) (Nat.le_of_ble_eq_true rfl) (d9 w) rfl fun C hC h0=>?_
  have hrn:C.E.rounds=D4:=by rw[hC,k8]
  have hil:=E3 L
  simp (disch:=first|omega|assumption|exact bd (by with_unfolding_all rfl)|exact Or.inl rfl|(simp only[a7]<;>omega)|fail) only[O1,WA,Nat.reduceEqDiff,Nat.reduceLT,Int.reduceNeg,↓reduceIte,reduceCtorEq,c69]
  all_goals try (exfalso;omega)
  refine x8 (fun m fr st=>∃ (k:Nat),m=L.length - k∧k≤j∧fr= [(0,.sl s L.length (z6 L)),(1,.sc (.func (.func 48) #[] #[])),(7,.sc (.int .i64 L.length)),(8,.sc (.int .i64 k))]∧st=⟨[],0,0⟩) L.length ?_ ⟨_,_,.refl _ _,0,by omega,Nat.zero_le _,rfl,rfl⟩ ?_
  ·rw[hrn];unfold D4;omega
  rintro m fr st ⟨k,rfl,hk,rfl,rfl⟩
  by_cases hlt:k<L.length
  case neg=>
   rw[if_neg (by omega)]
   simp (disch:=first|omega|assumption|exact bd (by with_unfolding_all rfl)|exact Or.inl rfl|(simp only[a7]<;>omega)|fail) only[O1,WA,Nat.reduceEqDiff,Nat.reduceLT,Int.reduceNeg,↓reduceIte,reduceCtorEq,SD]
   all_goals try (exfalso;omega)
   exact b8 rfl h0 rfl
  have hag:=J4 L k hlt
  have h1:=aX3 w n L[k]! (hK.at hlt)
  by_cases hkj:k=j
  ·subst hkj
   rw[hbad hlt] at h1
   rw[if_pos hlt]
   generalize L[k]! =X at*
   obtain ⟨xk,xp,xa,xb⟩:=X
   simp (disch:=first|omega|assumption|exact bd (by with_unfolding_all rfl)|exact Or.inl rfl|(simp only[a7]<;>omega)|fail) only[O1,WA,Nat.reduceEqDiff,Nat.reduceLT,Int.reduceNeg,↓reduceIte,reduceCtorEq,SD,hag]
   all_goals try (exfalso;omega)
   refine a6 (by rw[hC];exact h1.flat rfl rfl) ?_
   simp (disch:=first|omega|assumption|exact bd (by with_unfolding_all rfl)|exact Or.inl rfl|(simp only[a7]<;>omega)|fail) only[O1,WA,Nat.reduceEqDiff,Nat.reduceLT,Int.reduceNeg,↓reduceIte,reduceCtorEq]
   exact b8 rfl h0 rfl
  ·have ho:B5 L[k]! =true:=List.all_eq_true.1 hall _ (by
    rw[getElem!_pos _ k hlt]
    exact List.mem_iff_getElem.2 ⟨k,by rw[List.length_take];omega,List.getElem_take⟩)
   rw[ho] at h1
   generalize L[k]! =X at*
   obtain ⟨xk,xp,xa,xb⟩:=X
   simp (disch:=first|omega|assumption|exact bd (by with_unfolding_all rfl)|exact Or.inl rfl|(simp only[a7]<;>omega)|fail) only[O1,WA,Nat.reduceEqDiff,Nat.reduceLT,Int.reduceNeg,↓reduceIte,reduceCtorEq,SD,hag]
   all_goals try (exfalso;omega)
   refine a6 (by rw[hC];exact h1.flat rfl rfl) ?_
   simp (disch:=first|omega|assumption|exact bd (by with_unfolding_all rfl)|exact Or.inl rfl|(simp only[a7]<;>omega)|fail) only[O1,WA,Nat.reduceEqDiff,Nat.reduceLT,Int.reduceNeg,↓reduceIte,reduceCtorEq]
   exact ⟨L.length - (k+1),_,_,by omega,.refl _ _,k+1,rfl,by omega,rfl,rfl⟩
 have hex:∃ j,j≤L.length∧(L.take j).all B5=true∧(j<L.length→B5 L[j]! =false):=by
  have:∀ m,m≤L.length→(L.take m).all B5=true∨∃ j,j<m∧(L.take j).all B5=true∧B5 L[j]! =false:=by
   intro m
   induction m with
   |zero=>intro _;exact .inl rfl
   |succ m ih=>
    intro hm
    rcases ih (by omega) with h|⟨j,h1,h2,h3⟩
    ·cases hc:B5 L[m]! with
     |true=>exact .inl (CQ (by omega) h hc)
     |false=>exact .inr ⟨m,by omega,h,hc⟩
    ·exact .inr ⟨j,by omega,h2,h3⟩
  rcases this L.length (Nat.le_refl _) with h|⟨j,h1,h2,h3⟩
  ·exact ⟨L.length,Nat.le_refl _,h,fun h=>absurd h (Nat.lt_irrefl _)⟩
  ·exact ⟨j,by omega,h2,fun _=>h3⟩
 obtain ⟨j,h1,h2,h3⟩:=hex
 refine ⟨_,fun hall=>?_,fun hall=>?_,main j h1 h2 h3⟩
 ·rw[if_neg fun h=>NC h (h3 h) hall]
 ·by_cases h:j<L.length
  ·rw[if_pos h];omega
  ·have:j=L.length:=by omega
   subst this
   rw[List.take_length] at h2
   exact absurd h2 hall
theorem MQ (s:Nat) (L:List r5) (hL:L.length≤200) (hK:RS L):k7 (EN w (n+5)) 47 [.sl s L.length (z6 L),.sc (.func (.func 48) #[] #[])] (.sc (.bool (!(L.all B5)))) ⟨[],0,0⟩:=by
 obtain ⟨r,h1,h2,hr⟩:=aM6 w n s L hL hK
 cases ha:L.all B5 with
 |true=>
  have e:=h1 ha
  subst e
  refine b9 rfl rfl (fun _ _=>rfl) (Nat.le_of_ble_eq_true rfl) (d9 w) rfl fun C hC h0=>?_
  simp (disch:=first|omega|assumption|exact bd (by with_unfolding_all rfl)|exact Or.inl rfl|(simp only[a7]<;>omega)|fail) only[O1,WA,Nat.reduceEqDiff,Nat.reduceLT,↓reduceIte,reduceCtorEq,c47]
  refine a6 (by rw[hC];exact hr.flat rfl rfl) ?_
  simp (disch:=first|omega|assumption|exact bd (by with_unfolding_all rfl)|exact Or.inl rfl|(simp only[a7]<;>omega)|fail) only[O1,WA,Nat.reduceEqDiff,Nat.reduceLT,Int.reduceLE,Int.reduceNeg,↓reduceIte,reduceCtorEq]
  exact b8 rfl h0 rfl
 |false=>
  have e:=h2 (by rw[ha];decide)
  refine b9 rfl rfl (fun _ _=>rfl) (Nat.le_of_ble_eq_true rfl) (d9 w) rfl fun C hC h0=>?_
  simp (disch:=first|omega|assumption|exact bd (by with_unfolding_all rfl)|exact Or.inl rfl|(simp only[a7]<;>omega)|fail) only[O1,WA,Nat.reduceEqDiff,Nat.reduceLT,↓reduceIte,reduceCtorEq,c47]
  refine a6 (by rw[hC];exact hr.flat rfl rfl) ?_
  simp (disch:=first|omega|assumption|exact bd (by with_unfolding_all rfl)|exact Or.inl rfl|(simp only[a7]<;>omega)|fail) only[O1,WA,Nat.reduceEqDiff,Nat.reduceLT,↓reduceIte,reduceCtorEq]
  all_goals try (exfalso;omega)
  exact b8 rfl h0 rfl
theorem RB (s:Nat) (L:List r5) (hL:L.length≤140737488351232) (hK:RS L):k7 (EN w (n+6)) 27 [.sl s L.length (z6 L)] (.sc (.int .i64 (J7 L))) ⟨[],0,0⟩:=by
 have hil:=E3 L
 unfold J7
 by_cases h2:200<L.length
 ·rw[if_pos h2]
  refine b9 rfl rfl (fun _ _=>rfl) (Nat.le_of_ble_eq_true rfl) (d9 w) rfl fun C hC h0=>?_
  simp (disch:=first|omega|assumption|exact bd (by with_unfolding_all rfl)|exact Or.inl rfl|(simp only[a7]<;>omega)|fail) only[O1,WA,Nat.reduceEqDiff,Nat.reduceLT,↓reduceIte,reduceCtorEq,c27]
  all_goals try (exfalso;omega)
  exact b8 rfl h0 rfl
 rw[if_neg h2]
 have hc:=MQ w n s L (by omega) hK
 cases ha:L.all B5 with
 |false=>
  rw[ha] at hc
  rw[if_neg (by decide)]
  refine b9 rfl rfl (fun _ _=>rfl) (Nat.le_of_ble_eq_true rfl) (d9 w) rfl fun C hC h0=>?_
  simp (disch:=first|omega|assumption|exact bd (by with_unfolding_all rfl)|exact Or.inl rfl|(simp only[a7]<;>omega)|fail) only[O1,WA,Nat.reduceEqDiff,Nat.reduceLT,↓reduceIte,reduceCtorEq,c27]
  all_goals try (exfalso;omega)
  refine a6 (by rw[hC];exact hc.flat rfl rfl) ?_
  simp (disch:=first|omega|assumption|exact bd (by with_unfolding_all rfl)|exact Or.inl rfl|(simp only[a7]<;>omega)|fail) only[O1,WA,Nat.reduceEqDiff,Nat.reduceLT,↓reduceIte,reduceCtorEq]
  exact b8 rfl h0 rfl
 |true=>
  rw[ha] at hc
  rw[if_pos rfl]
  have hs:=bK8 w (n+3) s L (by omega) ha
  generalize N4 M9 L=U at*
  generalize N4 M8 L=M at*
  by_cases hm:200<U∨200<M
  ·rw[if_pos hm]
   have hmx:200<max U M:=by omega
   generalize hX:max U M=X at*
   refine b9 rfl rfl (fun _ _=>rfl) (Nat.le_of_ble_eq_true rfl) (d9 w) rfl fun C hC h0=>?_
   simp (disch:=first|omega|assumption|exact bd (by with_unfolding_all rfl)|exact Or.inl rfl|(simp only[a7]<;>omega)|fail) only[O1,WA,Nat.reduceEqDiff,Nat.reduceLT,↓reduceIte,reduceCtorEq,c27]
   all_goals try (exfalso;omega)
   refine a6 (by rw[hC];exact hc.flat rfl rfl) ?_
   simp (disch:=first|omega|assumption|exact bd (by with_unfolding_all rfl)|exact Or.inl rfl|(simp only[a7]<;>omega)|fail) only[O1,WA,Nat.reduceEqDiff,Nat.reduceLT,↓reduceIte,reduceCtorEq]
   refine a6 (by rw[hC];exact hs.flat rfl rfl) ?_
   simp (disch:=first|omega|assumption|exact bd (by with_unfolding_all rfl)|exact Or.inl rfl|(simp only[a7]<;>omega)|fail) only[O1,WA,Nat.reduceEqDiff,Nat.reduceLT,↓reduceIte,reduceCtorEq,dN,hX]
   all_goals try (exfalso;omega)
   exact b8 rfl h0 rfl
  ·rw[if_neg hm]
   have hmx:max U M≤200:=by omega
   generalize hX:max U M=X at*
   refine b9 rfl rfl (fun _ _=>rfl) (Nat.le_of_ble_eq_true rfl) (d9 w) rfl fun C hC h0=>?_
   simp (disch:=first|omega|assumption|exact bd (by with_unfolding_all rfl)|exact Or.inl rfl|(simp only[a7]<;>omega)|fail) only[O1,WA,Nat.reduceEqDiff,Nat.reduceLT,↓reduceIte,reduceCtorEq,c27]
   all_goals try (exfalso;omega)
   refine a6 (by rw[hC];exact hc.flat rfl rfl) ?_
   simp (disch:=first|omega|assumption|exact bd (by with_unfolding_all rfl)|exact Or.inl rfl|(simp only[a7]<;>omega)|fail) only[O1,WA,Nat.reduceEqDiff,Nat.reduceLT,↓reduceIte,reduceCtorEq]
   refine a6 (by rw[hC];exact hs.flat rfl rfl) ?_
   simp (disch:=first|omega|assumption|exact bd (by with_unfolding_all rfl)|exact Or.inl rfl|(simp only[a7]<;>omega)|fail) only[O1,WA,Nat.reduceEqDiff,Nat.reduceLT,↓reduceIte,reduceCtorEq,dN,hX]
   all_goals try (exfalso;omega)
   exact b8 rfl h0 rfl
end
end Go.Proofs.YtimmmnanllcfoaaDoor
namespace Go.Itp
set_option linter.unusedVariables false
set_option linter.unusedSimpArgs false
set_option maxRecDepth 10000
theorem iU {c:UInt8}:∀ (p r:List UInt8),c ∉ p→Lib.index (p++c::r) [c]=p.length
 | [],r,_=>by
  rw[List.nil_append,Lib.index]
  simp[List.isPrefixOf]
 |b::p,r,h=>by
  have hb:(c==b)=false:=by simpa using fun e=>h (by rw[e];simp)
  rw[List.cons_append,Lib.index,iU p r fun e=>h (List.mem_cons_of_mem _ e)]
  simp only[List.isPrefixOf,hb,Bool.false_and,Bool.false_eq_true,if_false,List.length_cons]
  rw[if_neg (by simp only[beq_iff_eq];omega)]
  omega
theorem oZ {c:UInt8}:∀ (s:List UInt8),c ∉ s→Lib.index s [c]= -1
 | [],_=>rfl
 |b::p,h=>by
  have hb:(c==b)=false:=by simpa using fun e=>h (by rw[e];simp)
  rw[Lib.index,oZ p fun e=>h (List.mem_cons_of_mem _ e)]
  simp[List.isPrefixOf,hb]
theorem aN {c:UInt8} {p r u:List UInt8} (h:c ∉ p) (hu:u ≠ [c]):Lib.replace (p++c::r) [c] u 1=p++u++r:=by
 have hi:=iU p r h
 have hc:=Lib.count_hit (s:=p++c::r) (sub:= [c]) (i:=p.length) (by simp) hi
 have hn:Lib.replaceNum (p++c::r) [c] 1=1:=by
  unfold Lib.replaceNum
  rw[if_neg (by omega)]
  rfl
 unfold Lib.replace
 rw[if_neg (by simpa using Ne.symm hu),hn,Lib.replaceK_hit _ _ _ _ _ hi,Lib.replaceK]
 simp
theorem jG {c:UInt8} {s u:List UInt8} (h:c ∉ s):Lib.replace s [c] u 1=s:=by
 unfold Lib.replace Lib.replaceNum
 rw[Lib.count_miss (oZ s h)]
 split
 ·rfl
 ·rw[if_pos (by omega),Lib.replaceK]
theorem P6 {z:Int} (h:0≤z):Lib.itoa z ≠ [35]:=P2 h (by decide)
theorem LK {x:r5} {n:Int} (hx:B1 x) (h0:1≤n):n4 x n=if countB x.kind=true then Lib.replace (M7 x.kind x.purl) [35] (Lib.itoa n) 1 else Lib.replace (Lib.replace (M7 x.kind x.purl) [35] (Lib.itoa x.a) 1) [35] (Lib.itoa x.b) 1++H4 x n:=by
 rw[nF n hx]
 have hno:=zZ x.kind x.purl
 have hb:=hx.bounds
 have i1:=P6 (z:=n) (by omega)
 have i2:=P6 (z:=x.a) (by omega)
 have i3:=P6 (z:=x.b) (by omega)
 have j2:(35:UInt8) ∉ Lib.itoa x.a:=iV (by omega) _ (by decide)
 have two:∀ (p q:List UInt8) (v:Int),(35:UInt8) ∉ p→Lib.itoa v ≠ [35]→Lib.replace (join 35 [p,q]) [35] (Lib.itoa v) 1=fill [p,q] [v]:=fun p q v h1 h2=>by
  rw[join,join,aN h1 h2,fill]
  ·simp[fill]
  ·simp
 have two':∀ (p q:List UInt8) (v u:Int),(35:UInt8) ∉ p→(35:UInt8) ∉ q→(35:UInt8) ∉ Lib.itoa v→Lib.itoa v ≠ [35]→Lib.replace (Lib.replace (join 35 [p,q]) [35] (Lib.itoa v) 1) [35] (Lib.itoa u) 1=fill [p,q] [v,u]:=fun p q v u h1 h3 h4 h2=>by
  rw[join,join,aN h1 h2,jG (by simp[h1,h3,h4]),fill]
  ·simp[fill]
  ·simp
 have three:∀ (p q r:List UInt8) (v u:Int),(35:UInt8) ∉ p→(35:UInt8) ∉ q→(35:UInt8) ∉ Lib.itoa v→Lib.itoa v ≠ [35]→Lib.itoa u ≠ [35]→Lib.replace (Lib.replace (join 35 [p,q,r]) [35] (Lib.itoa v) 1) [35] (Lib.itoa u) 1=fill [p,q,r] [v,u]:=fun p q r v u h1 h3 h4 h2 h5=>by
  rw[join,join,join,aN h1 h2,← List.append_assoc,aN (by simp[h1,h3,h4]) h5,fill]
  ·rw[fill]
   ·simp[fill]
   ·simp
  ·simp
 obtain ⟨k,p,a,b⟩:=x
 unfold B1 at hx
 simp only at hx hno i2 i3 j2 ⊢
 unfold M7
 rcases hx with ⟨rfl|rfl,rfl,rfl⟩|⟨rfl,rfl,rfl,rfl⟩|⟨rfl|rfl|rfl,h2,h3,rfl⟩|⟨rfl|rfl,h2,h3⟩|⟨rfl,rfl,h2,h3,rfl⟩|⟨rfl,h2,h3,rfl⟩
 ·rw[if_pos (by decide),show H4 ⟨1,p,0,0⟩ n= [] from by unfold H4;rw[if_neg (by simp)],List.append_nil]
  exact (two _ _ n (hno _ (by simp[n5])) i1).symm
 ·rw[if_pos (by decide),show H4 ⟨8,p,0,0⟩ n= [] from by unfold H4;rw[if_neg (by simp)],List.append_nil]
  exact (two _ _ n (hno _ (by simp[n5])) i1).symm
 ·rw[if_neg (by decide)]
  congr 1
  have h35:(35:UInt8) ∉ join 35 (n5 2 false):=hno _ (by simp[n5,join])
  rw[jG h35,jG h35]
  rfl
 ·rw[if_neg (by decide)]
  congr 1
  exact (two' _ _ a 0 (hno _ (by simp[n5])) (hno _ (by simp[n5])) j2 i2).symm
 ·rw[if_neg (by decide)]
  congr 1
  exact (two' _ _ a 0 (hno _ (by simp[n5])) (hno _ (by simp[n5])) j2 i2).symm
 ·rw[if_neg (by decide)]
  congr 1
  exact (two' _ _ a 0 (hno _ (by simp[n5])) (hno _ (by simp[n5])) j2 i2).symm
 ·rw[if_neg (by decide)]
  congr 1
  exact (three _ _ _ a b (hno _ (by simp[n5])) (hno _ (by simp[n5])) j2 i2 i3).symm
 ·rw[if_neg (by decide)]
  congr 1
  exact (three _ _ _ a b (hno _ (by simp[n5])) (hno _ (by simp[n5])) j2 i2 i3).symm
 ·rw[if_neg (by decide)]
  congr 1
  exact (two' _ _ a 0 (hno _ (by simp[n5])) (hno _ (by simp[n5])) j2 i2).symm
 ·rw[if_neg (by decide)]
  congr 1
  exact (two' _ _ a 0 (hno _ (by simp[n5])) (hno _ (by simp[n5])) j2 i2).symm
theorem lD:∀ s:List UInt8,(Lib.index s [44,32]= -1∧l9 s= [s])∨∃ x r,s=x++44::32::r∧Lib.index s [44,32]=x.length∧l9 s=x::l9 r
 | []=> .inl ⟨rfl,rfl⟩
 | [c]=> .inl ⟨by simp[Lib.index,List.isPrefixOf],rfl⟩
 |c::d::r=>by
  by_cases h:c=44∧d=32
  ·obtain ⟨rfl,rfl⟩:=h
   refine .inr ⟨[],r,rfl,?_,by rw[l9,if_pos ⟨rfl,rfl⟩]⟩
   rw[Lib.index]
   simp[List.isPrefixOf]
  ·have hp:List.isPrefixOf [44,32] (c::d::r)=false:=by
    simp only[List.isPrefixOf,Bool.and_true]
    rw[← Bool.not_eq_true]
    intro e
    simp only[Bool.and_eq_true,beq_iff_eq] at e
    exact h ⟨e.1.symm,e.2.symm⟩
   rcases lD (d::r) with ⟨h1,h2⟩|⟨x,q,h1,h2,h3⟩
   ·refine .inl ⟨?_,by rw[L3 h,h2];rfl⟩
    rw[Lib.index,hp,h1]
    rfl
   ·refine .inr ⟨c::x,q,by rw[h1];rfl,?_,by rw[L3 h,h3];rfl⟩
    rw[Lib.index,hp,h2]
    rw[if_neg (by decide),if_neg (by simp only[beq_iff_eq];omega)]
    simp
theorem bQ8:∀ (m:Nat) (s:List UInt8),s.length≤m→(l9 s).length=Lib.countB ⟨s.toArray⟩ ⟨#[44,32]⟩+1
 |m,s,hm=>by
  show (l9 s).length=Lib.count s [44,32]+1
  rcases lD s with ⟨h1,h2⟩|⟨x,r,rfl,h2,h3⟩
  ·rw[h2,Lib.count_miss h1];rfl
  ·cases m with
   |zero=>simp at hm
   |succ m=>
    have ih:=bQ8 m r (by simp at hm;omega)
    rw[h3,Lib.count_hit (by simp) h2,List.length_cons,ih]
    have e:(x++44::32::r).drop (x.length+([44,32]:List UInt8).length)=r:=by
     rw[show x++44::32::r=(x++ [44,32])++r from by simp,List.drop_left' (by simp)]
    rw[e]
    show Lib.count r [44,32]+1+1=_
    omega
theorem U5:∀ (s:List UInt8),(l9 s).length≤s.length+1
 | []=>Nat.le_refl _
 | [c]=>by simp[l9]
 |c::d::r=>by
  rw[l9]
  split
  ·have:=U5 r;simp;omega
  ·have:=U5 (d::r)
   cases h:l9 (d::r) with
   |nil=>simp[mH]
   |cons a b=>rw[h] at this;simp[mH] at this ⊢;omega
theorem dU:∀ (s:List UInt8),∀ w ∈ l9 s,w.length≤s.length
 | [],w,h=>by simp[l9] at h;simp[h]
 | [c],w,h=>by simp[l9] at h;simp[h]
 |c::d::r,w,h=>by
  rw[l9] at h
  split at h
  ·rcases List.mem_cons.1 h with rfl|h
   ·simp
   ·have:=dU r w h;simp;omega
  ·have ih:=dU (d::r)
   cases hs:l9 (d::r) with
   |nil=>rw[hs] at h;simp[mH] at h;subst h;simp
   |cons a b=>
    rw[hs] at h ih
    simp only[mH] at h
    rcases List.mem_cons.1 h with rfl|h
    ·have:=ih a (by simp);simp at this ⊢;omega
    ·have:=ih w (List.mem_cons_of_mem _ h);simp at this ⊢;omega
end Go.Itp
namespace Go.Proofs.YtimmmnanllcfoaaDoor
open Go Go.Itp
set_option maxRecDepth 100000
set_option maxHeartbeats 400000
set_option linter.unusedSimpArgs false
set_option linter.unusedVariables false
theorem PK (l:List UInt8) (c:UInt8):Lib.countB ⟨l.toArray⟩ ⟨[c].toArray⟩≤l.length:=by
 have:=Lib.countB_le ⟨[c].toArray⟩ (Nat.le_refl 1) l.length ⟨l.toArray⟩ (by rw[n6];exact Nat.le_refl _)
 rwa [n6] at this
theorem oT:∀ k p,(M7 k p).length≤60:=by
 intro k p
 unfold M7 n5
 split<;>cases p<;>decide
theorem pJ (l u:List UInt8) (c:UInt8) (k:Int) (h1:l.length≤1000) (h2:u.length≤1000):l.length+Lib.countB ⟨l.toArray⟩ ⟨[c].toArray⟩*u.length≤140737488355328:=by
 have:=Nat.mul_le_mul (PK l c) h2
 have h3:l.length*1000≤1000*1000:=Nat.mul_le_mul_right _ h1
 omega
theorem Y8 (g:Bool) (k k':Nat) (p p':Bool) (a b a' b':Int):oP g [(0,0),(1,2),(2,0),(3,0)] (.agg [.sc (.int .u8 k),.sc (.bool p),.sc (.int .i64 a),.sc (.int .i64 b)]) (.agg [.sc (.int .u8 k'),.sc (.bool p'),.sc (.int .i64 a'),.sc (.int .i64 b')])=some (.sc (.bool (aU7 g (decide ((⟨k,p,a,b⟩:r5)=⟨k',p',a',b'⟩))))):=by
 rw[kX]
 have e:R0 [(0,0),(1,2),(2,0),(3,0)] [V.sc (.int .u8 k),.sc (.bool p),.sc (.int .i64 a),.sc (.int .i64 b)] [V.sc (.int .u8 k'),.sc (.bool p'),.sc (.int .i64 a'),.sc (.int .i64 b')]=some (decide ((k:Int)=k') && ((p==p') && (decide (a=a') && decide (b=b')))):=by
  simp only[bR,dH,fG,dG,oE,Bool.and_true,A0,Option.bind_some]
 rw[e]
 simp only[Option.map_some]
 congr 4
 rw[Bool.eq_iff_iff]
 simp only[Bool.and_eq_true,beq_iff_eq,decide_eq_true_eq,r5.mk.injEq]
 constructor
 ·rintro ⟨h1,h2,h3,h4⟩;exact ⟨by omega,h2,h3,h4⟩
 ·rintro ⟨h1,h2,h3,h4⟩;exact ⟨by omega,h2,h3,h4⟩
section
variable (w:World) (n:Nat)
theorem bK5 (p:Bool):k7 (EN w (n+1)) 82 [.sc (.bool p)] (l7 (eM p)) ⟨[],0,0⟩:=by
 cases p
 all_goals
  refine b9 rfl rfl (fun _ _=>rfl) (Nat.le_of_ble_eq_true rfl) (d9 w) rfl fun C hC h0=>?_
  repeat' (first|(simp (disch:=first|omega|assumption|exact bd (by with_unfolding_all rfl)|exact Or.inl rfl|(simp only[a7]<;>omega)|fail) only[O1,WA,Nat.reduceEqDiff,Nat.reduceLT,↓reduceIte,reduceCtorEq,c82]))
  exact b8 rfl h0 rfl
theorem aC6 (k:Nat) (p:Bool) (h1:1≤k) (h2:k≤10):k7 (EN w (n+2)) 57 [.sc (.int .u8 k),.sc (.bool p)] (.tup [l7 (M7 k p),.sc (.bool (countB k))]) ⟨[],0,0⟩:=by
 have hs:=bK5 w n p
 unfold eM at hs
 cases p
 all_goals
  rcases (by omega:k=1∨k=3∨k=4∨k=2∨k=5∨k=6∨k=7∨k=8∨k=9∨k=10) with rfl|rfl|rfl|rfl|rfl|rfl|rfl|rfl|rfl|rfl
  iterate 3
   ·refine b9 rfl rfl (fun _ _=>rfl) (Nat.le_of_ble_eq_true rfl) (d9 w) rfl fun C hC h0=>?_
    repeat' (first|(simp (disch:=first|omega|assumption|exact bd (by with_unfolding_all rfl)|exact Or.inl rfl|(simp only[a7]<;>omega)|fail) only[O1,WA,Nat.reduceEqDiff,Nat.reduceLT,↓reduceIte,reduceCtorEq,c57]))
    refine a6 (by rw[hC];exact hs.flat rfl rfl) ?_
    repeat' (first|(simp (disch:=first|omega|assumption|exact bd (by with_unfolding_all rfl)|exact Or.inl rfl|(simp only[a7]<;>omega)|fail) only[O1,WA,Nat.reduceEqDiff,Nat.reduceLT,↓reduceIte,M6]))
    exact b8 rfl h0 rfl
  all_goals
   refine b9 rfl rfl (fun _ _=>rfl) (Nat.le_of_ble_eq_true rfl) (d9 w) rfl fun C hC h0=>?_
   repeat' (first|(simp (disch:=first|omega|assumption|exact bd (by with_unfolding_all rfl)|exact Or.inl rfl|(simp only[a7]<;>omega)|fail) only[O1,WA,Nat.reduceEqDiff,Nat.reduceLT,↓reduceIte,reduceCtorEq,c57,M6]))
   exact b8 rfl h0 rfl
theorem LL (x:r5) (hx:B1 x) (m:Int) (h0:1≤m) (h1:m≤1000):k7 (EN w (n+3)) 51 [dV x,.sc (.int .i64 m)] (l7 (n4 x m)) ⟨[],0,0⟩:=by
 have hb:=hx.bounds
 have hf:=aC6 w n x.kind x.purl hb.1 hb.2.1
 have hfl:=oT x.kind x.purl
 have hr:=LK hx h0
 have im:=aF8 w (n+1)
 have l1:=D0 (z:=m) (by omega) (by omega)
 have l2:=D0 (z:=x.a) (by omega) (by omega)
 have l3:=D0 (z:=x.b) (by omega) (by omega)
 have r1:=fun st=>QT w (n+1) st (M7 x.kind x.purl) [35] (Lib.itoa m) 1 (by omega) (Nat.le_refl 1) (pJ _ _ 35 1 (by omega) (by omega))
 have r2:=fun st=>QT w (n+1) st (M7 x.kind x.purl) [35] (Lib.itoa x.a) 1 (by omega) (Nat.le_refl 1) (pJ _ _ 35 1 (by omega) (by omega))
 have hlen2:(Lib.replace (M7 x.kind x.purl) [35] (Lib.itoa x.a) 1).length≤70:=by
  rcases P1 35 (M7 x.kind x.purl) with h|⟨p,q,e,h⟩
  ·rw[jG h];omega
  ·rw[e,aN h (P6 (by omega))]
   have:=congrArg List.length e
   simp only[List.length_append,List.length_cons] at this ⊢
   omega
 have r3:=fun st=>QT w (n+1) st (Lib.replace (M7 x.kind x.purl) [35] (Lib.itoa x.a) 1) [35] (Lib.itoa x.b) 1 (by omega) (Nat.le_refl 1) (pJ _ _ 35 1 (by omega) (by omega))
 have hlen3:(Lib.replace (Lib.replace (M7 x.kind x.purl) [35] (Lib.itoa x.a) 1) [35] (Lib.itoa x.b) 1).length≤80:=by
  rcases P1 35 (Lib.replace (M7 x.kind x.purl) [35] (Lib.itoa x.a) 1) with h|⟨p,q,e,h⟩
  ·rw[jG h];omega
  ·rw[e,aN h (P6 (by omega))]
   have:=congrArg List.length e
   simp only[List.length_append,List.length_cons] at this ⊢
   omega
 rw[hr]
 have hk:countB x.kind=true↔x.kind=1∨x.kind=8:=by unfold countB;exact decide_eq_true_iff
 cases hc:countB x.kind with
 |true=>
  rw[hc] at hf
  rw[if_pos rfl]
  generalize M7 x.kind x.purl=F at*
  clear r2 r3 hlen2 hlen3 hr
  obtain ⟨xk,xp,xa,xb⟩:=x
  refine b9 rfl rfl (fun _ _=>rfl) (Nat.le_of_ble_eq_true rfl) (d9 w) rfl fun C hC h0=>?_
  simp (disch:=first|omega|assumption|exact bd (by with_unfolding_all rfl)|exact Or.inl rfl|(simp only[a7]<;>omega)|fail) only[O1,WA,Nat.reduceEqDiff,Nat.reduceLT,↓reduceIte,reduceCtorEq,c51]
  refine a6 (by rw[hC];exact hf.flat rfl rfl) ?_
  simp (disch:=first|omega|assumption|exact bd (by with_unfolding_all rfl)|exact Or.inl rfl|(simp only[a7]<;>omega)|fail) only[O1,WA,Nat.reduceEqDiff,Nat.reduceLT,↓reduceIte]
  refine a6 (by rw[hC];exact im _ m (by omega) (by omega)) ?_
  repeat' (first|(simp (disch:=first|omega|assumption|exact bd (by with_unfolding_all rfl)|exact Or.inl rfl|(simp only[a7]<;>omega)|fail) only[O1,WA,l5,p9,Nat.reduceEqDiff,Nat.reduceLT,Nat.reduceAdd,Nat.reduceBEq,Int.reduceAdd,Int.reduceSub,Int.reduceLT,Int.reduceLE,Int.reduceEq,Int.reduceNeg,↓reduceIte,reduceCtorEq,List.replicate])|apply r6|((first|apply C5|apply y9|apply x6|apply C6|apply C4|apply x7)<;>intro _))
  refine a6 (by rw[hC];exact r1 _) ?_
  repeat' (first|(simp (disch:=first|omega|assumption|exact bd (by with_unfolding_all rfl)|exact Or.inl rfl|(simp only[a7]<;>omega)|fail) only[O1,WA,l5,p9,Nat.reduceEqDiff,Nat.reduceLT,Nat.reduceAdd,Nat.reduceBEq,Int.reduceAdd,Int.reduceSub,Int.reduceLT,Int.reduceLE,Int.reduceEq,Int.reduceNeg,↓reduceIte,reduceCtorEq,List.replicate])|apply r6|((first|apply C5|apply y9|apply x6|apply C6|apply C4|apply x7)<;>intro _))
  exact b8 rfl h0 rfl
 |false=>
  rw[hc] at hf
  rw[if_neg (by decide)]
  have hkk:x.kind ≠ 1∧x.kind ≠ 8:=by
   rw[← Bool.not_eq_true,hk] at hc
   omega
  have ht:H4 x m=if 1<m then 32::(Lib.itoa m++bW) else []:=by
   unfold H4
   by_cases h:1<m
   ·rw[if_pos h,if_pos ⟨h,hkk⟩];rfl
   ·rw[if_neg h,if_neg fun hh=>h hh.1]
  rw[ht]
  generalize Lib.replace (Lib.replace (M7 x.kind x.purl) [35] (Lib.itoa x.a) 1) [35] (Lib.itoa x.b) 1=R3 at*
  generalize Lib.replace (M7 x.kind x.purl) [35] (Lib.itoa x.a) 1=R2 at*
  generalize M7 x.kind x.purl=F at*
  obtain ⟨xk,xp,xa,xb⟩:=x
  simp only at*
  by_cases hm:1<m
  ·rw[if_pos hm]
   refine b9 rfl rfl (fun _ _=>rfl) (Nat.le_of_ble_eq_true rfl) (d9 w) rfl fun C hC h0=>?_
   simp (disch:=first|omega|assumption|exact bd (by with_unfolding_all rfl)|exact Or.inl rfl|(simp only[a7]<;>omega)|fail) only[O1,WA,Nat.reduceEqDiff,Nat.reduceLT,↓reduceIte,reduceCtorEq,c51]
   refine a6 (by rw[hC];exact hf.flat rfl rfl) ?_
   simp (disch:=first|omega|assumption|exact bd (by with_unfolding_all rfl)|exact Or.inl rfl|(simp only[a7]<;>omega)|fail) only[O1,WA,Nat.reduceEqDiff,Nat.reduceLT,↓reduceIte]
   refine a6 (by rw[hC];exact im _ xa (by omega) (by omega)) ?_
   repeat' (first|(simp (disch:=first|omega|assumption|exact bd (by with_unfolding_all rfl)|exact Or.inl rfl|(simp only[a7]<;>omega)|fail) only[O1,WA,l5,p9,Nat.reduceEqDiff,Nat.reduceLT,Nat.reduceAdd,Nat.reduceBEq,Int.reduceAdd,Int.reduceSub,Int.reduceLT,Int.reduceLE,Int.reduceEq,Int.reduceNeg,↓reduceIte,reduceCtorEq,List.replicate])|apply r6|((first|apply C5|apply y9|apply x6|apply C6|apply C4|apply x7)<;>intro _))
   refine a6 (by rw[hC];exact r2 _) ?_
   simp (disch:=first|omega|assumption|exact bd (by with_unfolding_all rfl)|exact Or.inl rfl|(simp only[a7]<;>omega)|fail) only[O1,WA,Nat.reduceEqDiff,Nat.reduceLT,↓reduceIte]
   refine a6 (by rw[hC];exact im _ xb (by omega) (by omega)) ?_
   repeat' (first|(simp (disch:=first|omega|assumption|exact bd (by with_unfolding_all rfl)|exact Or.inl rfl|(simp only[a7]<;>omega)|fail) only[O1,WA,l5,p9,Nat.reduceEqDiff,Nat.reduceLT,Nat.reduceAdd,Nat.reduceBEq,Int.reduceAdd,Int.reduceSub,Int.reduceLT,Int.reduceLE,Int.reduceEq,Int.reduceNeg,↓reduceIte,reduceCtorEq,List.replicate])|apply r6|((first|apply C5|apply y9|apply x6|apply C6|apply C4|apply x7)<;>intro _))
   refine a6 (by rw[hC];exact r3 _) ?_
   repeat' (first|(simp (disch:=first|omega|assumption|exact bd (by with_unfolding_all rfl)|exact Or.inl rfl|(simp only[a7]<;>omega)|fail) only[O1,WA,l5,p9,Nat.reduceEqDiff,Nat.reduceLT,Nat.reduceAdd,Nat.reduceBEq,Int.reduceAdd,Int.reduceSub,Int.reduceLT,Int.reduceLE,Int.reduceEq,Int.reduceNeg,↓reduceIte,reduceCtorEq,List.replicate])|apply r6|((first|apply C5|apply y9|apply x6|apply C6|apply C4|apply x7)<;>intro _))
   all_goals try (exfalso;omega)
   refine a6 (by rw[hC];exact im _ m (by omega) (by omega)) ?_
   simp (disch:=first|omega|assumption|exact bd (by with_unfolding_all rfl)|exact Or.inl rfl|(simp only[a7]<;>omega)|fail) only[O1,WA,Nat.reduceEqDiff,Nat.reduceLT,↓reduceIte,M6,List.append_assoc]
   all_goals try (exfalso;omega)
   exact b8 rfl h0 rfl
  ·rw[if_neg hm,List.append_nil]
   refine b9 rfl rfl (fun _ _=>rfl) (Nat.le_of_ble_eq_true rfl) (d9 w) rfl fun C hC h0=>?_
   simp (disch:=first|omega|assumption|exact bd (by with_unfolding_all rfl)|exact Or.inl rfl|(simp only[a7]<;>omega)|fail) only[O1,WA,Nat.reduceEqDiff,Nat.reduceLT,↓reduceIte,reduceCtorEq,c51]
   refine a6 (by rw[hC];exact hf.flat rfl rfl) ?_
   simp (disch:=first|omega|assumption|exact bd (by with_unfolding_all rfl)|exact Or.inl rfl|(simp only[a7]<;>omega)|fail) only[O1,WA,Nat.reduceEqDiff,Nat.reduceLT,↓reduceIte]
   refine a6 (by rw[hC];exact im _ xa (by omega) (by omega)) ?_
   repeat' (first|(simp (disch:=first|omega|assumption|exact bd (by with_unfolding_all rfl)|exact Or.inl rfl|(simp only[a7]<;>omega)|fail) only[O1,WA,l5,p9,Nat.reduceEqDiff,Nat.reduceLT,Nat.reduceAdd,Nat.reduceBEq,Int.reduceAdd,Int.reduceSub,Int.reduceLT,Int.reduceLE,Int.reduceEq,Int.reduceNeg,↓reduceIte,reduceCtorEq,List.replicate])|apply r6|((first|apply C5|apply y9|apply x6|apply C6|apply C4|apply x7)<;>intro _))
   refine a6 (by rw[hC];exact r2 _) ?_
   simp (disch:=first|omega|assumption|exact bd (by with_unfolding_all rfl)|exact Or.inl rfl|(simp only[a7]<;>omega)|fail) only[O1,WA,Nat.reduceEqDiff,Nat.reduceLT,↓reduceIte]
   refine a6 (by rw[hC];exact im _ xb (by omega) (by omega)) ?_
   repeat' (first|(simp (disch:=first|omega|assumption|exact bd (by with_unfolding_all rfl)|exact Or.inl rfl|(simp only[a7]<;>omega)|fail) only[O1,WA,l5,p9,Nat.reduceEqDiff,Nat.reduceLT,Nat.reduceAdd,Nat.reduceBEq,Int.reduceAdd,Int.reduceSub,Int.reduceLT,Int.reduceLE,Int.reduceEq,Int.reduceNeg,↓reduceIte,reduceCtorEq,List.replicate])|apply r6|((first|apply C5|apply y9|apply x6|apply C6|apply C4|apply x7)<;>intro _))
   refine a6 (by rw[hC];exact r3 _) ?_
   repeat' (first|(simp (disch:=first|omega|assumption|exact bd (by with_unfolding_all rfl)|exact Or.inl rfl|(simp only[a7]<;>omega)|fail) only[O1,WA,l5,p9,Nat.reduceEqDiff,Nat.reduceLT,Nat.reduceAdd,Nat.reduceBEq,Int.reduceAdd,Int.reduceSub,Int.reduceLT,Int.reduceLE,Int.reduceEq,Int.reduceNeg,↓reduceIte,reduceCtorEq,List.replicate])|apply r6|((first|apply C5|apply y9|apply x6|apply C6|apply C4|apply x7)<;>intro _))
   all_goals try (exfalso;omega)
   exact b8 rfl h0 rfl
end
theorem lN (x:r5):∀ l:List r5,∃ t,t≤l.length∧(∀ i,i<t→l[i]! =x)∧(t<l.length→l[t]! ≠ x)∧G0 (x::l)=(x,t+1)::G0 (l.drop t)
 | []=>⟨0,Nat.le_refl _,fun i h=>absurd h (Nat.not_lt_zero _),fun h=>absurd h (Nat.not_lt_zero _),rfl⟩
 |y::l=>by
  by_cases hy:y=x
  ·subst hy
   obtain ⟨t,h1,h2,h3,h4⟩:=lN y l
   refine ⟨t+1,by simp;omega,fun i hi=>?_,fun h=>?_,?_⟩
   ·cases i with
    |zero=>rfl
    |succ i=>simpa using h2 i (by omega)
   ·have:=h3 (by simpa using h)
    simpa using this
   ·rw[G0,h4]
    simp
  ·refine ⟨0,Nat.zero_le _,fun i h=>absurd h (Nat.not_lt_zero _),fun _=>hy,?_⟩
   rw[G0]
   cases hr:G0 (y::l) with
   |nil=>exact absurd hr (nS (by simp))
   |cons z r=>
    obtain ⟨z,m⟩:=z
    have hz:z=y:=by
     have:=aP (y::l)
     have hp:=U4 (y::l) (z,m) (by rw[hr];simp)
     rw[hr,kY] at this
     obtain ⟨q,rfl⟩:∃ q,m=q+1:=⟨m - 1,by simp only at hp;omega⟩
     simp only[List.replicate_succ,List.cons_append] at this
     exact (List.cons.inj this).1
    rw[hz]
    simp only
    rw[if_neg hy,List.drop_zero,hr,hz]
theorem tT {L:List r5} {j:Nat} (h:j<L.length):L.drop j=L[j]! ::L.drop (j+1):=by
 rw[List.drop_eq_getElem_cons h,getElem!_pos _ j h]
theorem IX {L:List r5} {j i:Nat} (h:j+i<L.length):(L.drop j)[i]! =L[j+i]! :=by
 rw[getElem!_pos _ i (by rw[List.length_drop];omega),List.getElem_drop,getElem!_pos _ (j+i) h]
theorem jJ (nx t:Nat) (b:ByteArray):N3 nx t 1 1 [.string ⟨#[]⟩] [(0,1,.sc (.string b))]=some (.ref nx 0 1 1,some (.row t 1 false false [.sc (.string b)]),[]):=(rfl)
theorem bJ {x:r5} {m:Int} (hx:B1 x) (h0:1≤m) (h1:m≤1000):(n4 x m).length≤100:=by
 have hb:=hx.bounds
 have hfl:=oT x.kind x.purl
 have l1:=D0 (z:=m) (by omega) (by omega)
 have l2:=D0 (z:=x.a) (by omega) (by omega)
 have l3:=D0 (z:=x.b) (by omega) (by omega)
 have aux:∀ (F u:List UInt8),u ≠ [35]→(Lib.replace F [35] u 1).length≤F.length+u.length:=fun F u hu=>by
  rcases P1 35 F with h|⟨p,q,e,h⟩
  ·rw[jG h];omega
  ·rw[e,aN h hu];simp;omega
 rw[LK hx h0]
 split
 ·have:=aux (M7 x.kind x.purl) (Lib.itoa m) (P6 (by omega))
  omega
 ·have a1:=aux (M7 x.kind x.purl) (Lib.itoa x.a) (P6 (by omega))
  have a2:=aux (Lib.replace (M7 x.kind x.purl) [35] (Lib.itoa x.a) 1) (Lib.itoa x.b) (P6 (by omega))
  have ht:(H4 x m).length≤11:=by
   unfold H4
   split
   ·have:N6.length=5:=rfl
    simp only[List.length_cons,List.length_append,this];omega
   ·simp
  rw[List.length_append]
  omega
theorem FJ:∀ (ws:List (List UInt8)) (b:Nat),(∀ w ∈ ws,w.length≤b)→(OT ws).length≤ws.length*(b+2)
 | [],b,_=>by simp[OT]
 |w::ws,b,h=>by
  have ih:=FJ ws b fun x hx=>h x (List.mem_cons_of_mem _ hx)
  have hw:=h w (by simp)
  have e:(ws.length+1)*(b+2)=ws.length*(b+2)+(b+2):=Nat.succ_mul _ _
  cases ws with
  |nil=>simp[OT];omega
  |cons v r=>
   rw[fZ w (by simp)]
   simp only[List.length_append,List.length_cons] at ih e ⊢
   omega
theorem pN:∀ L:List r5,(G0 L).length≤L.length
 | []=>Nat.le_refl _
 |x::l=>by
  have ih:=pN l
  rw[G0]
  cases h:G0 l with
  |nil=>simp
  |cons y r=>
   obtain ⟨y,m⟩:=y
   rw[h] at ih
   simp only[List.length_cons] at ih ⊢
   split<;>simp<;>omega
section
variable (w:World) (n:Nat)
theorem OO {C:D7} (hC:C.E=EN w (n+3)) (s:Nat) (L:List r5) (hL:L.length≤200) (j t:Nat) (hj:j+1+t≤L.length) (ht:∀ i,i<t→(L.drop (j+1))[i]! =L[j]!) (hn:t<(L.drop (j+1)).length→(L.drop (j+1))[t]! ≠ L[j]!) (q:Nat) (st:l6) {K:List KF} {P:A2}
  (hgo:gK C K (.exit 2) [(0,.sl s L.length (z6 L)),(3,.gr 2 0 q),(4,.sc (.int .i64 j)),(5,.sc (.int .i64 ((j+1+t:Nat):Int))),(29,.sc (.bool false))] st P) (hst0:st.own.length=st.own.length):
  gL C [0,3,4,5] HY K [(0,.sl s L.length (z6 L)),(3,.gr 2 0 q),(4,.sc (.int .i64 j)),(5,.sc (.int .i64 ((j+1:Nat):Int)))] st P:=by
 have hrn:C.E.rounds=D4:=by rw[hC,k8]
 have hil:=E3 L
 have hdl:(L.drop (j+1)).length=L.length - (j+1):=List.length_drop
 refine x8 (fun m fr st'=>∃ k:Nat,m=t - k∧k≤t∧fr= [(0,.sl s L.length (z6 L)),(3,.gr 2 0 q),(4,.sc (.int .i64 j)),(5,.sc (.int .i64 ((j+1+k:Nat):Int)))]∧st'=st) t ?_ ⟨_,_,.refl _ _,0,by omega,Nat.zero_le _,rfl,rfl⟩ ?_
 ·rw[hrn];unfold D4;omega
 rintro m fr st' ⟨k,rfl,hk,rfl,rfl⟩
 have hagj:=J4 L j (by omega)
 by_cases hlt:j+1+k<L.length
 ·have hag:=J4 L (j+1+k) hlt
  have hdk:=IX (L:=L) (j:=j+1) (i:=k) hlt
  by_cases hkt:k<t
  ·have he:=ht k hkt
   rw[hdk] at he
   rw[he] at hag
   generalize L[j]! =X at*
   obtain ⟨xk,xp,xa,xb⟩:=X
   simp (disch:=first|omega|assumption|exact bd (by with_unfolding_all rfl)|exact Or.inl rfl|(simp only[a7]<;>omega)|fail) only[O1,WA,l5,p9,Nat.reduceEqDiff,Nat.reduceLT,↓reduceIte,reduceCtorEq,HY,hag,hagj,↓Y8]
   exact ⟨t - (k+1),_,_,by omega,.refl _ _,k+1,rfl,by omega,by rw[show ((j+1+k:Nat):Int)+1=((j+1+(k+1):Nat):Int) from by omega],rfl⟩
  ·have:k=t:=by omega
   subst this
   have he:=hn (by omega)
   rw[hdk] at he
   have hd:=decide_eq_false he
   generalize L[j]! =X at*
   generalize L[j+1+k]! =Y at*
   obtain ⟨xk,xp,xa,xb⟩:=X
   obtain ⟨yk,yp,ya,yb⟩:=Y
   simp (disch:=first|omega|assumption|exact bd (by with_unfolding_all rfl)|exact Or.inl rfl|(simp only[a7]<;>omega)|fail) only[O1,WA,l5,p9,Nat.reduceEqDiff,Nat.reduceLT,↓reduceIte,reduceCtorEq,HY,hag,hagj,↓Y8,hd]
   exact hgo
 ·have:k=t:=by omega
  subst this
  simp (disch:=first|omega|assumption|exact bd (by with_unfolding_all rfl)|exact Or.inl rfl|(simp only[a7]<;>omega)|fail) only[O1,WA,l5,p9,Nat.reduceEqDiff,Nat.reduceLT,↓reduceIte,reduceCtorEq,HY]
  exact hgo
theorem WG (s:Nat) (L:List r5) (hL:L.length≤200) (hok:L.all B5=true):k7 (EN w (n+4)) 28 [.sl s L.length (z6 L)] (l7 (u9 L)) ⟨[],0,0⟩:=by
 have hil:=E3 L
 have hrl:=pN L
 have hP:∀ x ∈ L,B1 x:=fun x hx=>A1.1 (List.all_eq_true.1 hok x hx)
 unfold u9
 by_cases hn:L= []
 ·subst hn
  rw[if_pos rfl]
  refine b9 rfl rfl (fun _ _=>rfl) (Nat.le_of_ble_eq_true rfl) (d9 w) rfl fun C hC h0=>?_
  simp (disch:=first|omega|assumption|exact bd (by with_unfolding_all rfl)|exact Or.inl rfl|(simp only[a7]<;>omega)|fail) only[O1,WA,Nat.reduceEqDiff,Nat.reduceLT,↓reduceIte,reduceCtorEq,c28]
  exact b8 rfl h0 rfl
 rw[if_neg hn]
 have hln:0<L.length:=List.length_pos_iff.2 hn
 refine b9 rfl rfl (fun _ _=>rfl) (Nat.le_of_ble_eq_true rfl) (d9 w) rfl fun C hC h0=>?_
 have hrn:C.E.rounds=D4:=by rw[hC,k8]
 simp (disch:=first|omega|assumption|exact bd (by with_unfolding_all rfl)|exact Or.inl rfl|(simp only[a7]<;>omega)|fail) only[O1,WA,Nat.reduceEqDiff,Nat.reduceLT,↓reduceIte,reduceCtorEq,c28]
 all_goals try (exfalso;omega)
 refine x8 (fun m fr st=>∃ (j:Nat) (R:List (r5 × Nat)),m=L.length - j∧j≤L.length∧G0 L=R++G0 (L.drop j)∧fr= [(0,.sl s L.length (z6 L)),(3,.gr 2 0 R.length),(4,.sc (.int .i64 j))]∧st=⟨[(0,.gro 9 1 false ((R.map FY).map sD))],1,0⟩) L.length ?_ ⟨_,_,I7 3 9 1 rfl,0,[],by omega,Nat.zero_le _,rfl,rfl,rfl⟩ ?_
 ·rw[hrn];unfold D4;omega
 rintro m fr st ⟨j,R,rfl,hj,hR,rfl,rfl⟩
 have hRl:R.length≤200:=by
  have:=congrArg List.length hR
  rw[List.length_append] at this
  omega
 by_cases hlt:j<L.length
 ·obtain ⟨t,h1,h2,h3,h4⟩:=lN L[j]! (L.drop (j+1))
  rw[← tT hlt] at h4
  have hdl:(L.drop (j+1)).length=L.length - (j+1):=List.length_drop
  rw[hdl] at h1
  have hXP:B1 L[j]! :=hP _ (by rw[getElem!_pos _ j hlt];exact List.getElem_mem hlt)
  have hph:=LL w n L[j]! hXP ((t+1:Nat):Int) (by omega) (by omega)
  have hag:=J4 L j hlt
  rw[List.drop_drop] at h4
  have hR2:G0 L=(R++ [(L[j]!,t+1)])++G0 (L.drop (j+1+t)):=by rw[hR,h4];simp
  simp (disch:=first|omega|assumption|exact bd (by with_unfolding_all rfl)|exact Or.inl rfl|(simp only[a7]<;>omega)|fail) only[O1,WA,Nat.reduceEqDiff,Nat.reduceLT,↓reduceIte,reduceCtorEq,ZY]
  all_goals try (exfalso;omega)
  rw[show (j:Int)+1=((j+1:Nat):Int) from rfl]
  refine OO w n hC s L hL j t (by omega) h2 h3 _ _ ?_ rfl
  have hdiff:((j+1+t:Nat):Int) - j=((t+1:Nat):Int):=by omega
  generalize L[j]! =X at*
  obtain ⟨xk,xp,xa,xb⟩:=X
  simp (disch:=first|omega|assumption|exact bd (by with_unfolding_all rfl)|exact Or.inl rfl|(simp only[a7]<;>omega)|fail) only[O1,WA,Nat.reduceEqDiff,Nat.reduceLT,↓reduceIte,reduceCtorEq,hag,hdiff]
  refine a6 (by rw[hC];exact hph.flat rfl rfl) ?_
  simp (disch:=first|omega|assumption|exact bd (by with_unfolding_all rfl)|exact Or.inl rfl|(simp only[a7]<;>omega)|fail) only[O1,WA,Nat.reduceEqDiff,Nat.reduceLT,Nat.reduceAdd,↓reduceIte,reduceCtorEq,jJ]
  all_goals try (exfalso;omega)
  refine ⟨L.length - (j+1+t),_,_,by omega,s7 [(2,0)] 1 h0 rfl rfl rfl rfl,j+1+t,R++ [(⟨xk,xp,xa,xb⟩,t+1)],rfl,by omega,hR2,?_,?_⟩
  ·rw[List.length_append];rfl
  ·simp only[List.map_append];rfl
 ·have:j=L.length:=by omega
  subst this
  rw[List.drop_length,G0,List.append_nil] at hR
  have hlen:=FJ (R.map FY) 100 fun w hw=>by
   obtain ⟨r,hr,rfl⟩:=List.mem_map.1 hw
   have:=U4 L r (by rw[hR];exact hr)
   exact bJ (hP _ this.2.2) (by omega) (by omega)
  rw[List.length_map] at hlen
  have hj:=bH3 w (n+2) ⟨[],0,0⟩ 2 (by decide) (R.map FY) [44,32] (by rw[List.length_map];omega) (by rw[← PY];omega)
  rw[← PY] at hj
  rw[hR]
  have h1:∀ st:l6,f6 st.own 0=some (.gro 9 1 false ((R.map FY).map sD))→L2 st.own [.gr 2 0 R.length,.sc (.string ⟨#[44,32]⟩)]=some [.sl 2 (R.map FY).length ((R.map FY).map sD),.sc (.string ⟨#[44,32]⟩)]:=fun st h=>by
   have e:y5 st.own (.gr 2 0 R.length)=some (.sl 2 R.length ((R.map FY).map sD)):=by
    simp only[y5,bX,h,List.length_map,Nat.mul_one]
    rw[if_pos (by simp)]
    rfl
   rw[List.length_map]
   show (y5 st.own (.gr 2 0 R.length)).bind _=_
   rw[e]
   rfl
  simp (disch:=first|omega|assumption|exact bd (by with_unfolding_all rfl)|exact Or.inl rfl|(simp only[a7]<;>omega)|fail) only[O1,WA,Nat.reduceEqDiff,Nat.reduceLT,↓reduceIte,reduceCtorEq,ZY]
  all_goals try (exfalso;omega)
  refine a6 (by rw[hC];exact (k7.ofO hj).flat rfl (h1 _ rfl)) ?_
  repeat' (first|(simp (disch:=first|omega|assumption|exact bd (by with_unfolding_all rfl)|exact Or.inl rfl|(simp only[a7]<;>omega)|fail) only[O1,WA,l5,p9,Nat.reduceEqDiff,Nat.reduceLT,Nat.reduceAdd,Nat.reduceBEq,Int.reduceAdd,Int.reduceSub,Int.reduceLT,Int.reduceLE,Int.reduceEq,Int.reduceNeg,↓reduceIte,reduceCtorEq,List.replicate])|apply r6|((first|apply C5|apply y9|apply x6|apply C6|apply C4|apply x7)<;>intro _))
  exact b8 rfl h0 rfl
end
set_option maxHeartbeats 1000000
theorem bQ7 (c:UInt8):∀ (m:Nat) (s:List UInt8),s.length≤m→(r4 c s).length=Lib.countB ⟨s.toArray⟩ ⟨[c].toArray⟩+1
 |m,s,hm=>by
  show (r4 c s).length=Lib.count s [c]+1
  rcases P1 c s with h1|⟨x,r,rfl,h1⟩
  ·rw[U9 h1,Lib.count_miss (oZ s h1)];rfl
  ·cases m with
   |zero=>simp at hm
   |succ m=>
    have ih:=bQ7 c m r (by simp at hm;omega)
    rw[M3 r h1,Lib.count_hit (by simp) (iU x r h1),List.length_cons,ih]
    have e:(x++c::r).drop (x.length+ [c].length)=r:=by
     rw[show x++c::r=(x++ [c])++r from by simp,List.drop_left' (by simp)]
    rw[e]
    show Lib.count r [c]+1+1=_
    omega
theorem P3 {n:Nat} {l:List D}:eD [] (.sl 3 n l):=jH rfl
theorem Z5 {C:D7} {st:l6} {v:V} {s n:Nat} {l:List D} (hs:y5 st.own v=some (.sl s n l)) (hrow:C8 st.ro st.own (eI v)=true) (hk:s ≠ 1∨n ≠ 0) (h0:C.w0.nx=0) (hro:st.ro=0):Q8 C [(0,v)] st [(0,.sl 3 n l)] ⟨[],0,0⟩:=
 (jS (t:=0) (v:=v) rfl hs hrow).trans ((Q6 (t:=0) (v:= .sl s n l) (v':= .sl 3 n l) rfl (wP hk)).trans (s7 [] 0 h0 hro rfl rfl rfl))
theorem OE (e o k n c:Nat) (j:IntKind) (b:Int) (h0:0≤b) (h1:b≤c) (hc:c<1000000000000) (hc0:c ≠ 0):X0 e none (some (.int j b)) none (.ref o k n c)=some (.ref o k b.toNat c):=by
 have h2:Nat.blt c s6=true:=by rw[Nat.blt_eq];unfold s6;omega
 have h3:Nat.beq c 0=false:=OU.2 hc0
 have h4:lO n c none (some (.int j b)) none=some (0,b.toNat,c,false):=by
  simp only[lO,u7,h2,if_true,p6]
  rw[if_pos ⟨h0,h1⟩]
  simp[h3,h2]
 simp only[X0,h4,Option.map_some]
 simp
def cC (dn:List (List UInt8)) (N:Nat):List D:=dn.map sD++List.replicate (N - dn.length) (sD [])
theorem AB (dn:List (List UInt8)) (N:Nat) (h:dn.length≤N):(cC dn N).length=N:=by simp[cC];omega
theorem iQ (dn:List (List UInt8)) (x:List UInt8) (N:Nat) (h:dn.length<N):(cC dn N).set dn.length (sD x)=cC (dn++ [x]) N:=by
 unfold cC
 rw[List.set_append_right _ _ (by simp),List.length_map,Nat.sub_self,show N - dn.length=(N - (dn.length+1))+1 by omega,List.replicate_succ,List.length_append]
 simp
theorem AA (dn:List (List UInt8)) (N:Nat) (h:dn.length=N):cC dn N=dn.map sD:=by simp[cC,h]
section
variable (w:World) (n:Nat)
theorem aF0 (l:List UInt8) (c:UInt8) (hl:l.length≤1000000):k7 (EN w (n+5)) 56 [l7 l,l7 [c],.sc (.int .i64 0),.sc (.int .i64 (-1))] (.sl 3 (r4 c l).length ((r4 c l).map sD)) ⟨[],0,0⟩:=by
 refine E8 rfl rfl (fun _ _=>rfl) (Nat.le_of_ble_eq_true rfl) (d9 w) P3 rfl fun C hC h0=>?_
 have h1:(ByteArray.mk [c].toArray).size=1:=rfl
 have hne:¬ (ByteArray.mk [c].toArray=ByteArray.mk #[]):=fun h=>by
  have:=congrArg (fun b:ByteArray=>b.data.toList) h
  simp at this
 have hsz:=n6 l
 have hcw:=bQ7 c l.length l (Nat.le_refl _)
 have hwl:=(Go.Itp.words_len (c:=c) l.length (s:=l) (Nat.le_refl _)).1
 simp (disch:=first|omega|assumption|exact bd (by with_unfolding_all rfl)|exact Or.inl rfl|(simp only[a7]<;>omega)|fail) only[O1,WA,Nat.reduceEqDiff,Nat.reduceLT,Nat.reduceAdd,Int.reduceLT,Int.reduceNeg,↓reduceIte,reduceCtorEq,c56,hne]
 refine a6 (by rw[hC];exact SG w (n+3) _ l [c] (by omega) (Nat.le_refl 1)) ?_
 generalize hN:Lib.countB ⟨l.toArray⟩ ⟨[c].toArray⟩=N at*
 have hmin:min ((N:Int)+1) (((ByteArray.mk l.toArray).size:Int)+1)=((N+1:Nat):Int):=by rw[hsz];omega
 have hNs:((N+1:Nat):Int) - 1=(N:Int):=by omega
 have hN1:(((N+1:Nat):Int)).toNat=N+1:=by omega
 have hr0:D.sc (Value.string ⟨#[]⟩)::List.replicate N (D.sc (Value.string ⟨#[]⟩))=cC [] (N+1):=by simp[cC,sD,List.replicate_succ]
 simp (disch:=first|omega|assumption|exact bd (by with_unfolding_all rfl)|exact Or.inl rfl|(simp only[a7]<;>omega)|fail) only[O1,WA,Nat.reduceEqDiff,Nat.reduceLT,Int.reduceNeg,↓reduceIte,reduceCtorEq,List.replicate,sB,hmin,hN1,hNs]
 rw[hr0]
 refine x8 (fun m fr st=>∃ (dn:List (List UInt8)) (r:List UInt8),m=r.length∧r.length≤1000000∧r4 c l=dn++r4 c r∧fr= [(0,l7 r),(1,l7 [c]),(2,.sc (.int .i64 0)),(3,.sc (.int .i64 N)),(9,.ref 0 0 (N+1) (N+1)),(10,.sc (.int .i64 dn.length))]∧st=⟨[(0,.row 9 1 false false (cC dn (N+1)))],1,0⟩) l.length ?_ ⟨_,_,.refl _ _,[],l,rfl,hl,rfl,?_,rfl⟩ ?_
 ·rw[hC,k8];unfold D4;omega
 ·simp
 rintro m fr st ⟨dn,r,rfl,hrl,hw,rfl,rfl⟩
 have hdl:dn.length+(r4 c r).length=N+1:=by rw[← hcw,hw,List.length_append]
 have hfl:=AB dn (N+1) (by omega)
 have hfs:=iQ dn r (N+1) (by have:=List.length_pos_iff.2 (nZ c r);omega)
 rcases P1 c r with hf|⟨x,r',rfl,hf⟩
 ·have hwr:=U9 hf
  rw[hwr] at hw hdl
  have hd:dn.length=N:=by simpa using hdl
  have hcw':(dn++ [r]).length=N+1:=by simp[hd]
  simp (disch:=first|omega|assumption|exact bd (by with_unfolding_all rfl)|exact Or.inl rfl|(simp only[a7]<;>omega)|fail) only[O1,WA,Nat.reduceEqDiff,Nat.reduceLT,↓reduceIte,reduceCtorEq,IB]
  all_goals try (exfalso;omega)
  have hv:=OE 1 0 0 (N+1) (N+1) .i64 ((dn.length:Int)+1) (by omega) (by omega) (by omega) (by omega)
  have hvN:((dn.length:Int)+1).toNat=N+1:=by omega
  rw[hvN] at hv
  simp (disch:=first|omega|assumption|exact bd (by with_unfolding_all rfl)|exact Or.inl rfl|(simp only[a7]<;>omega)|fail) only[O1,WA,Nat.reduceEqDiff,Nat.reduceLT,↓reduceIte,hv]
  refine Z5 (s:=0) ?_ rfl (.inl (by decide)) h0 rfl
  rw[show D.sc (Value.string ⟨r.toArray⟩)=sD r from rfl,hfs,AA _ _ (by simp;omega),hw,hcw']
  exact CH rfl (by simp[hd])
 ·have hi:=iU x r' hf
  have hwr:=M3 r' hf
  have hlen:(x++c::r').length=x.length+r'.length+1:=by simp;omega
  have hwp:=List.length_pos_iff.2 (nZ c r')
  have hdN:dn.length<N:=by rw[hwr] at hdl;simp at hdl;omega
  have e1:=nU (x++c::r') .i64 x.length (by omega) (by rw[hlen];omega)
  have e2:=dT (x++c::r') .i64 ((x.length:Int)+1) (by omega) (by rw[hlen];omega)
  rw[Int.toNat_natCast,List.take_left] at e1
  rw[show ((x.length:Int)+1).toNat=x.length+1 by omega,show (x++c::r').drop (x.length+1)=r' by rw[← List.drop_drop];simp] at e2
  have h1i:((1:Nat):Int)=1:=rfl
  have hfx:=iQ dn x (N+1) (by omega)
  simp (disch:=first|omega|assumption|exact bd (by with_unfolding_all rfl)|exact Or.inl rfl|(simp only[a7]<;>omega)|fail) only[O1,WA,Nat.reduceEqDiff,Nat.reduceLT,↓reduceIte,reduceCtorEq,IB]
  refine a6 (by rw[hC];exact TR w (n+3) _ _ [c] (by omega)) ?_
  rw[hi]
  simp (disch:=first|omega|assumption|exact bd (by with_unfolding_all rfl)|exact Or.inl rfl|(simp only[a7]<;>omega)|fail) only[O1,WA,Nat.reduceEqDiff,Nat.reduceLT,↓reduceIte,reduceCtorEq,h1,h1i,e1,e2,Int.add_zero]
  all_goals try (exfalso;omega)
  refine ⟨_,_,_,?_,.refl _ _,dn++ [x],r',rfl,by omega,?_,?_,?_⟩
  ·rw[hlen];omega
  ·rw[hw,hwr];simp
  ·simp
  ·rw[← hfx];rfl
theorem aX7 (l:List UInt8) (c:UInt8) (hl:l.length≤1000000):k7 (EN w (n+6)) 31 [l7 l,l7 [c]] (.sl 3 (r4 c l).length ((r4 c l).map sD)) ⟨[],0,0⟩:=by
 refine E8 rfl rfl (fun _ _=>rfl) (Nat.le_of_ble_eq_true rfl) (d9 w) P3 rfl fun C hC h0=>?_
 simp (disch:=first|omega|assumption|exact bd (by with_unfolding_all rfl)|exact Or.inl rfl|(simp only[a7]<;>omega)|fail) only[O1,WA,Nat.reduceEqDiff,Nat.reduceLT,Int.reduceNeg,↓reduceIte,reduceCtorEq,c31]
 refine r9 (by rw[hC];exact aF0 w n l c hl) rfl rfl (fun _=>rfl) ?_
 repeat' (first|(simp (disch:=first|omega|assumption|exact bd (by with_unfolding_all rfl)|exact Or.inl rfl|(simp only[a7]<;>omega)|fail) only[O1,WA,l5,p9,Nat.reduceEqDiff,Nat.reduceLT,Nat.reduceAdd,Nat.reduceBEq,Int.reduceAdd,Int.reduceSub,Int.reduceLT,Int.reduceLE,Int.reduceEq,Int.reduceNeg,↓reduceIte,reduceCtorEq,List.replicate])|apply r6|((first|apply C5|apply y9|apply x6|apply C6|apply C4|apply x7)<;>intro _))
 exact s7 [] 0 h0 rfl rfl rfl rfl
theorem XF (l:List UInt8) (hl:l.length≤1000000):k7 (EN w (n+5)) 56 [l7 l,l7 [44,32],.sc (.int .i64 0),.sc (.int .i64 (-1))] (.sl 3 (l9 l).length ((l9 l).map sD)) ⟨[],0,0⟩:=by
 refine E8 rfl rfl (fun _ _=>rfl) (Nat.le_of_ble_eq_true rfl) (d9 w) P3 rfl fun C hC h0=>?_
 have h1:(ByteArray.mk #[44,32]).size=2:=rfl
 have hne:¬ (ByteArray.mk #[44,32]=ByteArray.mk #[]):=fun h=>by
  have:=congrArg (fun b:ByteArray=>b.data.toList) h
  simp at this
 have hsz:=n6 l
 have hcw:=bQ8 l.length l (Nat.le_refl _)
 have hwl:=U5 l
 simp (disch:=first|omega|assumption|exact bd (by with_unfolding_all rfl)|exact Or.inl rfl|(simp only[a7]<;>omega)|fail) only[O1,WA,Nat.reduceEqDiff,Nat.reduceLT,Nat.reduceAdd,Int.reduceLT,Int.reduceNeg,↓reduceIte,reduceCtorEq,c56,hne]
 refine a6 (by rw[hC];exact SG w (n+3) _ l [44,32] (by omega) (by decide)) ?_
 generalize hN:Lib.countB ⟨l.toArray⟩ ⟨#[44,32]⟩=N at*
 have hmin:min ((N:Int)+1) (((ByteArray.mk l.toArray).size:Int)+1)=((N+1:Nat):Int):=by rw[hsz];omega
 have hNs:((N+1:Nat):Int) - 1=(N:Int):=by omega
 have hN1:(((N+1:Nat):Int)).toNat=N+1:=by omega
 have hr0:D.sc (Value.string ⟨#[]⟩)::List.replicate N (D.sc (Value.string ⟨#[]⟩))=cC [] (N+1):=by simp[cC,sD,List.replicate_succ]
 simp (disch:=first|omega|assumption|exact bd (by with_unfolding_all rfl)|exact Or.inl rfl|(simp only[a7]<;>omega)|fail) only[O1,WA,Nat.reduceEqDiff,Nat.reduceLT,Int.reduceNeg,↓reduceIte,reduceCtorEq,List.replicate,sB,hmin,hN1,hNs]
 rw[hr0]
 refine x8 (fun m fr st=>∃ (dn:List (List UInt8)) (r:List UInt8),m=r.length∧r.length≤1000000∧l9 l=dn++l9 r∧fr= [(0,l7 r),(1,l7 [44,32]),(2,.sc (.int .i64 0)),(3,.sc (.int .i64 N)),(9,.ref 0 0 (N+1) (N+1)),(10,.sc (.int .i64 dn.length))]∧st=⟨[(0,.row 9 1 false false (cC dn (N+1)))],1,0⟩) l.length ?_ ⟨_,_,.refl _ _,[],l,rfl,hl,rfl,?_,rfl⟩ ?_
 ·rw[hC,k8];unfold D4;omega
 ·simp
 rintro m fr st ⟨dn,r,rfl,hrl,hw,rfl,rfl⟩
 have hdl:dn.length+(l9 r).length=N+1:=by rw[← hcw,hw,List.length_append]
 have hfl:=AB dn (N+1) (by omega)
 have hfs:=iQ dn r (N+1) (by have:=List.length_pos_iff.2 (Q3 r);omega)
 rcases lD r with ⟨hi0,hwr⟩|⟨x,r',rfl,hi,hwr⟩
 ·rw[hwr] at hw hdl
  have hd:dn.length=N:=by simpa using hdl
  have hcw':(dn++ [r]).length=N+1:=by simp[hd]
  simp (disch:=first|omega|assumption|exact bd (by with_unfolding_all rfl)|exact Or.inl rfl|(simp only[a7]<;>omega)|fail) only[O1,WA,Nat.reduceEqDiff,Nat.reduceLT,↓reduceIte,reduceCtorEq,IB]
  all_goals try (exfalso;omega)
  have hv:=OE 1 0 0 (N+1) (N+1) .i64 ((dn.length:Int)+1) (by omega) (by omega) (by omega) (by omega)
  have hvN:((dn.length:Int)+1).toNat=N+1:=by omega
  rw[hvN] at hv
  simp (disch:=first|omega|assumption|exact bd (by with_unfolding_all rfl)|exact Or.inl rfl|(simp only[a7]<;>omega)|fail) only[O1,WA,Nat.reduceEqDiff,Nat.reduceLT,↓reduceIte,hv]
  refine Z5 (s:=0) ?_ rfl (.inl (by decide)) h0 rfl
  rw[show D.sc (Value.string ⟨r.toArray⟩)=sD r from rfl,hfs,AA _ _ (by simp;omega),hw,hcw']
  exact CH rfl (by simp[hd])
 ·have hlen:(x++44::32::r').length=x.length+r'.length+2:=by simp;omega
  have hwp:=List.length_pos_iff.2 (Q3 r')
  have hdN:dn.length<N:=by rw[hwr] at hdl;simp at hdl;omega
  have e1:=nU (x++44::32::r') .i64 x.length (by omega) (by rw[hlen];omega)
  have e2:=dT (x++44::32::r') .i64 ((x.length:Int)+2) (by omega) (by rw[hlen];omega)
  rw[Int.toNat_natCast,List.take_left] at e1
  rw[show ((x.length:Int)+2).toNat=x.length+2 by omega,show (x++44::32::r').drop (x.length+2)=r' by rw[← List.drop_drop];simp] at e2
  have h1i:((2:Nat):Int)=2:=rfl
  have hfx:=iQ dn x (N+1) (by omega)
  simp (disch:=first|omega|assumption|exact bd (by with_unfolding_all rfl)|exact Or.inl rfl|(simp only[a7]<;>omega)|fail) only[O1,WA,Nat.reduceEqDiff,Nat.reduceLT,↓reduceIte,reduceCtorEq,IB]
  refine a6 (by rw[hC];exact TR w (n+3) _ _ [44,32] (by omega)) ?_
  rw[hi]
  simp (disch:=first|omega|assumption|exact bd (by with_unfolding_all rfl)|exact Or.inl rfl|(simp only[a7]<;>omega)|fail) only[O1,WA,Nat.reduceEqDiff,Nat.reduceLT,↓reduceIte,reduceCtorEq,h1,h1i,e1,e2,Int.add_zero]
  all_goals try (exfalso;omega)
  refine ⟨_,_,_,?_,.refl _ _,dn++ [x],r',rfl,by omega,?_,?_,?_⟩
  ·rw[hlen];omega
  ·rw[hw,hwr];simp
  ·simp
  ·rw[← hfx];rfl
theorem aM9 (l:List UInt8) (hl:l.length≤1000000):k7 (EN w (n+6)) 31 [l7 l,l7 [44,32]] (.sl 3 (l9 l).length ((l9 l).map sD)) ⟨[],0,0⟩:=by
 refine E8 rfl rfl (fun _ _=>rfl) (Nat.le_of_ble_eq_true rfl) (d9 w) P3 rfl fun C hC h0=>?_
 simp (disch:=first|omega|assumption|exact bd (by with_unfolding_all rfl)|exact Or.inl rfl|(simp only[a7]<;>omega)|fail) only[O1,WA,Nat.reduceEqDiff,Nat.reduceLT,Int.reduceNeg,↓reduceIte,reduceCtorEq,c31]
 refine r9 (by rw[hC];exact XF w n l hl) rfl rfl (fun _=>rfl) ?_
 repeat' (first|(simp (disch:=first|omega|assumption|exact bd (by with_unfolding_all rfl)|exact Or.inl rfl|(simp only[a7]<;>omega)|fail) only[O1,WA,l5,p9,Nat.reduceEqDiff,Nat.reduceLT,Nat.reduceAdd,Nat.reduceBEq,Int.reduceAdd,Int.reduceSub,Int.reduceLT,Int.reduceLE,Int.reduceEq,Int.reduceNeg,↓reduceIte,reduceCtorEq,List.replicate])|apply r6|((first|apply C5|apply y9|apply x6|apply C6|apply C4|apply x7)<;>intro _))
 exact s7 [] 0 h0 rfl rfl rfl rfl
end
set_option maxHeartbeats 400000
section
variable (w:World) (n:Nat)
theorem KE (s p:List UInt8) (hs:s.length≤1000000):k7 (EN w (n+1)) 88 [l7 s,l7 p] (.sc (.bool (q8 p s).isSome)) ⟨[],0,0⟩:=by
 have h1:=n6 s
 have h2:=n6 p
 unfold q8
 by_cases hl:p.length≤s.length
 ·have e1:=nU s .i64 p.length (by omega) (by omega)
  rw[Int.toNat_natCast] at e1
  by_cases he:s.take p.length=p
  ·rw[if_pos ⟨hl,he⟩]
   rw[he] at e1
   refine b9 rfl rfl (fun _ _=>rfl) (Nat.le_of_ble_eq_true rfl) (d9 w) rfl fun C hC h0=>?_
   simp (disch:=first|omega|assumption|exact bd (by with_unfolding_all rfl)|exact Or.inl rfl|(simp only[a7]<;>omega)|fail) only[O1,WA,Nat.reduceEqDiff,Nat.reduceLT,↓reduceIte,reduceCtorEq,c88,h1,h2,e1]
   all_goals try (exfalso;omega)
   exact b8 rfl h0 rfl
  ·rw[if_neg fun h=>he h.2]
   have he2:¬ ((⟨(s.take p.length).toArray⟩:ByteArray)=⟨p.toArray⟩):=by rw[bS];exact he
   generalize s.take p.length=T at*
   refine b9 rfl rfl (fun _ _=>rfl) (Nat.le_of_ble_eq_true rfl) (d9 w) rfl fun C hC h0=>?_
   simp (disch:=first|omega|assumption|exact bd (by with_unfolding_all rfl)|exact Or.inl rfl|(simp only[a7]<;>omega)|fail) only[O1,WA,Nat.reduceEqDiff,Nat.reduceLT,↓reduceIte,reduceCtorEq,c88,h1,h2,e1,he2]
   all_goals try (exfalso;omega)
   exact b8 rfl h0 rfl
 ·rw[if_neg fun h=>hl h.1]
  refine b9 rfl rfl (fun _ _=>rfl) (Nat.le_of_ble_eq_true rfl) (d9 w) rfl fun C hC h0=>?_
  simp (disch:=first|omega|assumption|exact bd (by with_unfolding_all rfl)|exact Or.inl rfl|(simp only[a7]<;>omega)|fail) only[O1,WA,Nat.reduceEqDiff,Nat.reduceLT,↓reduceIte,reduceCtorEq,c88,h1,h2]
  all_goals try (exfalso;omega)
  exact b8 rfl h0 rfl
theorem T4 {p s t:List UInt8} (h:q8 p s=some t):p.length≤s.length∧t=s.drop p.length:=by
 unfold q8 at h
 split at h
 ·rename_i hc;cases h;exact ⟨hc.1,rfl⟩
 ·cases h
theorem oK {p s t:List UInt8} (h:H3 p s=some t):p.length≤s.length∧t=s.take (s.length - p.length):=by
 unfold H3 at h
 split at h
 ·rename_i hc;cases h;exact ⟨hc.1,rfl⟩
 ·cases h
theorem WS (s p:List UInt8) (hs:s.length≤1000000):k7 (EN w (n+2)) 66 [l7 s,l7 p] (.tup [l7 ((q8 p s).getD s),.sc (.bool (q8 p s).isSome)]) ⟨[],0,0⟩:=by
 have h1:=n6 s
 have h2:=n6 p
 have hh:=KE w n s p hs
 cases hc:q8 p s with
 |none=>
  rw[hc] at hh
  refine b9 rfl rfl (fun _ _=>rfl) (Nat.le_of_ble_eq_true rfl) (d9 w) rfl fun C hC h0=>?_
  simp (disch:=first|omega|assumption|exact bd (by with_unfolding_all rfl)|exact Or.inl rfl|(simp only[a7]<;>omega)|fail) only[O1,WA,Nat.reduceEqDiff,Nat.reduceLT,↓reduceIte,reduceCtorEq,c66]
  refine a6 (by rw[hC];exact hh.flat rfl rfl) ?_
  simp (disch:=first|omega|assumption|exact bd (by with_unfolding_all rfl)|exact Or.inl rfl|(simp only[a7]<;>omega)|fail) only[O1,WA,Nat.reduceEqDiff,Nat.reduceLT,↓reduceIte,reduceCtorEq,Option.isSome_none]
  exact b8 rfl h0 rfl
 |some t=>
  rw[hc] at hh
  obtain ⟨hl,ht⟩:=T4 hc
  have e1:=dT s .i64 p.length (by omega) (by omega)
  rw[Int.toNat_natCast,← ht] at e1
  refine b9 rfl rfl (fun _ _=>rfl) (Nat.le_of_ble_eq_true rfl) (d9 w) rfl fun C hC h0=>?_
  simp (disch:=first|omega|assumption|exact bd (by with_unfolding_all rfl)|exact Or.inl rfl|(simp only[a7]<;>omega)|fail) only[O1,WA,Nat.reduceEqDiff,Nat.reduceLT,↓reduceIte,reduceCtorEq,c66]
  refine a6 (by rw[hC];exact hh.flat rfl rfl) ?_
  simp (disch:=first|omega|assumption|exact bd (by with_unfolding_all rfl)|exact Or.inl rfl|(simp only[a7]<;>omega)|fail) only[O1,WA,Nat.reduceEqDiff,Nat.reduceLT,↓reduceIte,reduceCtorEq,Option.isSome_some,h2,e1]
  exact b8 rfl h0 rfl
theorem tM (s p:List UInt8) (hs:s.length≤1000000):k7 (EN w (n+3)) 40 [l7 s,l7 p] (.tup [l7 ((q8 p s).getD s),.sc (.bool (q8 p s).isSome)]) ⟨[],0,0⟩:=by
 have hh:=WS w n s p hs
 generalize (q8 p s).getD s=T at*
 generalize (q8 p s).isSome=B at*
 refine b9 rfl rfl (fun _ _=>rfl) (Nat.le_of_ble_eq_true rfl) (d9 w) rfl fun C hC h0=>?_
 simp (disch:=first|omega|assumption|exact bd (by with_unfolding_all rfl)|exact Or.inl rfl|(simp only[a7]<;>omega)|fail) only[O1,WA,Nat.reduceEqDiff,Nat.reduceLT,↓reduceIte,reduceCtorEq,c40]
 refine a6 (by rw[hC];exact hh.flat rfl rfl) ?_
 simp (disch:=first|omega|assumption|exact bd (by with_unfolding_all rfl)|exact Or.inl rfl|(simp only[a7]<;>omega)|fail) only[O1,WA,Nat.reduceEqDiff,Nat.reduceLT,↓reduceIte,reduceCtorEq]
 exact b8 rfl h0 rfl
theorem RG (s p:List UInt8) (hs:s.length≤1000000):k7 (EN w (n+2)) 83 [l7 s,l7 p] (l7 ((q8 p s).getD s)) ⟨[],0,0⟩:=by
 have h1:=n6 s
 have h2:=n6 p
 have hh:=KE w n s p hs
 cases hc:q8 p s with
 |none=>
  rw[hc] at hh
  refine b9 rfl rfl (fun _ _=>rfl) (Nat.le_of_ble_eq_true rfl) (d9 w) rfl fun C hC h0=>?_
  simp (disch:=first|omega|assumption|exact bd (by with_unfolding_all rfl)|exact Or.inl rfl|(simp only[a7]<;>omega)|fail) only[O1,WA,Nat.reduceEqDiff,Nat.reduceLT,↓reduceIte,reduceCtorEq,c83]
  refine a6 (by rw[hC];exact hh.flat rfl rfl) ?_
  simp (disch:=first|omega|assumption|exact bd (by with_unfolding_all rfl)|exact Or.inl rfl|(simp only[a7]<;>omega)|fail) only[O1,WA,Nat.reduceEqDiff,Nat.reduceLT,↓reduceIte,reduceCtorEq,Option.isSome_none]
  exact b8 rfl h0 rfl
 |some t=>
  rw[hc] at hh
  obtain ⟨hl,ht⟩:=T4 hc
  have e1:=dT s .i64 p.length (by omega) (by omega)
  rw[Int.toNat_natCast,← ht] at e1
  refine b9 rfl rfl (fun _ _=>rfl) (Nat.le_of_ble_eq_true rfl) (d9 w) rfl fun C hC h0=>?_
  simp (disch:=first|omega|assumption|exact bd (by with_unfolding_all rfl)|exact Or.inl rfl|(simp only[a7]<;>omega)|fail) only[O1,WA,Nat.reduceEqDiff,Nat.reduceLT,↓reduceIte,reduceCtorEq,c83]
  refine a6 (by rw[hC];exact hh.flat rfl rfl) ?_
  simp (disch:=first|omega|assumption|exact bd (by with_unfolding_all rfl)|exact Or.inl rfl|(simp only[a7]<;>omega)|fail) only[O1,WA,Nat.reduceEqDiff,Nat.reduceLT,↓reduceIte,reduceCtorEq,Option.isSome_some,h2,e1]
  exact b8 rfl h0 rfl
theorem YW (s p:List UInt8) (hs:s.length≤1000000):k7 (EN w (n+3)) 59 [l7 s,l7 p] (l7 ((q8 p s).getD s)) ⟨[],0,0⟩:=by
 have hh:=RG w n s p hs
 generalize (q8 p s).getD s=T at*
 refine b9 rfl rfl (fun _ _=>rfl) (Nat.le_of_ble_eq_true rfl) (d9 w) rfl fun C hC h0=>?_
 simp (disch:=first|omega|assumption|exact bd (by with_unfolding_all rfl)|exact Or.inl rfl|(simp only[a7]<;>omega)|fail) only[O1,WA,Nat.reduceEqDiff,Nat.reduceLT,↓reduceIte,reduceCtorEq,c59]
 refine a6 (by rw[hC];exact hh.flat rfl rfl) ?_
 repeat' (first|(simp (disch:=first|omega|assumption|exact bd (by with_unfolding_all rfl)|exact Or.inl rfl|(simp only[a7]<;>omega)|fail) only[O1,WA,l5,p9,Nat.reduceEqDiff,Nat.reduceLT,Nat.reduceAdd,Nat.reduceBEq,Int.reduceAdd,Int.reduceSub,Int.reduceLT,Int.reduceLE,Int.reduceEq,Int.reduceNeg,↓reduceIte,reduceCtorEq,List.replicate])|apply r6|((first|apply C5|apply y9|apply x6|apply C6|apply C4|apply x7)<;>intro _))
 exact b8 rfl h0 rfl
theorem aF1 (s p:List UInt8) (hs:s.length≤1000000):k7 (EN w (n+1)) 87 [l7 s,l7 p] (.sc (.bool (H3 p s).isSome)) ⟨[],0,0⟩:=by
 have h1:=n6 s
 have h2:=n6 p
 unfold H3
 by_cases hl:p.length≤s.length
 ·have e1:=dT s .i64 ((s.length:Int) - p.length) (by omega) (by omega)
  rw[show ((s.length:Int) - p.length).toNat=s.length - p.length from by omega] at e1
  by_cases he:s.drop (s.length - p.length)=p
  ·rw[if_pos ⟨hl,he⟩]
   rw[he] at e1
   refine b9 rfl rfl (fun _ _=>rfl) (Nat.le_of_ble_eq_true rfl) (d9 w) rfl fun C hC h0=>?_
   simp (disch:=first|omega|assumption|exact bd (by with_unfolding_all rfl)|exact Or.inl rfl|(simp only[a7]<;>omega)|fail) only[O1,WA,Nat.reduceEqDiff,Nat.reduceLT,↓reduceIte,reduceCtorEq,c87,h1,h2,e1]
   all_goals try (exfalso;omega)
   exact b8 rfl h0 rfl
  ·rw[if_neg fun h=>he h.2]
   have he2:¬ ((⟨(s.drop (s.length - p.length)).toArray⟩:ByteArray)=⟨p.toArray⟩):=by rw[bS];exact he
   generalize s.drop (s.length - p.length)=T at*
   refine b9 rfl rfl (fun _ _=>rfl) (Nat.le_of_ble_eq_true rfl) (d9 w) rfl fun C hC h0=>?_
   simp (disch:=first|omega|assumption|exact bd (by with_unfolding_all rfl)|exact Or.inl rfl|(simp only[a7]<;>omega)|fail) only[O1,WA,Nat.reduceEqDiff,Nat.reduceLT,↓reduceIte,reduceCtorEq,c87,h1,h2,e1,he2]
   all_goals try (exfalso;omega)
   exact b8 rfl h0 rfl
 ·rw[if_neg fun h=>hl h.1]
  refine b9 rfl rfl (fun _ _=>rfl) (Nat.le_of_ble_eq_true rfl) (d9 w) rfl fun C hC h0=>?_
  simp (disch:=first|omega|assumption|exact bd (by with_unfolding_all rfl)|exact Or.inl rfl|(simp only[a7]<;>omega)|fail) only[O1,WA,Nat.reduceEqDiff,Nat.reduceLT,↓reduceIte,reduceCtorEq,c87,h1,h2]
  all_goals try (exfalso;omega)
  exact b8 rfl h0 rfl
theorem WT (s p:List UInt8) (hs:s.length≤1000000):k7 (EN w (n+2)) 65 [l7 s,l7 p] (.tup [l7 ((H3 p s).getD s),.sc (.bool (H3 p s).isSome)]) ⟨[],0,0⟩:=by
 have h1:=n6 s
 have h2:=n6 p
 have hh:=aF1 w n s p hs
 cases hc:H3 p s with
 |none=>
  rw[hc] at hh
  refine b9 rfl rfl (fun _ _=>rfl) (Nat.le_of_ble_eq_true rfl) (d9 w) rfl fun C hC h0=>?_
  simp (disch:=first|omega|assumption|exact bd (by with_unfolding_all rfl)|exact Or.inl rfl|(simp only[a7]<;>omega)|fail) only[O1,WA,Nat.reduceEqDiff,Nat.reduceLT,↓reduceIte,reduceCtorEq,c65]
  refine a6 (by rw[hC];exact hh.flat rfl rfl) ?_
  simp (disch:=first|omega|assumption|exact bd (by with_unfolding_all rfl)|exact Or.inl rfl|(simp only[a7]<;>omega)|fail) only[O1,WA,Nat.reduceEqDiff,Nat.reduceLT,↓reduceIte,reduceCtorEq,Option.isSome_none]
  exact b8 rfl h0 rfl
 |some t=>
  rw[hc] at hh
  obtain ⟨hl,ht⟩:=oK hc
  have e1:=nU s .i64 ((s.length:Int) - p.length) (by omega) (by omega)
  rw[show ((s.length:Int) - p.length).toNat=s.length - p.length from by omega,← ht] at e1
  refine b9 rfl rfl (fun _ _=>rfl) (Nat.le_of_ble_eq_true rfl) (d9 w) rfl fun C hC h0=>?_
  simp (disch:=first|omega|assumption|exact bd (by with_unfolding_all rfl)|exact Or.inl rfl|(simp only[a7]<;>omega)|fail) only[O1,WA,Nat.reduceEqDiff,Nat.reduceLT,↓reduceIte,reduceCtorEq,c65]
  refine a6 (by rw[hC];exact hh.flat rfl rfl) ?_
  simp (disch:=first|omega|assumption|exact bd (by with_unfolding_all rfl)|exact Or.inl rfl|(simp only[a7]<;>omega)|fail) only[O1,WA,Nat.reduceEqDiff,Nat.reduceLT,↓reduceIte,reduceCtorEq,Option.isSome_some,h1,h2,e1]
  exact b8 rfl h0 rfl
theorem tP (s p:List UInt8) (hs:s.length≤1000000):k7 (EN w (n+3)) 39 [l7 s,l7 p] (.tup [l7 ((H3 p s).getD s),.sc (.bool (H3 p s).isSome)]) ⟨[],0,0⟩:=by
 have hh:=WT w n s p hs
 generalize (H3 p s).getD s=T at*
 generalize (H3 p s).isSome=B at*
 refine b9 rfl rfl (fun _ _=>rfl) (Nat.le_of_ble_eq_true rfl) (d9 w) rfl fun C hC h0=>?_
 simp (disch:=first|omega|assumption|exact bd (by with_unfolding_all rfl)|exact Or.inl rfl|(simp only[a7]<;>omega)|fail) only[O1,WA,Nat.reduceEqDiff,Nat.reduceLT,↓reduceIte,reduceCtorEq,c39]
 refine a6 (by rw[hC];exact hh.flat rfl rfl) ?_
 simp (disch:=first|omega|assumption|exact bd (by with_unfolding_all rfl)|exact Or.inl rfl|(simp only[a7]<;>omega)|fail) only[O1,WA,Nat.reduceEqDiff,Nat.reduceLT,↓reduceIte,reduceCtorEq]
 exact b8 rfl h0 rfl
theorem IV (s:List UInt8):(G6 s).length≤4∧(G6 s).length≤s.length∧G6 s=s.take (G6 s).length∧(∀ i,i<(G6 s).length→y7 s[i]! =true)∧((G6 s).length<4→(G6 s).length<s.length→y7 s[(G6 s).length]! =false):=by
 have aux:∀ (m:Nat) (l:List UInt8),((l.take m).takeWhile y7).length≤m∧((l.take m).takeWhile y7).length≤l.length∧(l.take m).takeWhile y7=l.take ((l.take m).takeWhile y7).length∧(∀ i,i<((l.take m).takeWhile y7).length→y7 l[i]! =true)∧(((l.take m).takeWhile y7).length<m→((l.take m).takeWhile y7).length<l.length→y7 l[((l.take m).takeWhile y7).length]! =false):=by
  intro m
  induction m with
  |zero=>intro l;simp
  |succ m ih=>
   intro l
   cases l with
   |nil=>simp
   |cons c l=>
    obtain ⟨h1,h2,h3,h4,h5⟩:=ih l
    rw[List.take_succ_cons,List.takeWhile_cons]
    cases hc:y7 c with
    |false=>simp[hc]
    |true=>
     simp only[if_true,List.length_cons,List.take_succ_cons]
     refine ⟨by omega,by omega,by rw[← h3],fun i hi=>?_,fun a b=>?_⟩
     ·cases i with
      |zero=>simpa using hc
      |succ i=>simpa using h4 i (by omega)
     ·have:=h5 (by omega) (by omega)
      simpa using this
 exact aux 4 s
theorem YX {s:List UInt8} {k:Nat} (hk:k<s.length):W7 (s.take (k+1))=10*W7 (s.take k)+((s[k]!.toNat:Int) - 48):=by
 rw[List.take_succ_eq_append_getElem hk,pU,getElem!_pos s k hk]
theorem RI:∀ (n:Nat) (l:List UInt8),l.length=n→(∀ c ∈ l,y7 c=true)→0≤W7 l∧W7 l<10 ^ l.length:=by
 intro n
 induction n with
 |zero=>
  intro l hl _
  have:=List.eq_nil_of_length_eq_zero hl
  subst this
  simp[W7]
 |succ n ih=>
  intro l hl h
  rcases List.eq_nil_or_concat l with rfl|⟨q,d,rfl⟩
  ·simp at hl
  ·have h1:=ih q (by simpa using hl) fun c hc=>h c (by simp[hc])
   have h2:=h d (by simp)
   simp only[y7,Bool.and_eq_true,decide_eq_true_eq] at h2
   rw[List.concat_eq_append,pU,List.length_append,List.length_singleton,Int.pow_succ]
   omega
theorem bT8 {s:List UInt8} {k:Nat} (hk:k≤(G6 s).length):0≤W7 (s.take k)∧W7 (s.take k)<10000:=by
 obtain ⟨h1,h2,h3,h4,h5⟩:=IV s
 have hb:=RI _ (s.take k) rfl fun c hc=>by
  obtain ⟨i,hi,rfl⟩:=List.mem_iff_getElem.1 hc
  rw[List.length_take] at hi
  have:=h4 i (by omega)
  rw[getElem!_pos s i (by omega)] at this
  rw[List.getElem_take];exact this
 refine ⟨hb.1,Int.lt_of_lt_of_le hb.2 ?_⟩
 have hl:(s.take k).length≤4:=by rw[List.length_take];omega
 rcases (by omega:(s.take k).length=0∨(s.take k).length=1∨(s.take k).length=2∨(s.take k).length=3∨(s.take k).length=4) with h|h|h|h|h<;>rw[h]<;>decide
theorem KZ (s:List UInt8) (hs:s.length≤1000000):k7 (EN w (n+1)) 58 [l7 s] (.tup [.sc (.int .i64 (W7 (G6 s))),l7 (cP s),.sc (.bool (decide (G6 s ≠ [])))]) ⟨[],0,0⟩:=by
 refine b9 rfl rfl (fun _ _=>rfl) (Nat.le_of_ble_eq_true rfl) (d9 w) rfl fun C hC h0=>?_
 have hrn:C.E.rounds=D4:=by rw[hC,k8]
 have hsz:=n6 s
 obtain ⟨h1,h2,h3,h4,h5⟩:=IV s
 have hv:=fun k (hk:k≤(G6 s).length)=>bT8 hk
 have hne:decide (G6 s ≠ [])=decide (0<(G6 s).length):=by
  rw[Bool.eq_iff_iff,decide_eq_true_iff,decide_eq_true_iff,List.length_pos_iff]
 rw[hne]
 unfold cP
 have hval:W7 (G6 s)=W7 (s.take (G6 s).length):=congrArg W7 h3
 rw[hval]
 generalize (G6 s).length=d at*
 simp (disch:=first|omega|assumption|exact bd (by with_unfolding_all rfl)|exact Or.inl rfl|(simp only[a7]<;>omega)|fail) only[O1,WA,Nat.reduceEqDiff,Nat.reduceLT,↓reduceIte,reduceCtorEq,c58]
 refine x8 (fun m fr st=>∃ k:Nat,m=d - k∧k≤d∧fr= [(0,l7 s),(2,.sc (.int .i64 (W7 (s.take k)))),(5,.sc (.int .i64 k))]∧st=⟨[],0,0⟩) d ?_ ⟨_,_,.refl _ _,0,by omega,Nat.zero_le _,rfl,rfl⟩ ?_
 ·rw[hrn];unfold D4;omega
 rintro m fr st ⟨k,rfl,hk,rfl,rfl⟩
 have hvk:=hv k hk
 by_cases hlt:k<d
 ·have hdg:=h4 k hlt
  have hb:=R6 s .i64 k (by omega) (by omega)
  rw[Int.toNat_natCast] at hb
  have hst:=YX (s:=s) (k:=k) (by omega)
  have hvk1:=hv (k+1) hlt
  simp only[y7,Bool.and_eq_true,decide_eq_true_eq] at hdg
  generalize s[k]!.toNat=b at*
  generalize W7 (s.take k)=v at*
  have e1:IntKind.u8.wrap ((b:Int) - 48)=((b - 48:Nat):Int):=by rw[sI _ (by omega) (by omega)];omega
  simp (disch:=first|omega|assumption|exact bd (by with_unfolding_all rfl)|exact Or.inl rfl|(simp only[a7]<;>omega)|fail) only[O1,WA,Nat.reduceEqDiff,Nat.reduceLT,↓reduceIte,reduceCtorEq,IC,hsz,hb,e1]
  all_goals try (exfalso;omega)
  refine ⟨_,_,_,by omega,.refl _ _,k+1,rfl,hlt,?_,rfl⟩
  rw[hst,show (b:Int) - 48=((b - 48:Nat):Int) from by omega]
  rfl
 ·have:k=d:=by omega
  subst this
  have e1:=dT s .i64 k (by omega) (by omega)
  rw[Int.toNat_natCast] at e1
  by_cases hb4:k<4∧k<s.length
  ·have hdg:=h5 hb4.1 hb4.2
   have hb:=R6 s .i64 k (by omega) (by omega)
   rw[Int.toNat_natCast] at hb
   have hdg2:¬ (48≤s[k]!.toNat∧s[k]!.toNat≤57):=fun h=>by
    have:y7 s[k]! =true:=by simp only[y7,Bool.and_eq_true,decide_eq_true_eq];exact h
    rw[hdg] at this;cases this
   generalize s[k]!.toNat=b at*
   generalize W7 (s.take k)=v at*
   rcases (by omega:b<48∨57<b) with h|h
   all_goals
    repeat' (first|(simp (disch:=first|omega|assumption|exact bd (by with_unfolding_all rfl)|exact Or.inl rfl|(simp only[a7]<;>omega)|fail) only[O1,WA,l5,p9,Nat.reduceEqDiff,Nat.reduceLT,↓reduceIte,reduceCtorEq,IC,hsz,hb,e1])|apply r6|((first|apply C5|apply y9|apply x6|apply C6|apply C4|apply x7)<;>intro _))
    all_goals try (exfalso;omega)
    rw[show decide ((0:Int)<k)=decide (0<k) from decide_eq_decide.2 (by omega)]
    exact b8 rfl h0 rfl
  ·generalize W7 (s.take k)=v at*
   rcases (by omega:¬ k<s.length∨(k<s.length∧¬ k<4)) with h|h
   ·simp (disch:=first|omega|assumption|exact bd (by with_unfolding_all rfl)|exact Or.inl rfl|(simp only[a7]<;>omega)|fail) only[O1,WA,l5,p9,Nat.reduceEqDiff,Nat.reduceLT,↓reduceIte,reduceCtorEq,IC,hsz,e1]
    all_goals try (exfalso;omega)
    rw[show decide ((0:Int)<k)=decide (0<k) from decide_eq_decide.2 (by omega)]
    exact b8 rfl h0 rfl
   ·simp (disch:=first|omega|assumption|exact bd (by with_unfolding_all rfl)|exact Or.inl rfl|(simp only[a7]<;>omega)|fail) only[O1,WA,l5,p9,Nat.reduceEqDiff,Nat.reduceLT,↓reduceIte,reduceCtorEq,IC,hsz,e1]
    all_goals try (exfalso;omega)
    exact b8 rfl h0 rfl
end
end Go.Proofs.YtimmmnanllcfoaaDoor
