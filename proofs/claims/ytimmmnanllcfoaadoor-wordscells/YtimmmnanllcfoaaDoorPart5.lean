/- What is proved: the law WordsCells returns true for every input. Conditions: none beyond the card's own.
   Texts: C41VA, S41D, H41V, P41a, P41b, P41c, P41d, P41e, Q41a, Q41b, Q41c, P41f, Q41d, Q41e, Q41f, Q41g, Q41h.
-/
import Derived.Test.YtimmmnanllcfoaaDoorPart4
import Derived.Test.YtimmmnanllcfoaaDoorProg
import Derived.Shelf.Strings.Builder1
import Derived.Shelf.Strings.Builder2
import Derived.Shelf.Strings.OnBuilder
import Derived.Shelf.Utf8.RuneCount
import Derived.Shelf.Strconv.Itoa0
import Derived.Shelf.Strconv.Itoa1
import Derived.Shelf.LaysM
import Derived.Shelf.Strconv.Itoa2
import Derived.Shelf.Strconv.Itoa3
import Derived.Shelf.Strings.Search1
import Derived.Shelf.Strings.Search2
import Derived.Shelf.Strings.Search3
import Derived.Shelf.Strings.Count
import Derived.Shelf.Strings.Shaped
import Derived.Shelf.Strings.Split
import Derived.Shelf.Strings.Replace
import Derived.Shelf.Strings.SplitShaped
import Derived.Shelf.Unicode.Decode
import Derived.Shelf.Strings.RuneCount
import Derived.Shelf.Strings.Explode
import Derived.Shelf.Unicode.DecodeSlow
import Derived.Shelf.Unicode.DecodeAny
import Derived.KernelRfl
import Derived.Lib.Join
import Derived.Lib.Replace
import Derived.Lib.Bytealg
namespace Go.Proofs.YtimmmnanllcfoaaDoor
open Go Go.Itp
set_option maxRecDepth 100000
@[reducible] def O1 (d:Nat) (p:AOp):AOper:=⟨some d,none,p⟩
/- raddle/raddlelaw41.WordsCells -/
def c3:AFun:=⟨.seq (.ops [O1 4 (.mov (.const (.bool false)))] [0,1]) (.seq (.seq (.ops [O1 13 (.mov (.tmp 0)),O1 14 (.callF 9 [.tmp 13]),O1 15 (.mov (.tmp 14)),⟨some 16,some (15,false),.mov (.tmp 1)⟩,⟨some 17,some (15,false),.len true (.tmp 16)⟩,⟨some 18,some (15,false),.bin .gtr (.tmp 17) (.const (.int .i64 2500))⟩,O1 19 (.pick (.tmp 15) (.const (.bool true)) (.tmp 18))] [0,1,19]) (.cond (.tmp 19) (.seq (.ops [O1 4 (.mov (.const (.bool true)))] [4]) (.ret)) (.skip))) (.seq (.ops [O1 21 (.mov (.tmp 0)),O1 22 (.callF 10 [.tmp 21]),O1 20 (.mov (.tmp 22)),O1 23 (.ext (.tmp 20) 0),O1 24 (.ext (.tmp 20) 1),O1 5 (.mov (.tmp 23)),O1 6 (.mov (.tmp 24))] [0,1,5,6]) (.seq (.ops [O1 26 (.mov (.tmp 0)),O1 27 (.callF 11 [.tmp 26]),O1 25 (.mov (.tmp 27)),O1 28 (.ext (.tmp 25) 0),O1 29 (.ext (.tmp 25) 1),O1 7 (.mov (.tmp 28)),O1 8 (.mov (.tmp 29))] [1,5,6,7,8]) (.seq (.ops [O1 31 (.mov (.tmp 1)),O1 32 (.callF 12 [.tmp 31]),O1 30 (.mov (.tmp 32)),O1 33 (.ext (.tmp 30) 0),O1 34 (.ext (.tmp 30) 1),O1 9 (.mov (.tmp 33)),O1 10 (.mov (.tmp 34))] [1,5,6,7,8,9,10]) (.seq (.ops [O1 36 (.mov (.tmp 1)),O1 37 (.callF 13 [.tmp 36]),O1 35 (.mov (.tmp 37)),O1 38 (.ext (.tmp 35) 0),O1 39 (.ext (.tmp 35) 1),O1 11 (.mov (.tmp 38)),O1 12 (.mov (.tmp 39))] [5,6,7,8,9,10,11,12]) (.seq (.ops [O1 40 (.mov (.tmp 5)),O1 41 (.mov (.tmp 7)),O1 42 (.bin .eql (.tmp 40) (.tmp 41)),O1 43 (.mov (.tmp 42)),⟨some 44,some (43,true),.mov (.tmp 6)⟩,⟨some 45,some (43,true),.mov (.tmp 8)⟩,⟨some 46,some (43,true),.bin .eql (.tmp 44) (.tmp 45)⟩,O1 47 (.pick (.tmp 43) (.tmp 46) (.const (.bool false))),O1 48 (.mov (.tmp 47)),⟨some 49,some (48,true),.mov (.tmp 9)⟩,⟨some 50,some (48,true),.mov (.tmp 11)⟩,⟨some 51,some (48,true),.callF 14 [(.tmp 49),(.tmp 50)]⟩,O1 52 (.pick (.tmp 48) (.tmp 51) (.const (.bool false))),O1 53 (.mov (.tmp 52)),⟨some 54,some (53,true),.mov (.tmp 10)⟩,⟨some 55,some (53,true),.mov (.tmp 12)⟩,⟨some 56,some (53,true),.bin .eql (.tmp 54) (.tmp 55)⟩,O1 57 (.pick (.tmp 53) (.tmp 56) (.const (.bool false))),O1 4 (.mov (.tmp 57))] [4]) (.ret))))))),58,[(4,none)],true⟩
theorem ok3:FunOK Tryd.prog 3 c3:= .code ⟨Tryd.f3,_,c3.code,Tryd.func3,rfl,by kernel_rfl,rfl,by kernel_rfl,by kernel_rfl⟩
/- raddle/raddleref25.Great -/
def c9:AFun:=⟨.seq (.ops [O1 2 (.mov (.const (.bool false)))] [0]) (.seq (.ops [O1 3 (.mov (.tmp 0)),O1 4 (.len false (.tmp 3)),O1 5 (.bin .gtr (.tmp 4) (.const (.int .i64 60))),O1 6 (.mov (.tmp 5)),⟨some 7,some (6,true),.mov (.tmp 0)⟩,⟨some 8,some (6,true),.len false (.tmp 7)⟩,⟨some 9,some (6,true),.bin .leq (.tmp 8) (.const (.int .i64 200))⟩,O1 10 (.pick (.tmp 6) (.tmp 9) (.const (.bool false))),O1 11 (.mov (.tmp 10)),⟨some 12,some (11,false),.mov (.tmp 0)⟩,⟨some 13,some (11,false),.len false (.tmp 12)⟩,⟨some 14,some (11,false),.bin .gtr (.tmp 13) (.const (.int .i64 300))⟩,O1 15 (.pick (.tmp 11) (.const (.bool true)) (.tmp 14)),O1 2 (.mov (.tmp 15))] [2]) (.ret)),16,[(2,none)],true⟩
theorem ok9:FunOK Tryd.prog 9 c9:= .code ⟨Tryd.f9,_,c9.code,Tryd.func9,rfl,by kernel_rfl,rfl,by kernel_rfl,by kernel_rfl⟩
/- raddle/words.Cells -/
def c10:AFun:=⟨.seq (.ops [O1 2 (.mov (.const (.string ⟨#[]⟩))),O1 3 (.mov (.const (.int .i64 0)))] [0]) (.seq (.seq (.ops [O1 6 (.mov (.tmp 0)),O1 7 (.callF 27 [.tmp 6]),O1 4 (.mov (.tmp 7))] [0,4]) (.seq (.ops [O1 8 (.mov (.tmp 4)),O1 9 (.bin .neq (.tmp 8) (.const (.int .i64 0)))] [0,4,9]) (.cond (.tmp 9) (.seq (.ops [O1 10 (.mov (.tmp 4)),O1 2 (.mov (.const (.string ⟨#[]⟩))),O1 3 (.mov (.tmp 10))] [2,3]) (.ret)) (.skip)))) (.seq (.ops [O1 11 (.mov (.tmp 0)),O1 12 (.callF 28 [.tmp 11]),O1 5 (.mov (.tmp 12))] [5]) (.seq (.seq (.ops [O1 13 (.mov (.tmp 5)),O1 14 (.len true (.tmp 13)),O1 15 (.bin .gtr (.tmp 14) (.const (.int .i64 2000)))] [5,15]) (.cond (.tmp 15) (.seq (.ops [O1 2 (.mov (.const (.string ⟨#[]⟩))),O1 3 (.mov (.const (.int .i64 4)))] [2,3]) (.ret)) (.skip))) (.seq (.ops [O1 16 (.mov (.tmp 5)),O1 2 (.mov (.tmp 16)),O1 3 (.mov (.const (.int .i64 0)))] [2,3]) (.ret))))),17,[(2,none),(3,none)],true⟩
theorem ok10:FunOK Tryd.prog 10 c10:= .code ⟨Tryd.f10,_,c10.code,Tryd.func10,rfl,by kernel_rfl,rfl,by kernel_rfl,by kernel_rfl⟩
/- raddle/raddleref41.Cells -/
def c11:AFun:=⟨.seq (.ops [O1 2 (.mov (.const (.string ⟨#[]⟩))),O1 3 (.mov (.const (.int .i64 0)))] [0]) (.seq (.seq (.ops [O1 6 (.mov (.tmp 0)),O1 7 (.callF 29 [.tmp 6]),O1 4 (.mov (.tmp 7))] [0,4]) (.seq (.ops [O1 8 (.mov (.tmp 4)),O1 9 (.bin .neq (.tmp 8) (.const (.int .i64 0)))] [0,4,9]) (.cond (.tmp 9) (.seq (.ops [O1 10 (.mov (.tmp 4)),O1 2 (.mov (.const (.string ⟨#[]⟩))),O1 3 (.mov (.tmp 10))] [2,3]) (.ret)) (.skip)))) (.seq (.ops [O1 11 (.mov (.tmp 0)),O1 12 (.callF 30 [.tmp 11]),O1 5 (.mov (.tmp 12))] [5]) (.seq (.seq (.ops [O1 13 (.mov (.tmp 5)),O1 14 (.len true (.tmp 13)),O1 15 (.bin .gtr (.tmp 14) (.const (.int .i64 2000)))] [5,15]) (.cond (.tmp 15) (.seq (.ops [O1 2 (.mov (.const (.string ⟨#[]⟩))),O1 3 (.mov (.const (.int .i64 4)))] [2,3]) (.ret)) (.skip))) (.seq (.ops [O1 16 (.mov (.tmp 5)),O1 2 (.mov (.tmp 16)),O1 3 (.mov (.const (.int .i64 0)))] [2,3]) (.ret))))),17,[(2,none),(3,none)],true⟩
theorem ok11:FunOK Tryd.prog 11 c11:= .code ⟨Tryd.f11,_,c11.code,Tryd.func11,rfl,by kernel_rfl,rfl,by kernel_rfl,by kernel_rfl⟩
/- raddle/words.ParseCells -/
def c12l0:AC:= .seq (.ops [O1 39 (.bin .lss (.tmp 38) (.tmp 37))] [0,4,7,16,17,18,37,38,39]) (.seq (.cond (.tmp 39) (.skip) (.exit 2)) (.seq (.block 3 (.ops [O1 40 (.mov (.tmp 4)),O1 41 (.load (some 4) (.tmp 7)),O1 42 (.mkRow 48 4 1 [(.int .u8 0),(.bool false),(.int .i64 0),(.int .i64 0)] [(0,4,(.tmp 41))]),O1 43 (.app 48 4 24 (.tmp 40) (.tmp 42)),O1 4 (.mov (.tmp 43))] [0,4,7,16,17,18,37,38])) (.ops [O1 44 (.bin .add (.tmp 38) (.const (.int .i64 1))),O1 38 (.mov (.tmp 44))] [0,4,7,16,17,18,37,38])))
def c12l1:AC:= .seq (.ops [O1 19 (.bin .lss (.tmp 18) (.tmp 17))] [0,4,16,17,18,19]) (.seq (.cond (.tmp 19) (.skip) (.exit 0)) (.seq (.block 1 (.seq (.ops [O1 20 (.idxS 1 (.tmp 16) (.tmp 18)),O1 21 (.load none (.tmp 20)),O1 6 (.mov (.tmp 21))] [0,4,6,16,17,18]) (.seq (.ops [O1 23 (.mov (.tmp 6)),O1 24 (.callF 32 [.tmp 23]),O1 22 (.mov (.tmp 24)),O1 25 (.ext (.tmp 22) 0),O1 26 (.ext (.tmp 22) 1),O1 27 (.ext (.tmp 22) 2),O1 7 (.alloc 48 [(1,(.int .u8 0)),(1,(.bool false)),(2,(.int .i64 0))]),⟨none,none,.store 4 (.tmp 7) (.tmp 25)⟩,O1 8 (.mov (.tmp 26)),O1 9 (.mov (.tmp 27))] [0,4,7,8,9,16,17,18]) (.seq (.seq (.ops [O1 28 (.mov (.tmp 9)),O1 29 (.un .not (.tmp 28)),O1 30 (.mov (.tmp 29)),⟨some 31,some (30,false),.mov (.tmp 4)⟩,⟨some 32,some (30,false),.len false (.tmp 31)⟩,⟨some 33,some (30,false),.mov (.tmp 8)⟩,⟨some 34,some (30,false),.bin .add (.tmp 32) (.tmp 33)⟩,⟨some 35,some (30,false),.bin .gtr (.tmp 34) (.const (.int .i64 200))⟩,O1 36 (.pick (.tmp 30) (.const (.bool true)) (.tmp 35))] [0,4,7,8,16,17,18,36]) (.cond (.tmp 36) (.seq (.ops [O1 2 (.mov (.const (.slice none 0 0))),O1 3 (.mov (.const (.int .i64 12)))] [2,3]) (.ret)) (.skip))) (.seq (.ops [O1 37 (.mov (.tmp 8)),O1 38 (.mov (.const (.int .i64 0)))] [0,4,7,16,17,18,37,38]) (.block 2 (.loop [0,4,7,16,17,18,37,38] c12l0))))))) (.ops [O1 45 (.bin .add (.tmp 18) (.const (.int .i64 1))),O1 18 (.mov (.tmp 45))] [0,4,16,17,18])))
def c12:AFun:=⟨.seq (.ops [O1 2 (.mov (.const (.slice none 0 0))),O1 3 (.mov (.const (.int .i64 0)))] [0]) (.seq (.seq (.ops [O1 10 (.mov (.tmp 0)),O1 11 (.len true (.tmp 10)),O1 12 (.bin .gtr (.tmp 11) (.const (.int .i64 2000)))] [0,12]) (.cond (.tmp 12) (.seq (.ops [O1 2 (.mov (.const (.slice none 0 0))),O1 3 (.mov (.const (.int .i64 12)))] [2,3]) (.ret)) (.skip))) (.seq (.seq (.ops [O1 13 (.mov (.tmp 0)),O1 14 (.bin .eql (.tmp 13) (.const (.string ⟨#[110,111,116,104,105,110,103]⟩)))] [0,14]) (.cond (.tmp 14) (.seq (.ops [O1 2 (.mov (.const (.slice none 0 0))),O1 3 (.mov (.const (.int .i64 0)))] [2,3]) (.ret)) (.skip))) (.seq (.ops [O1 4 (.mov (.const (.slice none 0 0)))] [0,4]) (.seq (.seq (.ops [O1 15 (.mov (.tmp 0)),O1 16 (.callF 31 [(.tmp 15),(.const (.string ⟨#[44,32]⟩))]),O1 17 (.len false (.tmp 16)),O1 18 (.mov (.const (.int .i64 0)))] [0,4,16,17,18]) (.block 0 (.loop [0,4,16,17,18] c12l1))) (.seq (.seq (.ops [O1 46 (.mov (.tmp 4)),O1 47 (.callF 27 [.tmp 46]),O1 48 (.bin .neq (.tmp 47) (.const (.int .i64 0))),O1 49 (.mov (.tmp 48)),⟨some 50,some (49,false),.mov (.tmp 4)⟩,⟨some 51,some (49,false),.callF 28 [.tmp 50]⟩,⟨some 52,some (49,false),.mov (.tmp 0)⟩,⟨some 53,some (49,false),.bin .neq (.tmp 51) (.tmp 52)⟩,O1 54 (.pick (.tmp 49) (.const (.bool true)) (.tmp 53))] [4,54]) (.cond (.tmp 54) (.seq (.ops [O1 2 (.mov (.const (.slice none 0 0))),O1 3 (.mov (.const (.int .i64 12)))] [2,3]) (.ret)) (.skip))) (.seq (.ops [O1 55 (.mov (.tmp 4)),O1 2 (.mov (.tmp 55)),O1 3 (.mov (.const (.int .i64 0)))] [2,3]) (.ret))))))),56,[(2,none),(3,none)],true⟩
theorem ok12:FunOK Tryd.prog 12 c12:= .code ⟨Tryd.f12,_,c12.code,Tryd.func12,rfl,by kernel_rfl,rfl,by kernel_rfl,by kernel_rfl⟩
/- raddle/raddleref41.ParseCells -/
def c13l0:AC:= .seq (.seq (.ops [O1 40 (.mov (.tmp 9)),O1 41 (.mov (.tmp 8)),O1 42 (.bin .lss (.tmp 40) (.tmp 41))] [0,4,5,6,7,8,9,42]) (.cond (.tmp 42) (.skip) (.exit 2))) (.seq (.block 3 (.ops [O1 45 (.mov (.tmp 4)),O1 46 (.load (some 4) (.tmp 7)),O1 47 (.mkRow 48 4 1 [(.int .u8 0),(.bool false),(.int .i64 0),(.int .i64 0)] [(0,4,(.tmp 46))]),O1 48 (.app 48 4 24 (.tmp 45) (.tmp 47)),O1 4 (.mov (.tmp 48))] [0,4,5,6,7,8,9])) (.ops [O1 43 (.mov (.tmp 9)),O1 44 (.bin .add (.tmp 43) (.const (.int .i64 1))),O1 9 (.mov (.tmp 44))] [0,4,5,6,7,8,9]))
def c13l1:AC:= .seq (.seq (.ops [O1 17 (.mov (.tmp 6)),O1 18 (.mov (.tmp 5)),O1 19 (.len false (.tmp 18)),O1 20 (.bin .lss (.tmp 17) (.tmp 19))] [0,4,5,6,20]) (.cond (.tmp 20) (.skip) (.exit 0))) (.seq (.block 1 (.seq (.ops [O1 24 (.mov (.tmp 5)),O1 25 (.mov (.tmp 6)),O1 26 (.idxS 1 (.tmp 24) (.tmp 25)),O1 27 (.load none (.tmp 26)),O1 28 (.callF 34 [.tmp 27]),O1 23 (.mov (.tmp 28)),O1 29 (.ext (.tmp 23) 0),O1 30 (.ext (.tmp 23) 1),O1 7 (.alloc 48 [(1,(.int .u8 0)),(1,(.bool false)),(2,(.int .i64 0))]),⟨none,none,.store 4 (.tmp 7) (.tmp 29)⟩,O1 8 (.mov (.tmp 30))] [0,4,5,6,7,8]) (.seq (.seq (.ops [O1 31 (.mov (.tmp 8)),O1 32 (.bin .eql (.tmp 31) (.const (.int .i64 0))),O1 33 (.mov (.tmp 32)),⟨some 34,some (33,false),.mov (.tmp 4)⟩,⟨some 35,some (33,false),.len false (.tmp 34)⟩,⟨some 36,some (33,false),.mov (.tmp 8)⟩,⟨some 37,some (33,false),.bin .add (.tmp 35) (.tmp 36)⟩,⟨some 38,some (33,false),.bin .gtr (.tmp 37) (.const (.int .i64 200))⟩,O1 39 (.pick (.tmp 33) (.const (.bool true)) (.tmp 38))] [0,4,5,6,7,8,39]) (.cond (.tmp 39) (.seq (.ops [O1 2 (.mov (.const (.slice none 0 0))),O1 3 (.mov (.const (.int .i64 12)))] [2,3]) (.ret)) (.skip))) (.seq (.ops [O1 9 (.mov (.const (.int .i64 0)))] [0,4,5,6,7,8,9]) (.block 2 (.loop [0,4,5,6,7,8,9] c13l0)))))) (.ops [O1 21 (.mov (.tmp 6)),O1 22 (.bin .add (.tmp 21) (.const (.int .i64 1))),O1 6 (.mov (.tmp 22))] [0,4,5,6]))
def c13:AFun:=⟨.seq (.ops [O1 2 (.mov (.const (.slice none 0 0))),O1 3 (.mov (.const (.int .i64 0)))] [0]) (.seq (.seq (.ops [O1 10 (.mov (.tmp 0)),O1 11 (.len true (.tmp 10)),O1 12 (.bin .gtr (.tmp 11) (.const (.int .i64 2000)))] [0,12]) (.cond (.tmp 12) (.seq (.ops [O1 2 (.mov (.const (.slice none 0 0))),O1 3 (.mov (.const (.int .i64 12)))] [2,3]) (.ret)) (.skip))) (.seq (.seq (.ops [O1 13 (.mov (.tmp 0)),O1 14 (.bin .eql (.tmp 13) (.const (.string ⟨#[110,111,116,104,105,110,103]⟩)))] [0,14]) (.cond (.tmp 14) (.seq (.ops [O1 2 (.mov (.const (.slice none 0 0))),O1 3 (.mov (.const (.int .i64 0)))] [2,3]) (.ret)) (.skip))) (.seq (.ops [O1 4 (.mov (.const (.slice none 0 0)))] [0,4]) (.seq (.ops [O1 15 (.mov (.tmp 0)),O1 16 (.callF 33 [.tmp 15]),O1 5 (.mov (.tmp 16))] [0,4,5]) (.seq (.seq (.ops [O1 6 (.mov (.const (.int .i64 0)))] [0,4,5,6]) (.block 0 (.loop [0,4,5,6] c13l1))) (.seq (.seq (.ops [O1 49 (.mov (.tmp 4)),O1 50 (.callF 29 [.tmp 49]),O1 51 (.bin .neq (.tmp 50) (.const (.int .i64 0))),O1 52 (.mov (.tmp 51)),⟨some 53,some (52,false),.mov (.tmp 4)⟩,⟨some 54,some (52,false),.callF 30 [.tmp 53]⟩,⟨some 55,some (52,false),.mov (.tmp 0)⟩,⟨some 56,some (52,false),.bin .neq (.tmp 54) (.tmp 55)⟩,O1 57 (.pick (.tmp 52) (.const (.bool true)) (.tmp 56))] [4,57]) (.cond (.tmp 57) (.seq (.ops [O1 2 (.mov (.const (.slice none 0 0))),O1 3 (.mov (.const (.int .i64 12)))] [2,3]) (.ret)) (.skip))) (.seq (.ops [O1 58 (.mov (.tmp 4)),O1 2 (.mov (.tmp 58)),O1 3 (.mov (.const (.int .i64 0)))] [2,3]) (.ret)))))))),59,[(2,none),(3,none)],true⟩
theorem ok13:FunOK Tryd.prog 13 c13:= .code ⟨Tryd.f13,_,c13.code,Tryd.func13,rfl,by kernel_rfl,rfl,by kernel_rfl,by kernel_rfl⟩
/- raddle/raddleref25.Same -/
def c14l0:AC:= .seq (.seq (.ops [O1 11 (.mov (.tmp 5)),O1 12 (.mov (.tmp 0)),O1 13 (.len false (.tmp 12)),O1 14 (.bin .lss (.tmp 11) (.tmp 13))] [0,1,5,14]) (.cond (.tmp 14) (.skip) (.exit 0))) (.seq (.block 1 (.seq (.draw [O1 17 (.mov (.tmp 0)),O1 18 (.mov (.tmp 5)),O1 19 (.idxS 4 (.tmp 17) (.tmp 18)),O1 20 (.load (some 4) (.tmp 19)),O1 21 (.mov (.tmp 1)),O1 22 (.mov (.tmp 5)),O1 23 (.idxS 4 (.tmp 21) (.tmp 22)),O1 24 (.load (some 4) (.tmp 23))] [O1 25 (.eqAgg true [(0,0),(1,2),(2,0),(3,0)] (.tmp 20) (.tmp 24))] [[],[],[],[],[],[],[],[]] [0,1,5,25]) (.cond (.tmp 25) (.seq (.ops [O1 4 (.mov (.const (.bool false)))] [4]) (.ret)) (.skip)))) (.ops [O1 15 (.mov (.tmp 5)),O1 16 (.bin .add (.tmp 15) (.const (.int .i64 1))),O1 5 (.mov (.tmp 16))] [0,1,5]))
def c14:AFun:=⟨.seq (.ops [O1 4 (.mov (.const (.bool false)))] [0,1]) (.seq (.seq (.ops [O1 6 (.mov (.tmp 0)),O1 7 (.len false (.tmp 6)),O1 8 (.mov (.tmp 1)),O1 9 (.len false (.tmp 8)),O1 10 (.bin .neq (.tmp 7) (.tmp 9))] [0,1,10]) (.cond (.tmp 10) (.seq (.ops [O1 4 (.mov (.const (.bool false)))] [4]) (.ret)) (.skip))) (.seq (.seq (.ops [O1 5 (.mov (.const (.int .i64 0)))] [0,1,5]) (.block 0 (.loop [0,1,5] c14l0))) (.seq (.ops [O1 4 (.mov (.const (.bool true)))] [4]) (.ret)))),26,[(4,none)],true⟩
theorem ok14:FunOK Tryd.prog 14 c14:= .code ⟨Tryd.f14,_,c14.code,Tryd.func14,rfl,by kernel_rfl,rfl,by kernel_rfl,by kernel_rfl⟩
/- raddle/stitch.All -/
def c27:AFun:=⟨.seq (.ops [O1 2 (.mov (.const (.int .i64 0)))] [0]) (.seq (.seq (.ops [O1 5 (.mov (.tmp 0)),O1 6 (.len false (.tmp 5)),O1 7 (.bin .gtr (.tmp 6) (.const (.int .i64 200)))] [0,7]) (.cond (.tmp 7) (.seq (.ops [O1 2 (.mov (.const (.int .i64 4)))] [2]) (.ret)) (.skip))) (.seq (.seq (.ops [O1 8 (.mov (.tmp 0)),O1 9 (.callF 47 [(.tmp 8),(.func 48)])] [0,9]) (.cond (.tmp 9) (.seq (.ops [O1 2 (.mov (.const (.int .i64 8)))] [2]) (.ret)) (.skip))) (.seq (.seq (.ops [O1 11 (.mov (.tmp 0)),O1 12 (.callF 50 [.tmp 11]),O1 10 (.mov (.tmp 12)),O1 13 (.ext (.tmp 10) 0),O1 14 (.ext (.tmp 10) 1),O1 3 (.mov (.tmp 13)),O1 4 (.mov (.tmp 14))] [3,4]) (.seq (.ops [O1 15 (.mov (.tmp 3)),O1 16 (.mov (.tmp 4)),O1 17 (.mm true (.tmp 15) (.tmp 16)),O1 18 (.bin .gtr (.tmp 17) (.const (.int .i64 200)))] [18]) (.cond (.tmp 18) (.seq (.ops [O1 2 (.mov (.const (.int .i64 4)))] [2]) (.ret)) (.skip)))) (.seq (.ops [O1 2 (.mov (.const (.int .i64 0)))] [2]) (.ret))))),19,[(2,none)],true⟩
theorem ok27:FunOK Tryd.prog 27 c27:= .code ⟨Tryd.f27,_,c27.code,Tryd.func27,rfl,by kernel_rfl,rfl,by kernel_rfl,by kernel_rfl⟩
/- raddle/words.write -/
def c28l0:AC:= .seq (.seq (.draw [O1 15 (.mov (.tmp 5)),O1 16 (.mov (.tmp 0)),O1 17 (.len false (.tmp 16)),O1 18 (.bin .lss (.tmp 15) (.tmp 17)),O1 19 (.mov (.tmp 18)),⟨some 20,some (19,true),.mov (.tmp 0)⟩,⟨some 21,some (19,true),.mov (.tmp 5)⟩,⟨some 22,some (19,true),.idxS 4 (.tmp 20) (.tmp 21)⟩,⟨some 23,some (19,true),.load (some 4) (.tmp 22)⟩,⟨some 24,some (19,true),.mov (.tmp 0)⟩,⟨some 25,some (19,true),.mov (.tmp 4)⟩,⟨some 26,some (19,true),.idxS 4 (.tmp 24) (.tmp 25)⟩,⟨some 27,some (19,true),.load (some 4) (.tmp 26)⟩] [⟨some 28,some (19,true),.eqAgg false [(0,0),(1,2),(2,0),(3,0)] (.tmp 23) (.tmp 27)⟩,O1 29 (.pick (.tmp 19) (.tmp 28) (.const (.bool false)))] [[],[],[],[],[],[],[],[],[],[],[],[],[]] [0,3,4,5,29]) (.cond (.tmp 29) (.skip) (.exit 2))) (.block 3 (.ops [O1 30 (.mov (.tmp 5)),O1 31 (.bin .add (.tmp 30) (.const (.int .i64 1))),O1 5 (.mov (.tmp 31))] [0,3,4,5]))
def c28l1:AC:= .seq (.seq (.ops [O1 9 (.mov (.tmp 4)),O1 10 (.mov (.tmp 0)),O1 11 (.len false (.tmp 10)),O1 12 (.bin .lss (.tmp 9) (.tmp 11))] [0,3,4,12]) (.cond (.tmp 12) (.skip) (.exit 0))) (.block 1 (.seq (.ops [O1 13 (.mov (.tmp 4)),O1 14 (.bin .add (.tmp 13) (.const (.int .i64 1))),O1 5 (.mov (.tmp 14))] [0,3,4,5]) (.seq (.block 2 (.loop [0,3,4,5] c28l0)) (.seq (.ops [O1 32 (.mov (.tmp 3)),O1 33 (.mov (.tmp 0)),O1 34 (.mov (.tmp 4)),O1 35 (.idxS 4 (.tmp 33) (.tmp 34)),O1 36 (.load (some 4) (.tmp 35)),O1 37 (.mov (.tmp 5)),O1 38 (.mov (.tmp 4)),O1 39 (.bin .sub (.tmp 37) (.tmp 38)),O1 40 (.callF 51 [(.tmp 36),(.tmp 39)]),O1 41 (.mkRow 9 1 1 [(.string ⟨#[]⟩)] [(0,1,(.tmp 40))]),O1 42 (.app 9 1 16 (.tmp 32) (.tmp 41)),O1 3 (.mov (.tmp 42))] [0,3,5]) (.ops [O1 43 (.mov (.tmp 5)),O1 4 (.mov (.tmp 43))] [0,3,4])))))
def c28:AFun:=⟨.seq (.ops [O1 2 (.mov (.const (.string ⟨#[]⟩)))] [0]) (.seq (.seq (.ops [O1 6 (.mov (.tmp 0)),O1 7 (.len false (.tmp 6)),O1 8 (.bin .eql (.tmp 7) (.const (.int .i64 0)))] [0,8]) (.cond (.tmp 8) (.seq (.ops [O1 2 (.mov (.const (.string ⟨#[110,111,116,104,105,110,103]⟩)))] [2]) (.ret)) (.skip))) (.seq (.ops [O1 3 (.mov (.const (.slice none 0 0)))] [0,3]) (.seq (.seq (.ops [O1 4 (.mov (.const (.int .i64 0)))] [0,3,4]) (.block 0 (.loop [0,3,4] c28l1))) (.seq (.ops [O1 44 (.mov (.tmp 3)),O1 45 (.callF 52 [(.tmp 44),(.const (.string ⟨#[44,32]⟩))]),O1 2 (.mov (.tmp 45))] [2]) (.ret))))),46,[(2,none)],true⟩
theorem ok28:FunOK Tryd.prog 28 c28:= .code ⟨Tryd.f28,_,c28.code,Tryd.func28,rfl,by kernel_rfl,rfl,by kernel_rfl,by kernel_rfl⟩
/- raddle/raddleref25.All -/
def c29l0:AC:= .seq (.seq (.ops [O1 9 (.mov (.tmp 3)),O1 10 (.mov (.tmp 0)),O1 11 (.len false (.tmp 10)),O1 12 (.bin .lss (.tmp 9) (.tmp 11))] [0,3,12]) (.cond (.tmp 12) (.skip) (.exit 0))) (.seq (.block 1 (.seq (.ops [O1 15 (.mov (.tmp 0)),O1 16 (.mov (.tmp 3)),O1 17 (.idxS 4 (.tmp 15) (.tmp 16)),O1 18 (.load (some 4) (.tmp 17)),O1 19 (.callF 53 [.tmp 18]),O1 20 (.bin .neq (.tmp 19) (.const (.int .i64 0)))] [0,3,20]) (.cond (.tmp 20) (.seq (.ops [O1 2 (.mov (.const (.int .i64 8)))] [2]) (.ret)) (.skip)))) (.ops [O1 13 (.mov (.tmp 3)),O1 14 (.bin .add (.tmp 13) (.const (.int .i64 1))),O1 3 (.mov (.tmp 14))] [0,3]))
def c29:AFun:=⟨.seq (.ops [O1 2 (.mov (.const (.int .i64 0)))] [0]) (.seq (.seq (.ops [O1 6 (.mov (.tmp 0)),O1 7 (.len false (.tmp 6)),O1 8 (.bin .gtr (.tmp 7) (.const (.int .i64 200)))] [0,8]) (.cond (.tmp 8) (.seq (.ops [O1 2 (.mov (.const (.int .i64 4)))] [2]) (.ret)) (.skip))) (.seq (.seq (.ops [O1 3 (.mov (.const (.int .i64 0)))] [0,3]) (.block 0 (.loop [0,3] c29l0))) (.seq (.ops [O1 22 (.mov (.tmp 0)),O1 23 (.callF 54 [.tmp 22]),O1 21 (.mov (.tmp 23)),O1 24 (.ext (.tmp 21) 0),O1 25 (.ext (.tmp 21) 1),O1 4 (.mov (.tmp 24)),O1 5 (.mov (.tmp 25))] [4,5]) (.seq (.seq (.ops [O1 26 (.mov (.tmp 4)),O1 27 (.bin .gtr (.tmp 26) (.const (.int .i64 200))),O1 28 (.mov (.tmp 27)),⟨some 29,some (28,false),.mov (.tmp 5)⟩,⟨some 30,some (28,false),.bin .gtr (.tmp 29) (.const (.int .i64 200))⟩,O1 31 (.pick (.tmp 28) (.const (.bool true)) (.tmp 30))] [31]) (.cond (.tmp 31) (.seq (.ops [O1 2 (.mov (.const (.int .i64 4)))] [2]) (.ret)) (.skip))) (.seq (.ops [O1 2 (.mov (.const (.int .i64 0)))] [2]) (.ret)))))),32,[(2,none)],true⟩
theorem ok29:FunOK Tryd.prog 29 c29:= .code ⟨Tryd.f29,_,c29.code,Tryd.func29,rfl,by kernel_rfl,rfl,by kernel_rfl,by kernel_rfl⟩
/- raddle/raddleref41.Words -/
def c30l0:AC:= .seq (.seq (.draw [O1 13 (.mov (.tmp 4)),O1 14 (.mov (.tmp 5)),O1 15 (.bin .add (.tmp 13) (.tmp 14)),O1 16 (.mov (.tmp 0)),O1 17 (.len false (.tmp 16)),O1 18 (.bin .lss (.tmp 15) (.tmp 17)),O1 19 (.mov (.tmp 18)),⟨some 20,some (19,true),.mov (.tmp 0)⟩,⟨some 21,some (19,true),.mov (.tmp 4)⟩,⟨some 22,some (19,true),.mov (.tmp 5)⟩,⟨some 23,some (19,true),.bin .add (.tmp 21) (.tmp 22)⟩,⟨some 24,some (19,true),.idxS 4 (.tmp 20) (.tmp 23)⟩,⟨some 25,some (19,true),.load (some 4) (.tmp 24)⟩,⟨some 26,some (19,true),.mov (.tmp 0)⟩,⟨some 27,some (19,true),.mov (.tmp 4)⟩,⟨some 28,some (19,true),.idxS 4 (.tmp 26) (.tmp 27)⟩,⟨some 29,some (19,true),.load (some 4) (.tmp 28)⟩] [⟨some 30,some (19,true),.eqAgg false [(0,0),(1,2),(2,0),(3,0)] (.tmp 25) (.tmp 29)⟩,O1 31 (.pick (.tmp 19) (.tmp 30) (.const (.bool false)))] [[],[],[],[],[],[],[],[],[],[],[],[],[],[],[],[],[]] [0,3,4,5,31]) (.cond (.tmp 31) (.skip) (.exit 2))) (.block 3 (.ops [O1 32 (.mov (.tmp 5)),O1 33 (.bin .add (.tmp 32) (.const (.int .i64 1))),O1 5 (.mov (.tmp 33))] [0,3,4,5]))
def c30l1:AC:= .seq (.seq (.ops [O1 9 (.mov (.tmp 4)),O1 10 (.mov (.tmp 0)),O1 11 (.len false (.tmp 10)),O1 12 (.bin .lss (.tmp 9) (.tmp 11))] [0,3,4,12]) (.cond (.tmp 12) (.skip) (.exit 0))) (.block 1 (.seq (.ops [O1 5 (.mov (.const (.int .i64 1)))] [0,3,4,5]) (.seq (.block 2 (.loop [0,3,4,5] c30l0)) (.seq (.seq (.ops [O1 34 (.mov (.tmp 4)),O1 35 (.bin .gtr (.tmp 34) (.const (.int .i64 0)))] [0,3,4,5,35]) (.cond (.tmp 35) (.ops [O1 36 (.mov (.tmp 3)),O1 37 (.bin .add (.tmp 36) (.const (.string ⟨#[44,32]⟩))),O1 3 (.mov (.tmp 37))] [0,3,4,5]) (.skip))) (.seq (.ops [O1 38 (.mov (.tmp 3)),O1 39 (.mov (.tmp 0)),O1 40 (.mov (.tmp 4)),O1 41 (.idxS 4 (.tmp 39) (.tmp 40)),O1 42 (.load (some 4) (.tmp 41)),O1 43 (.mov (.tmp 5)),O1 44 (.callF 55 [(.tmp 42),(.tmp 43)]),O1 45 (.bin .add (.tmp 38) (.tmp 44)),O1 3 (.mov (.tmp 45))] [0,3,4,5]) (.ops [O1 46 (.mov (.tmp 4)),O1 47 (.mov (.tmp 5)),O1 48 (.bin .add (.tmp 46) (.tmp 47)),O1 4 (.mov (.tmp 48))] [0,3,4]))))))
def c30:AFun:=⟨.seq (.ops [O1 2 (.mov (.const (.string ⟨#[]⟩)))] [0]) (.seq (.seq (.ops [O1 6 (.mov (.tmp 0)),O1 7 (.len false (.tmp 6)),O1 8 (.bin .eql (.tmp 7) (.const (.int .i64 0)))] [0,8]) (.cond (.tmp 8) (.seq (.ops [O1 2 (.mov (.const (.string ⟨#[110,111,116,104,105,110,103]⟩)))] [2]) (.ret)) (.skip))) (.seq (.ops [O1 3 (.mov (.const (.string ⟨#[]⟩)))] [0,3]) (.seq (.seq (.ops [O1 4 (.mov (.const (.int .i64 0)))] [0,3,4]) (.block 0 (.loop [0,3,4] c30l1))) (.seq (.ops [O1 49 (.mov (.tmp 3)),O1 2 (.mov (.tmp 49))] [2]) (.ret))))),50,[(2,none)],true⟩
theorem ok30:FunOK Tryd.prog 30 c30:= .code ⟨Tryd.f30,_,c30.code,Tryd.func30,rfl,by kernel_rfl,rfl,by kernel_rfl,by kernel_rfl⟩
/- strings.Split -/
def c31:AFun:=⟨.seq (.ops [O1 4 (.mov (.const (.slice none 0 0)))] [0,1]) (.seq (.ops [O1 5 (.mov (.tmp 0)),O1 6 (.mov (.tmp 1)),O1 7 (.callF 56 [(.tmp 5),(.tmp 6),(.const (.int .i64 0)),(.const (.int .i64 (-1)))]),O1 4 (.mov (.tmp 7))] [4]) (.ret)),8,[(4,none)],true⟩
theorem ok31:FunOK Tryd.prog 31 c31:= .code ⟨Tryd.f31,_,c31.code,Tryd.func31,rfl,by kernel_rfl,rfl,by kernel_rfl,by kernel_rfl⟩
/- raddle/words.read -/
def c32l0:AC:= .seq (.ops [O1 21 (.bin .lss (.tmp 20) (.const (.int .i64 2)))] [0,2,5,20,21]) (.seq (.cond (.tmp 21) (.skip) (.exit 2)) (.seq (.block 3 (.seq (.ops [O1 22 (.mov (.tmp 20)),O1 6 (.mov (.tmp 22))] [0,2,5,6,20]) (.seq (.ops [O1 23 (.mov (.tmp 5)),O1 24 (.mov (.tmp 6)),O1 25 (.bin .eql (.tmp 24) (.const (.int .i64 1))),O1 26 (.build [(.int .u8 0),(.bool false),(.int .i64 0),(.int .i64 0)] [(0,1,(.tmp 23)),(1,1,(.tmp 25))]),O1 7 (.alloc 48 [(1,(.int .u8 0)),(1,(.bool false)),(2,(.int .i64 0))]),⟨none,none,.store 4 (.tmp 7) (.tmp 26)⟩,O1 8 (.mov (.const (.int .i64 1)))] [0,2,5,7,8,20]) (.seq (.ops [O1 28 (.mov (.tmp 5)),O1 29 (.fldA 1 (.tmp 7)),O1 30 (.load none (.tmp 29)),O1 31 (.callF 57 [(.tmp 28),(.tmp 30)]),O1 27 (.mov (.tmp 31)),O1 32 (.ext (.tmp 27) 0),O1 33 (.ext (.tmp 27) 1),O1 9 (.mov (.tmp 32)),O1 10 (.mov (.tmp 33))] [0,2,5,7,8,9,10,20]) (.seq (.ops [O1 35 (.mov (.tmp 0)),O1 36 (.mov (.tmp 9)),O1 37 (.callF 38 [(.tmp 35),(.tmp 36)]),O1 34 (.mov (.tmp 37)),O1 38 (.ext (.tmp 34) 0),O1 39 (.ext (.tmp 34) 1),O1 40 (.ext (.tmp 34) 2),O1 11 (.mov (.tmp 38)),O1 12 (.mov (.tmp 39)),O1 13 (.mov (.tmp 40))] [0,2,5,7,8,10,11,12,13,20]) (.seq (.seq (.ops [O1 41 (.mov (.tmp 13)),O1 42 (.un .not (.tmp 41))] [0,2,5,7,8,10,11,12,20,42]) (.cond (.tmp 42) (.exit 3) (.skip))) (.seq (.block 4 (.seq (.ops [O1 44 (.mov (.tmp 10)),O1 43 (.mov (.tmp 44))] [0,2,5,7,8,10,11,12,20,43]) (.cond (.tmp 43) (.ops [O1 45 (.mov (.tmp 11)),O1 46 (.idxS 1 (.tmp 45) (.const (.int .i64 0))),O1 47 (.load none (.tmp 46)),O1 8 (.mov (.tmp 47))] [0,2,5,7,8,10,12,20]) (.seq (.ops [O1 49 (.mov (.tmp 11)),O1 50 (.len false (.tmp 49)),O1 51 (.bin .eql (.tmp 50) (.const (.int .i64 2))),O1 48 (.mov (.tmp 51))] [0,2,5,7,8,10,11,12,20,48]) (.cond (.tmp 48) (.drawW [⟨O1 52 (.mov (.tmp 11)),[],none⟩,⟨O1 53 (.idxS 1 (.tmp 52) (.const (.int .i64 0))),[],none⟩,⟨O1 54 (.load none (.tmp 53)),[],none⟩,⟨O1 55 (.mov (.tmp 11)),[0,1,2],none⟩,⟨O1 56 (.idxS 1 (.tmp 55) (.const (.int .i64 1))),[0,1,2],none⟩,⟨O1 57 (.load none (.tmp 56)),[0,1,2],none⟩,⟨O1 58 (.fldA 2 (.tmp 7)),[3,4,5],none⟩,⟨⟨none,none,.store 1 (.tmp 58) (.tmp 54)⟩,[3,4,5],none⟩] [O1 59 (.fldA 3 (.tmp 7)),⟨none,none,.store 1 (.tmp 59) (.tmp 57)⟩] [0,2,5,7,8,10,12,20]) (.seq (.ops [O1 61 (.mov (.tmp 11)),O1 62 (.len false (.tmp 61)),O1 63 (.bin .eql (.tmp 62) (.const (.int .i64 1))),O1 60 (.mov (.tmp 63))] [0,2,5,7,8,10,11,12,20,60]) (.cond (.tmp 60) (.ops [O1 64 (.mov (.tmp 11)),O1 65 (.idxS 1 (.tmp 64) (.const (.int .i64 0))),O1 66 (.load none (.tmp 65)),O1 67 (.fldA 2 (.tmp 7)),⟨none,none,.store 1 (.tmp 67) (.tmp 66)⟩] [0,2,5,7,8,10,12,20]) (.skip)))))))) (.seq (.seq (.ops [O1 69 (.mov (.tmp 12)),O1 70 (.callF 39 [(.tmp 69),(.const (.string ⟨#[32,116,105,109,101,115]⟩))]),O1 68 (.mov (.tmp 70)),O1 71 (.ext (.tmp 68) 0),O1 72 (.ext (.tmp 68) 1),O1 14 (.mov (.tmp 71)),O1 15 (.mov (.tmp 72))] [0,2,5,7,8,10,12,14,15,20]) (.seq (.ops [O1 73 (.mov (.tmp 15)),O1 74 (.mov (.tmp 73)),⟨some 75,some (74,true),.mov (.tmp 10)⟩,⟨some 76,some (74,true),.un .not (.tmp 75)⟩,
  O1 77 (.pick (.tmp 74) (.tmp 76) (.const (.bool false)))] [0,2,5,7,8,12,14,20,77]) (.cond (.tmp 77) (.ops [O1 79 (.mov (.tmp 14)),O1 80 (.callF 59 [(.tmp 79),(.const (.string ⟨#[32]⟩))]),O1 81 (.callF 58 [.tmp 80]),O1 78 (.mov (.tmp 81)),O1 82 (.ext (.tmp 78) 0),O1 83 (.ext (.tmp 78) 1),O1 84 (.ext (.tmp 78) 2),O1 8 (.mov (.tmp 82)),O1 12 (.mov (.tmp 83))] [0,2,5,7,8,12,20]) (.skip)))) (.seq (.ops [O1 85 (.mov (.tmp 12)),O1 86 (.bin .eql (.tmp 85) (.const (.string ⟨#[]⟩))),O1 87 (.mov (.tmp 86)),⟨some 88,some (87,true),.mov (.tmp 8)⟩,⟨some 89,some (87,true),.bin .geq (.tmp 88) (.const (.int .i64 1))⟩,O1 90 (.pick (.tmp 87) (.tmp 89) (.const (.bool false))),O1 91 (.mov (.tmp 90)),⟨some 92,some (91,true),.mov (.tmp 8)⟩,⟨some 93,some (91,true),.bin .leq (.tmp 92) (.const (.int .i64 200))⟩,O1 94 (.pick (.tmp 91) (.tmp 93) (.const (.bool false))),O1 95 (.mov (.tmp 94)),⟨some 96,some (95,true),.load (some 4) (.tmp 7)⟩,⟨some 97,some (95,true),.callF 49 [.tmp 96]⟩,⟨some 98,some (95,true),.bin .eql (.tmp 97) (.const (.int .i64 0))⟩,O1 99 (.pick (.tmp 95) (.tmp 98) (.const (.bool false))),O1 100 (.mov (.tmp 99)),⟨some 101,some (100,true),.load (some 4) (.tmp 7)⟩,⟨some 102,some (100,true),.mov (.tmp 8)⟩,⟨some 103,some (100,true),.callF 51 [(.tmp 101),(.tmp 102)]⟩,⟨some 104,some (100,true),.mov (.tmp 0)⟩,⟨some 105,some (100,true),.bin .eql (.tmp 103) (.tmp 104)⟩,O1 106 (.pick (.tmp 100) (.tmp 105) (.const (.bool false)))] [0,2,5,7,8,20,106]) (.cond (.tmp 106) (.seq (.ops [O1 107 (.load (some 4) (.tmp 7)),O1 108 (.mov (.tmp 8)),⟨none,none,.store 4 (.tmp 2) (.tmp 107)⟩,O1 3 (.mov (.tmp 108)),O1 4 (.mov (.const (.bool true)))] [2,3,4]) (.ret)) (.skip))))))))))) (.ops [O1 109 (.bin .add (.tmp 20) (.const (.int .i64 1))),O1 20 (.mov (.tmp 109))] [0,2,5,20])))
def c32l1:AC:= .seq (.seq (.ops [O1 16 (.mov (.tmp 5)),O1 17 (.bin .leq (.tmp 16) (.const (.int .u8 10)))] [0,2,5,17]) (.cond (.tmp 17) (.skip) (.exit 0))) (.seq (.block 1 (.seq (.ops [O1 20 (.mov (.const (.int .i64 0)))] [0,2,5,20]) (.block 2 (.loop [0,2,5,20] c32l0)))) (.ops [O1 18 (.mov (.tmp 5)),O1 19 (.bin .add (.tmp 18) (.const (.int .u8 1))),O1 5 (.mov (.tmp 19))] [0,2,5]))
def c32:AFun:=⟨.seq (.ops [O1 2 (.alloc 48 [(1,(.int .u8 0)),(1,(.bool false)),(2,(.int .i64 0))]),O1 3 (.mov (.const (.int .i64 0))),O1 4 (.mov (.const (.bool false)))] [0,2]) (.seq (.seq (.ops [O1 5 (.mov (.const (.int .u8 1)))] [0,2,5]) (.block 0 (.loop [0,2,5] c32l1))) (.seq (.ops [O1 110 (.build [(.int .u8 0),(.bool false),(.int .i64 0),(.int .i64 0)] []),⟨none,none,.store 4 (.tmp 2) (.tmp 110)⟩,O1 3 (.mov (.const (.int .i64 0))),O1 4 (.mov (.const (.bool false)))] [2,3,4]) (.ret))),111,[(2,(some (some 4))),(3,none),(4,none)],true⟩
theorem ok32:FunOK Tryd.prog 32 c32:= .code ⟨Tryd.f32,_,c32.code,Tryd.func32,rfl,by kernel_rfl,rfl,by kernel_rfl,by kernel_rfl⟩
/- raddle/raddleref41.commas -/
def c33l0:AC:= .seq (.seq (.ops [O1 6 (.mov (.tmp 5)),O1 7 (.bin .add (.tmp 6) (.const (.int .i64 1))),O1 8 (.mov (.tmp 0)),O1 9 (.len true (.tmp 8)),O1 10 (.bin .lss (.tmp 7) (.tmp 9))] [0,3,4,5,10]) (.cond (.tmp 10) (.skip) (.exit 0))) (.seq (.block 1 (.seq (.ops [O1 13 (.mov (.tmp 0)),O1 14 (.mov (.tmp 5)),O1 15 (.idxStr (.tmp 13) (.tmp 14)),O1 16 (.bin .eql (.tmp 15) (.const (.int .u8 44))),O1 17 (.mov (.tmp 16)),⟨some 18,some (17,true),.mov (.tmp 0)⟩,⟨some 19,some (17,true),.mov (.tmp 5)⟩,⟨some 20,some (17,true),.bin .add (.tmp 19) (.const (.int .i64 1))⟩,⟨some 21,some (17,true),.idxStr (.tmp 18) (.tmp 20)⟩,⟨some 22,some (17,true),.bin .eql (.tmp 21) (.const (.int .u8 32))⟩,O1 23 (.pick (.tmp 17) (.tmp 22) (.const (.bool false)))] [0,3,4,5,23]) (.cond (.tmp 23) (.seq (.ops [O1 24 (.mov (.tmp 3)),O1 25 (.mov (.tmp 0)),O1 26 (.mov (.tmp 4)),O1 27 (.mov (.tmp 5)),O1 28 (.slcS (.tmp 25) (some (.tmp 26)) (some (.tmp 27))),O1 29 (.mkRow 9 1 1 [(.string ⟨#[]⟩)] [(0,1,(.tmp 28))]),O1 30 (.app 9 1 16 (.tmp 24) (.tmp 29)),O1 3 (.mov (.tmp 30))] [0,3,5]) (.ops [O1 31 (.mov (.tmp 5)),O1 32 (.bin .add (.tmp 31) (.const (.int .i64 2))),O1 4 (.mov (.tmp 32))] [0,3,4,5])) (.skip)))) (.ops [O1 11 (.mov (.tmp 5)),O1 12 (.bin .add (.tmp 11) (.const (.int .i64 1))),O1 5 (.mov (.tmp 12))] [0,3,4,5]))
def c33:AFun:=⟨.seq (.ops [O1 2 (.mov (.const (.slice none 0 0)))] [0]) (.seq (.ops [O1 3 (.mov (.const (.slice none 0 0)))] [0,3]) (.seq (.ops [O1 4 (.mov (.const (.int .i64 0)))] [0,3,4]) (.seq (.seq (.ops [O1 5 (.mov (.const (.int .i64 0)))] [0,3,4,5]) (.block 0 (.loop [0,3,4,5] c33l0))) (.seq (.ops [O1 33 (.mov (.tmp 3)),O1 34 (.mov (.tmp 0)),O1 35 (.mov (.tmp 4)),O1 36 (.slcS (.tmp 34) (some (.tmp 35)) none),O1 37 (.mkRow 9 1 1 [(.string ⟨#[]⟩)] [(0,1,(.tmp 36))]),O1 38 (.app 9 1 16 (.tmp 33) (.tmp 37)),O1 2 (.mov (.tmp 38))] [2]) (.ret))))),39,[(2,none)],true⟩
theorem ok33:FunOK Tryd.prog 33 c33:= .code ⟨Tryd.f33,_,c33.code,Tryd.func33,rfl,by kernel_rfl,rfl,by kernel_rfl,by kernel_rfl⟩
/- raddle/raddleref41.one -/
def c34l0:AC:= .seq (.seq (.ops [O1 12 (.mov (.tmp 6)),O1 13 (.mov (.tmp 5)),O1 14 (.len false (.tmp 13)),O1 15 (.bin .mul (.const (.int .i64 2)) (.tmp 14)),O1 16 (.bin .lss (.tmp 12) (.tmp 15))] [0,2,4,5,6,16]) (.cond (.tmp 16) (.skip) (.exit 0))) (.seq (.block 1 (.seq (.ops [O1 20 (.mov (.tmp 5)),O1 21 (.mov (.tmp 6)),O1 22 (.bin .quo (.tmp 21) (.const (.int .i64 2))),O1 23 (.idxS 1 (.tmp 20) (.tmp 22)),O1 24 (.load none (.tmp 23)),O1 25 (.mov (.tmp 6)),O1 26 (.bin .rem (.tmp 25) (.const (.int .i64 2))),O1 27 (.bin .eql (.tmp 26) (.const (.int .i64 1))),O1 28 (.mov (.tmp 4)),O1 29 (.callF 62 [(.tmp 24),(.tmp 27),(.tmp 28)]),O1 19 (.mov (.tmp 29)),O1 30 (.ext (.tmp 19) 0),O1 31 (.ext (.tmp 19) 1),O1 7 (.alloc 48 [(1,(.int .u8 0)),(1,(.bool false)),(2,(.int .i64 0))]),⟨none,none,.store 4 (.tmp 7) (.tmp 30)⟩,O1 8 (.mov (.tmp 31))] [0,2,4,5,6,7,8]) (.seq (.ops [O1 32 (.mov (.tmp 8)),O1 33 (.bin .geq (.tmp 32) (.const (.int .i64 1))),O1 34 (.mov (.tmp 33)),⟨some 35,some (34,true),.mov (.tmp 8)⟩,⟨some 36,some (34,true),.bin .leq (.tmp 35) (.const (.int .i64 200))⟩,O1 37 (.pick (.tmp 34) (.tmp 36) (.const (.bool false))),O1 38 (.mov (.tmp 37)),⟨some 39,some (38,true),.load (some 4) (.tmp 7)⟩,⟨some 40,some (38,true),.callF 53 [.tmp 39]⟩,⟨some 41,some (38,true),.bin .eql (.tmp 40) (.const (.int .i64 0))⟩,O1 42 (.pick (.tmp 38) (.tmp 41) (.const (.bool false))),O1 43 (.mov (.tmp 42)),⟨some 44,some (43,true),.load (some 4) (.tmp 7)⟩,⟨some 45,some (43,true),.mov (.tmp 8)⟩,⟨some 46,some (43,true),.callF 55 [(.tmp 44),(.tmp 45)]⟩,⟨some 47,some (43,true),.mov (.tmp 0)⟩,⟨some 48,some (43,true),.bin .eql (.tmp 46) (.tmp 47)⟩,O1 49 (.pick (.tmp 43) (.tmp 48) (.const (.bool false)))] [0,2,4,5,6,7,8,49]) (.cond (.tmp 49) (.seq (.ops [O1 50 (.load (some 4) (.tmp 7)),O1 51 (.mov (.tmp 8)),⟨none,none,.store 4 (.tmp 2) (.tmp 50)⟩,O1 3 (.mov (.tmp 51))] [2,3]) (.ret)) (.skip))))) (.ops [O1 17 (.mov (.tmp 6)),O1 18 (.bin .add (.tmp 17) (.const (.int .i64 1))),O1 6 (.mov (.tmp 18))] [0,2,4,5,6]))
def c34:AFun:=⟨.seq (.ops [O1 2 (.alloc 48 [(1,(.int .u8 0)),(1,(.bool false)),(2,(.int .i64 0))]),O1 3 (.mov (.const (.int .i64 0)))] [0,2]) (.seq (.ops [O1 9 (.mov (.tmp 0)),O1 10 (.callF 60 [.tmp 9]),O1 11 (.callF 61 []),O1 4 (.mov (.tmp 10)),O1 5 (.mov (.tmp 11))] [0,2,4,5]) (.seq (.seq (.ops [O1 6 (.mov (.const (.int .i64 0)))] [0,2,4,5,6]) (.block 0 (.loop [0,2,4,5,6] c34l0))) (.seq (.ops [O1 52 (.build [(.int .u8 0),(.bool false),(.int .i64 0),(.int .i64 0)] []),⟨none,none,.store 4 (.tmp 2) (.tmp 52)⟩,O1 3 (.mov (.const (.int .i64 0)))] [2,3]) (.ret)))),53,[(2,(some (some 4))),(3,none)],true⟩
theorem ok34:FunOK Tryd.prog 34 c34:= .code ⟨Tryd.f34,_,c34.code,Tryd.func34,rfl,by kernel_rfl,rfl,by kernel_rfl,by kernel_rfl⟩
/- raddle/words.match -/
def c38l0:AC:= .seq (.ops [O1 20 (.bin .lss (.tmp 19) (.tmp 18))] [0,4,17,18,19,20]) (.seq (.cond (.tmp 20) (.skip) (.exit 0)) (.seq (.block 1 (.seq (.ops [O1 21 (.mov (.tmp 19)),O1 22 (.idxS 1 (.tmp 17) (.tmp 19)),O1 23 (.load none (.tmp 22)),O1 8 (.mov (.tmp 21)),O1 9 (.mov (.tmp 23))] [0,4,8,9,17,18,19]) (.seq (.seq (.ops [O1 24 (.mov (.tmp 8)),O1 25 (.bin .gtr (.tmp 24) (.const (.int .i64 0)))] [0,4,9,17,18,19,25]) (.cond (.tmp 25) (.seq (.ops [O1 27 (.mov (.tmp 0)),O1 28 (.callF 58 [.tmp 27]),O1 26 (.mov (.tmp 28)),O1 29 (.ext (.tmp 26) 0),O1 30 (.ext (.tmp 26) 1),O1 31 (.ext (.tmp 26) 2),O1 10 (.mov (.tmp 29)),O1 11 (.mov (.tmp 30)),O1 12 (.mov (.tmp 31))] [4,9,10,11,12,17,18,19]) (.seq (.seq (.ops [O1 32 (.mov (.tmp 12)),O1 33 (.un .not (.tmp 32))] [4,9,10,11,17,18,19,33]) (.cond (.tmp 33) (.seq (.ops [O1 4 (.mov (.const (.slice none 0 0))),O1 5 (.mov (.const (.string ⟨#[]⟩))),O1 6 (.mov (.const (.bool false)))] [4,5,6]) (.ret)) (.skip))) (.ops [O1 34 (.mov (.tmp 4)),O1 35 (.mov (.tmp 10)),O1 36 (.mkRow 3 1 1 [(.int .i64 0)] [(0,1,(.tmp 35))]),O1 37 (.app 3 1 8 (.tmp 34) (.tmp 36)),O1 38 (.mov (.tmp 11)),O1 4 (.mov (.tmp 37)),O1 0 (.mov (.tmp 38))] [0,4,9,17,18,19]))) (.skip))) (.seq (.ops [O1 40 (.mov (.tmp 0)),O1 41 (.mov (.tmp 9)),O1 42 (.callF 40 [(.tmp 40),(.tmp 41)]),O1 39 (.mov (.tmp 42)),O1 43 (.ext (.tmp 39) 0),O1 44 (.ext (.tmp 39) 1),O1 13 (.mov (.tmp 43)),O1 14 (.mov (.tmp 44))] [4,13,14,17,18,19]) (.seq (.seq (.ops [O1 45 (.mov (.tmp 14)),O1 46 (.un .not (.tmp 45))] [4,13,17,18,19,46]) (.cond (.tmp 46) (.seq (.ops [O1 4 (.mov (.const (.slice none 0 0))),O1 5 (.mov (.const (.string ⟨#[]⟩))),O1 6 (.mov (.const (.bool false)))] [4,5,6]) (.ret)) (.skip))) (.ops [O1 47 (.mov (.tmp 13)),O1 0 (.mov (.tmp 47))] [0,4,17,18,19])))))) (.ops [O1 48 (.bin .add (.tmp 19) (.const (.int .i64 1))),O1 19 (.mov (.tmp 48))] [0,4,17,18,19])))
def c38:AFun:=⟨.seq (.ops [O1 4 (.mov (.const (.slice none 0 0))),O1 5 (.mov (.const (.string ⟨#[]⟩))),O1 6 (.mov (.const (.bool false)))] [0,1,4]) (.seq (.ops [O1 15 (.mov (.tmp 1)),O1 16 (.callF 31 [(.tmp 15),(.const (.string ⟨#[35]⟩))]),O1 7 (.mov (.tmp 16))] [0,4,7]) (.seq (.seq (.ops [O1 17 (.mov (.tmp 7)),O1 18 (.len false (.tmp 17)),O1 19 (.mov (.const (.int .i64 0)))] [0,4,17,18,19]) (.block 0 (.loop [0,4,17,18,19] c38l0))) (.seq (.ops [O1 49 (.mov (.tmp 4)),O1 50 (.mov (.tmp 0)),O1 4 (.mov (.tmp 49)),O1 5 (.mov (.tmp 50)),O1 6 (.mov (.const (.bool true)))] [4,5,6]) (.ret)))),51,[(4,none),(5,none),(6,none)],true⟩
theorem ok38:FunOK Tryd.prog 38 c38:= .code ⟨Tryd.f38,_,c38.code,Tryd.func38,rfl,by kernel_rfl,rfl,by kernel_rfl,by kernel_rfl⟩
/- strings.CutSuffix -/
def c39:AFun:=⟨.seq (.ops [O1 4 (.mov (.const (.string ⟨#[]⟩))),O1 5 (.mov (.const (.bool false)))] [0,1]) (.seq (.ops [O1 6 (.mov (.tmp 0)),O1 7 (.mov (.tmp 1)),O1 8 (.callF 65 [(.tmp 6),(.tmp 7)]),O1 9 (.ext (.tmp 8) 0),O1 10 (.ext (.tmp 8) 1),O1 4 (.mov (.tmp 9)),O1 5 (.mov (.tmp 10))] [4,5]) (.ret)),11,[(4,none),(5,none)],true⟩
theorem ok39:FunOK Tryd.prog 39 c39:= .code ⟨Tryd.f39,_,c39.code,Tryd.func39,rfl,by kernel_rfl,rfl,by kernel_rfl,by kernel_rfl⟩
/- strings.CutPrefix -/
def c40:AFun:=⟨.seq (.ops [O1 4 (.mov (.const (.string ⟨#[]⟩))),O1 5 (.mov (.const (.bool false)))] [0,1]) (.seq (.ops [O1 6 (.mov (.tmp 0)),O1 7 (.mov (.tmp 1)),O1 8 (.callF 66 [(.tmp 6),(.tmp 7)]),O1 9 (.ext (.tmp 8) 0),O1 10 (.ext (.tmp 8) 1),O1 4 (.mov (.tmp 9)),O1 5 (.mov (.tmp 10))] [4,5]) (.ret)),11,[(4,none),(5,none)],true⟩
theorem ok40:FunOK Tryd.prog 40 c40:= .code ⟨Tryd.f40,_,c40.code,Tryd.func40,rfl,by kernel_rfl,rfl,by kernel_rfl,by kernel_rfl⟩
/- slices.ContainsFunc[[]raddle/api.Stitch,raddle/api.Stitch] -/
def c47:AFun:=⟨.seq (.ops [O1 4 (.mov (.const (.bool false)))] [0,1]) (.seq (.ops [O1 5 (.mov (.tmp 0)),O1 6 (.mov (.tmp 1)),O1 7 (.callF 69 [(.tmp 5),(.tmp 6)]),O1 8 (.bin .geq (.tmp 7) (.const (.int .i64 0))),O1 4 (.mov (.tmp 8))] [4]) (.ret)),9,[(4,none)],true⟩
theorem ok47:FunOK Tryd.prog 47 c47:= .code ⟨Tryd.f47,_,c47.code,Tryd.func47,rfl,by kernel_rfl,rfl,by kernel_rfl,by kernel_rfl⟩
/- raddle/stitch.All$1 -/
def c48:AFun:=⟨.seq (.ops [O1 1 (.box 48 (.tmp 0)),O1 2 (.mov (.const (.bool false)))] [1]) (.seq (.ops [O1 3 (.load (some 4) (.tmp 1)),O1 4 (.callF 49 [.tmp 3]),O1 5 (.bin .neq (.tmp 4) (.const (.int .i64 0))),O1 2 (.mov (.tmp 5))] [2]) (.ret)),6,[(2,none)],true⟩
theorem ok48:FunOK Tryd.prog 48 c48:= .code ⟨Tryd.f48,_,c48.code,Tryd.func48,rfl,by kernel_rfl,rfl,by kernel_rfl,by kernel_rfl⟩
/- raddle/stitch.Check -/
def c49:AFun:=⟨.seq (.ops [O1 1 (.box 48 (.tmp 0)),O1 2 (.mov (.const (.int .i64 0)))] [1]) (.seq (.ops [O1 6 (.fldA 0 (.tmp 1)),O1 7 (.load none (.tmp 6)),O1 8 (.callF 70 [.tmp 7]),O1 5 (.mov (.tmp 8)),O1 9 (.ext (.tmp 5) 0),O1 10 (.ext (.tmp 5) 1),O1 3 (.alloc 110 [(1,(.string ⟨#[]⟩)),(4,(.int .i64 0)),(1,(.bool false)),(2,(.int .i64 0))]),⟨none,none,.store 8 (.tmp 3) (.tmp 9)⟩,O1 4 (.mov (.tmp 10))] [1,3,4]) (.seq (.seq (.ops [O1 11 (.mov (.tmp 4)),O1 12 (.un .not (.tmp 11)),O1 13 (.mov (.tmp 12)),⟨some 14,some (13,false),.fldA 2 (.tmp 1)⟩,⟨some 15,some (13,false),.load none (.tmp 14)⟩,⟨some 16,some (13,false),.fldA 1 (.tmp 3)⟩,⟨some 17,some (13,false),.load (some 2) (.tmp 16)⟩,⟨some 18,some (13,false),.callF 71 [(.tmp 15),(.tmp 17)]⟩,⟨some 19,some (13,false),.un .not (.tmp 18)⟩,O1 20 (.pick (.tmp 13) (.const (.bool true)) (.tmp 19)),O1 21 (.mov (.tmp 20)),⟨some 22,some (21,false),.fldA 3 (.tmp 1)⟩,⟨some 23,some (21,false),.load none (.tmp 22)⟩,⟨some 24,some (21,false),.fldA 3 (.tmp 3)⟩,⟨some 25,some (21,false),.load (some 2) (.tmp 24)⟩,⟨some 26,some (21,false),.callF 71 [(.tmp 23),(.tmp 25)]⟩,⟨some 27,some (21,false),.un .not (.tmp 26)⟩,O1 28 (.pick (.tmp 21) (.const (.bool true)) (.tmp 27)),O1 29 (.mov (.tmp 28)),⟨some 30,some (29,false),.fldA 1 (.tmp 1)⟩,⟨some 31,some (29,false),.load none (.tmp 30)⟩,⟨some 32,some (29,false),.mov (.tmp 31)⟩,⟨some 33,some (32,true),.fldA 5 (.tmp 3)⟩,⟨some 34,some (32,true),.load none (.tmp 33)⟩,⟨some 35,some (32,true),.un .not (.tmp 34)⟩,⟨some 36,some (29,false),.pick (.tmp 32) (.tmp 35) (.const (.bool false))⟩,O1 37 (.pick (.tmp 29) (.const (.bool true)) (.tmp 36))] [37]) (.cond (.tmp 37) (.seq (.ops [O1 2 (.mov (.const (.int .i64 8)))] [2]) (.ret)) (.skip))) (.seq (.ops [O1 2 (.mov (.const (.int .i64 0)))] [2]) (.ret)))),38,[(2,none)],true⟩
theorem ok49:FunOK Tryd.prog 49 c49:= .code ⟨Tryd.f49,_,c49.code,Tryd.func49,rfl,by kernel_rfl,rfl,by kernel_rfl,by kernel_rfl⟩
/- raddle/stitch.sum -/
def c50l0:AC:= .seq (.ops [O1 11 (.bin .lss (.tmp 10) (.tmp 9))] [2,3,8,9,10,11]) (.seq (.cond (.tmp 11) (.skip) (.exit 0)) (.seq (.block 1 (.seq (.ops [O1 12 (.idxS 4 (.tmp 8) (.tmp 10)),O1 13 (.load (some 4) (.tmp 12)),O1 5 (.alloc 48 [(1,(.int .u8 0)),(1,(.bool false)),(2,(.int .i64 0))]),⟨none,none,.store 4 (.tmp 5) (.tmp 13)⟩] [2,3,5,8,9,10]) (.seq (.ops [O1 15 (.fldA 0 (.tmp 5)),O1 16 (.load none (.tmp 15)),O1 17 (.callF 70 [.tmp 16]),O1 14 (.mov (.tmp 17)),O1 18 (.ext (.tmp 14) 0),O1 19 (.ext (.tmp 14) 1),O1 6 (.alloc 110 [(1,(.string ⟨#[]⟩)),(4,(.int .i64 0)),(1,(.bool false)),(2,(.int .i64 0))]),⟨none,none,.store 8 (.tmp 6) (.tmp 18)⟩,O1 7 (.mov (.tmp 19))] [2,3,5,6,8,9,10]) (.seq (.ops [O1 20 (.mov (.tmp 2)),O1 21 (.load (some 4) (.tmp 5)),O1 22 (.fldA 6 (.tmp 6)),O1 23 (.load none (.tmp 22)),O1 24 (.callF 72 [(.tmp 21),(.tmp 23)]),O1 25 (.bin .add (.tmp 20) (.tmp 24)),O1 2 (.mov (.tmp 25))] [2,3,5,6,8,9,10]) (.ops [O1 26 (.mov (.tmp 3)),O1 27 (.load (some 4) (.tmp 5)),O1 28 (.fldA 7 (.tmp 6)),O1 29 (.load none (.tmp 28)),O1 30 (.callF 72 [(.tmp 27),(.tmp 29)]),O1 31 (.bin .add (.tmp 26) (.tmp 30)),O1 3 (.mov (.tmp 31))] [2,3,8,9,10]))))) (.ops [O1 32 (.bin .add (.tmp 10) (.const (.int .i64 1))),O1 10 (.mov (.tmp 32))] [2,3,8,9,10])))
def c50:AFun:=⟨.seq (.ops [O1 2 (.mov (.const (.int .i64 0))),O1 3 (.mov (.const (.int .i64 0)))] [0,2,3]) (.seq (.seq (.ops [O1 8 (.mov (.tmp 0)),O1 9 (.len false (.tmp 8)),O1 10 (.mov (.const (.int .i64 0)))] [2,3,8,9,10]) (.block 0 (.loop [2,3,8,9,10] c50l0))) (.seq (.ops [O1 33 (.mov (.tmp 2)),O1 34 (.mov (.tmp 3)),O1 2 (.mov (.tmp 33)),O1 3 (.mov (.tmp 34))] [2,3]) (.ret))),35,[(2,none),(3,none)],true⟩
theorem ok50:FunOK Tryd.prog 50 c50:= .code ⟨Tryd.f50,_,c50.code,Tryd.func50,rfl,by kernel_rfl,rfl,by kernel_rfl,by kernel_rfl⟩
/- raddle/words.phrase -/
def c51:AFun:=⟨.seq (.ops [O1 2 (.box 48 (.tmp 0)),O1 4 (.mov (.const (.string ⟨#[]⟩)))] [1,2]) (.seq (.ops [O1 8 (.fldA 0 (.tmp 2)),O1 9 (.load none (.tmp 8)),O1 10 (.fldA 1 (.tmp 2)),O1 11 (.load none (.tmp 10)),O1 12 (.callF 57 [(.tmp 9),(.tmp 11)]),O1 7 (.mov (.tmp 12)),O1 13 (.ext (.tmp 7) 0),O1 14 (.ext (.tmp 7) 1),O1 5 (.mov (.tmp 13)),O1 6 (.mov (.tmp 14))] [1,2,5,6]) (.seq (.seq (.ops [O1 15 (.mov (.tmp 6))] [1,2,5,15]) (.cond (.tmp 15) (.seq (.ops [O1 16 (.mov (.tmp 5)),O1 17 (.mov (.tmp 1)),O1 18 (.callF 35 [.tmp 17]),O1 19 (.callF 73 [(.tmp 16),(.const (.string ⟨#[35]⟩)),(.tmp 18),(.const (.int .i64 1))]),O1 4 (.mov (.tmp 19))] [4]) (.ret)) (.skip))) (.seq (.ops [O1 20 (.mov (.tmp 5)),O1 21 (.fldA 2 (.tmp 2)),O1 22 (.load none (.tmp 21)),O1 23 (.callF 35 [.tmp 22]),O1 24 (.callF 73 [(.tmp 20),(.const (.string ⟨#[35]⟩)),(.tmp 23),(.const (.int .i64 1))]),O1 5 (.mov (.tmp 24))] [1,2,5]) (.seq (.ops [O1 25 (.mov (.tmp 5)),O1 26 (.fldA 3 (.tmp 2)),O1 27 (.load none (.tmp 26)),O1 28 (.callF 35 [.tmp 27]),O1 29 (.callF 73 [(.tmp 25),(.const (.string ⟨#[35]⟩)),(.tmp 28),(.const (.int .i64 1))]),O1 5 (.mov (.tmp 29))] [1,5]) (.seq (.seq (.ops [O1 30 (.mov (.tmp 1)),O1 31 (.bin .gtr (.tmp 30) (.const (.int .i64 1)))] [1,5,31]) (.cond (.tmp 31) (.ops [O1 32 (.mov (.tmp 5)),O1 33 (.mov (.tmp 1)),O1 34 (.callF 35 [.tmp 33]),O1 35 (.bin .add (.const (.string ⟨#[32]⟩)) (.tmp 34)),O1 36 (.bin .add (.tmp 35) (.const (.string ⟨#[32,116,105,109,101,115]⟩))),O1 37 (.bin .add (.tmp 32) (.tmp 36)),O1 5 (.mov (.tmp 37))] [5]) (.skip))) (.seq (.ops [O1 38 (.mov (.tmp 5)),O1 4 (.mov (.tmp 38))] [4]) (.ret))))))),39,[(4,none)],true⟩
theorem ok51:FunOK Tryd.prog 51 c51:= .code ⟨Tryd.f51,_,c51.code,Tryd.func51,rfl,by kernel_rfl,rfl,by kernel_rfl,by kernel_rfl⟩
/- raddle/raddleref25.Check -/
def c53:AFun:=⟨.seq (.ops [O1 1 (.box 48 (.tmp 0)),O1 2 (.mov (.const (.int .i64 0)))] [1]) (.seq (.ops [O1 5 (.fldA 2 (.tmp 1)),O1 6 (.load none (.tmp 5)),O1 7 (.bin .eql (.tmp 6) (.const (.int .i64 0))),O1 8 (.mov (.tmp 7)),⟨some 9,some (8,true),.fldA 3 (.tmp 1)⟩,⟨some 10,some (8,true),.load none (.tmp 9)⟩,⟨some 11,some (8,true),.bin .eql (.tmp 10) (.const (.int .i64 0))⟩,O1 12 (.pick (.tmp 8) (.tmp 11) (.const (.bool false))),O1 3 (.mov (.tmp 12))] [1,3]) (.seq (.ops [O1 4 (.mov (.const (.bool false)))] [1,3,4]) (.seq (.seq (.ops [O1 13 (.fldA 0 (.tmp 1)),O1 14 (.load none (.tmp 13))] [1,3,4,14]) (.block 0 (.seq (.seq (.ops [O1 16 (.bin .eql (.tmp 14) (.const (.int .u8 1))),O1 15 (.mov (.tmp 16))] [1,3,4,14,15]) (.cond (.tmp 15) (.skip) (.ops [O1 17 (.bin .eql (.tmp 14) (.const (.int .u8 8))),O1 15 (.mov (.tmp 17))] [1,3,4,14,15]))) (.cond (.tmp 15) (.ops [O1 18 (.mov (.tmp 3)),O1 4 (.mov (.tmp 18))] [4]) (.seq (.ops [O1 20 (.bin .eql (.tmp 14) (.const (.int .u8 2))),O1 19 (.mov (.tmp 20))] [1,3,4,14,19]) (.cond (.tmp 19) (.ops [O1 21 (.mov (.tmp 3)),O1 22 (.mov (.tmp 21)),⟨some 23,some (22,true),.fldA 1 (.tmp 1)⟩,⟨some 24,some (22,true),.load none (.tmp 23)⟩,⟨some 25,some (22,true),.un .not (.tmp 24)⟩,O1 26 (.pick (.tmp 22) (.tmp 25) (.const (.bool false))),O1 4 (.mov (.tmp 26))] [4]) (.seq (.seq (.ops [O1 28 (.bin .eql (.tmp 14) (.const (.int .u8 3))),O1 27 (.mov (.tmp 28))] [1,4,14,27]) (.cond (.tmp 27) (.skip) (.seq (.ops [O1 29 (.bin .eql (.tmp 14) (.const (.int .u8 4))),O1 27 (.mov (.tmp 29))] [1,4,14,27]) (.cond (.tmp 27) (.skip) (.ops [O1 30 (.bin .eql (.tmp 14) (.const (.int .u8 5))),O1 27 (.mov (.tmp 30))] [1,4,14,27]))))) (.cond (.tmp 27) (.ops [O1 31 (.fldA 3 (.tmp 1)),O1 32 (.load none (.tmp 31)),O1 33 (.bin .eql (.tmp 32) (.const (.int .i64 0))),O1 34 (.mov (.tmp 33)),⟨some 35,some (34,true),.fldA 2 (.tmp 1)⟩,⟨some 36,some (34,true),.load none (.tmp 35)⟩,⟨some 37,some (34,true),.bin .geq (.tmp 36) (.const (.int .i64 2))⟩,O1 38 (.pick (.tmp 34) (.tmp 37) (.const (.bool false))),O1 39 (.mov (.tmp 38)),⟨some 40,some (39,true),.fldA 2 (.tmp 1)⟩,⟨some 41,some (39,true),.load none (.tmp 40)⟩,⟨some 42,some (39,true),.bin .leq (.tmp 41) (.const (.int .i64 4))⟩,O1 43 (.pick (.tmp 39) (.tmp 42) (.const (.bool false))),O1 4 (.mov (.tmp 43))] [4]) (.seq (.seq (.ops [O1 45 (.bin .eql (.tmp 14) (.const (.int .u8 6))),O1 44 (.mov (.tmp 45))] [1,4,14,44]) (.cond (.tmp 44) (.skip) (.ops [O1 46 (.bin .eql (.tmp 14) (.const (.int .u8 7))),O1 44 (.mov (.tmp 46))] [1,4,14,44]))) (.cond (.tmp 44) (.ops [O1 47 (.fldA 2 (.tmp 1)),O1 48 (.load none (.tmp 47)),O1 49 (.bin .geq (.tmp 48) (.const (.int .i64 1))),O1 50 (.mov (.tmp 49)),⟨some 51,some (50,true),.fldA 2 (.tmp 1)⟩,⟨some 52,some (50,true),.load none (.tmp 51)⟩,⟨some 53,some (50,true),.bin .leq (.tmp 52) (.const (.int .i64 6))⟩,O1 54 (.pick (.tmp 50) (.tmp 53) (.const (.bool false))),O1 55 (.mov (.tmp 54)),⟨some 56,some (55,true),.fldA 3 (.tmp 1)⟩,⟨some 57,some (55,true),.load none (.tmp 56)⟩,⟨some 58,some (55,true),.bin .geq (.tmp 57) (.const (.int .i64 1))⟩,
  O1 59 (.pick (.tmp 55) (.tmp 58) (.const (.bool false))),O1 60 (.mov (.tmp 59)),⟨some 61,some (60,true),.fldA 3 (.tmp 1)⟩,⟨some 62,some (60,true),.load none (.tmp 61)⟩,⟨some 63,some (60,true),.bin .leq (.tmp 62) (.const (.int .i64 6))⟩,O1 64 (.pick (.tmp 60) (.tmp 63) (.const (.bool false))),O1 4 (.mov (.tmp 64))] [4]) (.seq (.ops [O1 66 (.bin .eql (.tmp 14) (.const (.int .u8 9))),O1 65 (.mov (.tmp 66))] [1,4,14,65]) (.cond (.tmp 65) (.ops [O1 67 (.fldA 3 (.tmp 1)),O1 68 (.load none (.tmp 67)),O1 69 (.bin .eql (.tmp 68) (.const (.int .i64 0))),O1 70 (.mov (.tmp 69)),⟨some 71,some (70,true),.fldA 1 (.tmp 1)⟩,⟨some 72,some (70,true),.load none (.tmp 71)⟩,⟨some 73,some (70,true),.un .not (.tmp 72)⟩,O1 74 (.pick (.tmp 70) (.tmp 73) (.const (.bool false))),O1 75 (.mov (.tmp 74)),⟨some 76,some (75,true),.fldA 2 (.tmp 1)⟩,⟨some 77,some (75,true),.load none (.tmp 76)⟩,⟨some 78,some (75,true),.bin .geq (.tmp 77) (.const (.int .i64 1))⟩,O1 79 (.pick (.tmp 75) (.tmp 78) (.const (.bool false))),O1 80 (.mov (.tmp 79)),⟨some 81,some (80,true),.fldA 2 (.tmp 1)⟩,⟨some 82,some (80,true),.load none (.tmp 81)⟩,⟨some 83,some (80,true),.bin .leq (.tmp 82) (.const (.int .i64 200))⟩,O1 84 (.pick (.tmp 80) (.tmp 83) (.const (.bool false))),O1 4 (.mov (.tmp 84))] [4]) (.seq (.ops [O1 86 (.bin .eql (.tmp 14) (.const (.int .u8 10))),O1 85 (.mov (.tmp 86))] [1,4,85]) (.cond (.tmp 85) (.ops [O1 87 (.fldA 3 (.tmp 1)),O1 88 (.load none (.tmp 87)),O1 89 (.bin .eql (.tmp 88) (.const (.int .i64 0))),O1 90 (.mov (.tmp 89)),⟨some 91,some (90,true),.fldA 2 (.tmp 1)⟩,⟨some 92,some (90,true),.load none (.tmp 91)⟩,⟨some 93,some (90,true),.bin .geq (.tmp 92) (.const (.int .i64 1))⟩,O1 94 (.pick (.tmp 90) (.tmp 93) (.const (.bool false))),O1 95 (.mov (.tmp 94)),⟨some 96,some (95,true),.fldA 2 (.tmp 1)⟩,⟨some 97,some (95,true),.load none (.tmp 96)⟩,⟨some 98,some (95,true),.bin .leq (.tmp 97) (.const (.int .i64 200))⟩,O1 99 (.pick (.tmp 95) (.tmp 98) (.const (.bool false))),O1 4 (.mov (.tmp 99))] [4]) (.skip))))))))))))))) (.seq (.seq (.ops [O1 100 (.mov (.tmp 4)),O1 101 (.un .not (.tmp 100))] [101]) (.cond (.tmp 101) (.seq (.ops [O1 2 (.mov (.const (.int .i64 8)))] [2]) (.ret)) (.skip))) (.seq (.ops [O1 2 (.mov (.const (.int .i64 0)))] [2]) (.ret)))))),102,[(2,none)],true⟩
theorem ok53:FunOK Tryd.prog 53 c53:= .code ⟨Tryd.f53,_,c53.code,Tryd.func53,rfl,by kernel_rfl,rfl,by kernel_rfl,by kernel_rfl⟩
/- raddle/raddleref25.sums -/
def c54l0:AC:= .seq (.seq (.ops [O1 7 (.mov (.tmp 6)),O1 8 (.mov (.tmp 0)),O1 9 (.len false (.tmp 8)),O1 10 (.bin .lss (.tmp 7) (.tmp 9))] [0,4,5,6,10]) (.cond (.tmp 10) (.skip) (.exit 0))) (.seq (.block 1 (.seq (.ops [O1 13 (.mov (.tmp 4)),O1 14 (.mov (.tmp 0)),O1 15 (.mov (.tmp 6)),O1 16 (.idxS 4 (.tmp 14) (.tmp 15)),O1 17 (.load (some 4) (.tmp 16)),O1 18 (.callF 75 [.tmp 17]),O1 19 (.bin .add (.tmp 13) (.tmp 18)),O1 4 (.mov (.tmp 19))] [0,4,5,6]) (.ops [O1 20 (.mov (.tmp 5)),O1 21 (.mov (.tmp 0)),O1 22 (.mov (.tmp 6)),O1 23 (.idxS 4 (.tmp 21) (.tmp 22)),O1 24 (.load (some 4) (.tmp 23)),O1 25 (.callF 76 [.tmp 24]),O1 26 (.bin .add (.tmp 20) (.tmp 25)),O1 5 (.mov (.tmp 26))] [0,4,5,6]))) (.ops [O1 11 (.mov (.tmp 6)),O1 12 (.bin .add (.tmp 11) (.const (.int .i64 1))),O1 6 (.mov (.tmp 12))] [0,4,5,6]))
def c54:AFun:=⟨.seq (.ops [O1 2 (.mov (.const (.int .i64 0))),O1 3 (.mov (.const (.int .i64 0)))] [0]) (.seq (.ops [O1 4 (.mov (.const (.int .i64 0))),O1 5 (.mov (.const (.int .i64 0)))] [0,4,5]) (.seq (.seq (.ops [O1 6 (.mov (.const (.int .i64 0)))] [0,4,5,6]) (.block 0 (.loop [0,4,5,6] c54l0))) (.seq (.ops [O1 27 (.mov (.tmp 4)),O1 28 (.mov (.tmp 5)),O1 2 (.mov (.tmp 27)),O1 3 (.mov (.tmp 28))] [2,3]) (.ret)))),29,[(2,none),(3,none)],true⟩
theorem ok54:FunOK Tryd.prog 54 c54:= .code ⟨Tryd.f54,_,c54.code,Tryd.func54,rfl,by kernel_rfl,rfl,by kernel_rfl,by kernel_rfl⟩
/- raddle/raddleref41.Phrase -/
def c55:AFun:=⟨.seq (.ops [O1 2 (.box 48 (.tmp 0)),O1 4 (.mov (.const (.string ⟨#[]⟩)))] [1,2]) (.seq (.ops [O1 6 (.mov (.tmp 1)),O1 7 (.callF 64 [.tmp 6]),O1 5 (.mov (.tmp 7))] [1,2,5]) (.seq (.block 0 (.seq (.ops [O1 9 (.fldA 0 (.tmp 2)),O1 10 (.load none (.tmp 9)),O1 11 (.bin .eql (.tmp 10) (.const (.int .u8 1))),O1 8 (.mov (.tmp 11))] [1,2,5,8]) (.cond (.tmp 8) (.seq (.ops [O1 12 (.load (some 4) (.tmp 2)),O1 13 (.callF 77 [.tmp 12]),O1 14 (.bin .add (.tmp 13) (.const (.string ⟨#[32]⟩))),O1 15 (.mov (.tmp 5)),O1 16 (.bin .add (.tmp 14) (.tmp 15)),O1 4 (.mov (.tmp 16))] [4]) (.ret)) (.seq (.ops [O1 18 (.fldA 0 (.tmp 2)),O1 19 (.load none (.tmp 18)),O1 20 (.bin .eql (.tmp 19) (.const (.int .u8 8))),O1 21 (.mov (.tmp 20)),⟨some 22,some (21,true),.fldA 1 (.tmp 2)⟩,⟨some 23,some (21,true),.load none (.tmp 22)⟩,O1 24 (.pick (.tmp 21) (.tmp 23) (.const (.bool false))),O1 17 (.mov (.tmp 24))] [1,2,5,17]) (.cond (.tmp 17) (.seq (.ops [O1 25 (.mov (.tmp 5)),O1 26 (.bin .add (.const (.string ⟨#[115,108,105,112,32]⟩)) (.tmp 25)),O1 27 (.bin .add (.tmp 26) (.const (.string ⟨#[32,119,105,116,104,32,121,97,114,110,32,105,110,32,102,114,111,110,116]⟩))),O1 4 (.mov (.tmp 27))] [4]) (.ret)) (.seq (.ops [O1 29 (.fldA 0 (.tmp 2)),O1 30 (.load none (.tmp 29)),O1 31 (.bin .eql (.tmp 30) (.const (.int .u8 8))),O1 28 (.mov (.tmp 31))] [1,2,5,28]) (.cond (.tmp 28) (.seq (.ops [O1 32 (.mov (.tmp 5)),O1 33 (.bin .add (.const (.string ⟨#[115,108,105,112,32]⟩)) (.tmp 32)),O1 4 (.mov (.tmp 33))] [4]) (.ret)) (.seq (.ops [O1 35 (.mov (.tmp 1)),O1 36 (.bin .gtr (.tmp 35) (.const (.int .i64 1))),O1 34 (.mov (.tmp 36))] [2,5,34]) (.cond (.tmp 34) (.seq (.ops [O1 37 (.load (some 4) (.tmp 2)),O1 38 (.callF 78 [.tmp 37]),O1 39 (.bin .add (.tmp 38) (.const (.string ⟨#[32]⟩))),O1 40 (.mov (.tmp 5)),O1 41 (.bin .add (.tmp 39) (.tmp 40)),O1 42 (.bin .add (.tmp 41) (.const (.string ⟨#[32,116,105,109,101,115]⟩))),O1 4 (.mov (.tmp 42))] [4]) (.ret)) (.skip)))))))))) (.seq (.ops [O1 43 (.load (some 4) (.tmp 2)),O1 44 (.callF 78 [.tmp 43]),O1 4 (.mov (.tmp 44))] [4]) (.ret)))),45,[(4,none)],true⟩
theorem ok55:FunOK Tryd.prog 55 c55:= .code ⟨Tryd.f55,_,c55.code,Tryd.func55,rfl,by kernel_rfl,rfl,by kernel_rfl,by kernel_rfl⟩
/- strings.genSplit -/
def c56l0:AC:= .seq (.seq (.ops [O1 34 (.mov (.tmp 10)),O1 35 (.mov (.tmp 3)),O1 36 (.bin .lss (.tmp 34) (.tmp 35))] [0,1,2,3,9,10,36]) (.cond (.tmp 36) (.skip) (.exit 0))) (.block 1 (.seq (.ops [O1 37 (.mov (.tmp 0)),O1 38 (.mov (.tmp 1)),O1 39 (.callF 81 [(.tmp 37),(.tmp 38)]),O1 11 (.mov (.tmp 39))] [0,1,2,3,9,10,11]) (.seq (.seq (.ops [O1 40 (.mov (.tmp 11)),O1 41 (.bin .lss (.tmp 40) (.const (.int .i64 0)))] [0,1,2,3,9,10,11,41]) (.cond (.tmp 41) (.exit 0) (.skip))) (.seq (.ops [O1 42 (.mov (.tmp 9)),O1 43 (.mov (.tmp 10)),O1 44 (.mov (.tmp 0)),O1 45 (.mov (.tmp 11)),O1 46 (.mov (.tmp 2)),O1 47 (.bin .add (.tmp 45) (.tmp 46)),O1 48 (.slcS (.tmp 44) none (some (.tmp 47))),O1 49 (.idxS 1 (.tmp 42) (.tmp 43)),⟨none,none,.store 1 (.tmp 49) (.tmp 48)⟩] [0,1,2,3,9,10,11]) (.seq (.ops [O1 50 (.mov (.tmp 0)),O1 51 (.mov (.tmp 11)),O1 52 (.mov (.tmp 1)),O1 53 (.len true (.tmp 52)),O1 54 (.bin .add (.tmp 51) (.tmp 53)),O1 55 (.slcS (.tmp 50) (some (.tmp 54)) none),O1 0 (.mov (.tmp 55))] [0,1,2,3,9,10]) (.ops [O1 56 (.mov (.tmp 10)),O1 57 (.bin .add (.tmp 56) (.const (.int .i64 1))),O1 10 (.mov (.tmp 57))] [0,1,2,3,9,10]))))))
def c56:AFun:=⟨.seq (.ops [O1 8 (.mov (.const (.slice none 0 0)))] [0,1,2,3]) (.seq (.seq (.ops [O1 12 (.mov (.tmp 3)),O1 13 (.bin .eql (.tmp 12) (.const (.int .i64 0)))] [0,1,2,3,13]) (.cond (.tmp 13) (.seq (.ops [O1 8 (.mov (.const (.slice none 0 0)))] [8]) (.ret)) (.skip))) (.seq (.seq (.ops [O1 14 (.mov (.tmp 1)),O1 15 (.bin .eql (.tmp 14) (.const (.string ⟨#[]⟩)))] [0,1,2,3,15]) (.cond (.tmp 15) (.seq (.ops [O1 16 (.mov (.tmp 0)),O1 17 (.mov (.tmp 3)),O1 18 (.callF 79 [(.tmp 16),(.tmp 17)]),O1 8 (.mov (.tmp 18))] [8]) (.ret)) (.skip))) (.seq (.seq (.ops [O1 19 (.mov (.tmp 3)),O1 20 (.bin .lss (.tmp 19) (.const (.int .i64 0)))] [0,1,2,3,20]) (.cond (.tmp 20) (.ops [O1 21 (.mov (.tmp 0)),O1 22 (.mov (.tmp 1)),O1 23 (.callF 80 [(.tmp 21),(.tmp 22)]),O1 24 (.bin .add (.tmp 23) (.const (.int .i64 1))),O1 3 (.mov (.tmp 24))] [0,1,2,3]) (.skip))) (.seq (.ops [O1 25 (.mov (.tmp 3)),O1 26 (.mov (.tmp 0)),O1 27 (.len true (.tmp 26)),O1 28 (.bin .add (.tmp 27) (.const (.int .i64 1))),O1 29 (.mm false (.tmp 25) (.tmp 28)),O1 3 (.mov (.tmp 29))] [0,1,2,3]) (.seq (.ops [O1 30 (.mov (.tmp 3)),O1 31 (.mkSlice 9 1 16 [(.string ⟨#[]⟩)] (.tmp 30) (.tmp 30)),O1 9 (.mov (.tmp 31))] [0,1,2,3,9]) (.seq (.ops [O1 32 (.mov (.tmp 3)),O1 33 (.bin .sub (.tmp 32) (.const (.int .i64 1))),O1 3 (.mov (.tmp 33))] [0,1,2,3,9]) (.seq (.ops [O1 10 (.mov (.const (.int .i64 0)))] [0,1,2,3,9,10]) (.seq (.block 0 (.loop [0,1,2,3,9,10] c56l0)) (.seq (.ops [O1 58 (.mov (.tmp 9)),O1 59 (.mov (.tmp 10)),O1 60 (.mov (.tmp 0)),O1 61 (.idxS 1 (.tmp 58) (.tmp 59)),⟨none,none,.store 1 (.tmp 61) (.tmp 60)⟩] [9,10]) (.seq (.ops [O1 62 (.mov (.tmp 9)),O1 63 (.mov (.tmp 10)),O1 64 (.bin .add (.tmp 63) (.const (.int .i64 1))),O1 65 (.slc 1 (.tmp 62) none (some (.tmp 64)) none),O1 8 (.mov (.tmp 65))] [8]) (.ret))))))))))),66,[(8,none)],true⟩
theorem ok56:FunOK Tryd.prog 56 c56:= .code ⟨Tryd.f56,_,c56.code,Tryd.func56,rfl,by kernel_rfl,rfl,by kernel_rfl,by kernel_rfl⟩
/- raddle/words.form -/
def c57:AFun:=⟨.seq (.ops [O1 4 (.mov (.const (.string ⟨#[]⟩))),O1 5 (.mov (.const (.bool false)))] [0,1]) (.seq (.ops [O1 6 (.mov (.const (.string ⟨#[]⟩)))] [0,1,6]) (.seq (.seq (.ops [O1 7 (.mov (.tmp 1))] [0,1,6,7]) (.cond (.tmp 7) (.ops [O1 6 (.mov (.const (.string ⟨#[32,112,117,114,108,119,105,115,101]⟩)))] [0,1,6]) (.skip))) (.seq (.seq (.ops [O1 8 (.mov (.tmp 0))] [1,6,8]) (.block 0 (.seq (.ops [O1 10 (.bin .eql (.tmp 8) (.const (.int .u8 1))),O1 9 (.mov (.tmp 10))] [1,6,8,9]) (.cond (.tmp 9) (.seq (.ops [O1 11 (.mov (.tmp 1)),O1 12 (.callF 82 [.tmp 11]),O1 13 (.bin .add (.tmp 12) (.const (.string ⟨#[32,35]⟩))),O1 4 (.mov (.tmp 13)),O1 5 (.mov (.const (.bool true)))] [4,5]) (.ret)) (.seq (.ops [O1 15 (.bin .eql (.tmp 8) (.const (.int .u8 8))),O1 14 (.mov (.tmp 15))] [1,6,8,14]) (.cond (.tmp 14) (.seq (.seq (.ops [O1 16 (.mov (.tmp 1))] [16]) (.cond (.tmp 16) (.seq (.ops [O1 4 (.mov (.const (.string ⟨#[115,108,105,112,32,35,32,119,105,116,104,32,121,97,114,110,32,105,110,32,102,114,111,110,116]⟩))),O1 5 (.mov (.const (.bool true)))] [4,5]) (.ret)) (.skip))) (.seq (.ops [O1 4 (.mov (.const (.string ⟨#[115,108,105,112,32,35]⟩))),O1 5 (.mov (.const (.bool true)))] [4,5]) (.ret))) (.seq (.ops [O1 18 (.bin .eql (.tmp 8) (.const (.int .u8 2))),O1 17 (.mov (.tmp 18))] [1,6,8,17]) (.cond (.tmp 17) (.seq (.ops [O1 4 (.mov (.const (.string ⟨#[121,97,114,110,32,111,118,101,114]⟩))),O1 5 (.mov (.const (.bool false)))] [4,5]) (.ret)) (.seq (.ops [O1 20 (.bin .eql (.tmp 8) (.const (.int .u8 3))),O1 19 (.mov (.tmp 20))] [1,6,8,19]) (.cond (.tmp 19) (.seq (.ops [O1 21 (.mov (.tmp 1)),O1 22 (.callF 82 [.tmp 21]),O1 23 (.bin .add (.tmp 22) (.const (.string ⟨#[32,35,32,116,111,103,101,116,104,101,114,32,40,102,105,114,115,116,32,111,110,32,116,111,112,41]⟩))),O1 4 (.mov (.tmp 23)),O1 5 (.mov (.const (.bool false)))] [4,5]) (.ret)) (.seq (.ops [O1 25 (.bin .eql (.tmp 8) (.const (.int .u8 4))),O1 24 (.mov (.tmp 25))] [1,6,8,24]) (.cond (.tmp 24) (.seq (.ops [O1 26 (.mov (.tmp 1)),O1 27 (.callF 82 [.tmp 26]),O1 28 (.bin .add (.tmp 27) (.const (.string ⟨#[32,35,32,116,111,103,101,116,104,101,114]⟩))),O1 4 (.mov (.tmp 28)),O1 5 (.mov (.const (.bool false)))] [4,5]) (.ret)) (.seq (.ops [O1 30 (.bin .eql (.tmp 8) (.const (.int .u8 5))),O1 29 (.mov (.tmp 30))] [6,8,29]) (.cond (.tmp 29) (.seq (.ops [O1 31 (.mov (.tmp 6)),O1 32 (.bin .add (.const (.string ⟨#[109,97,107,101,32,35,32,111,117,116,32,111,102,32,49]⟩)) (.tmp 31)),O1 4 (.mov (.tmp 32)),O1 5 (.mov (.const (.bool false)))] [4,5]) (.ret)) (.seq (.ops [O1 34 (.bin .eql (.tmp 8) (.const (.int .u8 6))),O1 33 (.mov (.tmp 34))] [6,8,33]) (.cond (.tmp 33) (.seq (.ops [O1 35 (.mov (.tmp 6)),O1 36 (.bin .add (.const (.string ⟨#[99,114,111,115,115,32,35,32,105,110,32,102,114,111,110,116,32,111,102,32,35]⟩)) (.tmp 35)),O1 4 (.mov (.tmp 36)),O1 5 (.mov (.const (.bool false)))] [4,5]) (.ret)) (.seq (.ops [O1 38 (.bin .eql (.tmp 8) (.const (.int .u8 7))),O1 37 (.mov (.tmp 38))] [6,8,37]) (.cond (.tmp 37) (.seq (.ops [O1 39 (.mov (.tmp 6)),
  O1 40 (.bin .add (.const (.string ⟨#[99,114,111,115,115,32,35,32,98,101,104,105,110,100,32,35]⟩)) (.tmp 39)),O1 4 (.mov (.tmp 40)),O1 5 (.mov (.const (.bool false)))] [4,5]) (.ret)) (.seq (.ops [O1 42 (.bin .eql (.tmp 8) (.const (.int .u8 9))),O1 41 (.mov (.tmp 42))] [6,41]) (.cond (.tmp 41) (.seq (.ops [O1 4 (.mov (.const (.string ⟨#[99,97,115,116,32,111,110,32,35]⟩))),O1 5 (.mov (.const (.bool false)))] [4,5]) (.ret)) (.skip))))))))))))))))))))) (.seq (.ops [O1 43 (.mov (.tmp 6)),O1 44 (.bin .add (.const (.string ⟨#[98,105,110,100,32,111,102,102,32,35]⟩)) (.tmp 43)),O1 4 (.mov (.tmp 44)),O1 5 (.mov (.const (.bool false)))] [4,5]) (.ret))))),45,[(4,none),(5,none)],true⟩
theorem ok57:FunOK Tryd.prog 57 c57:= .code ⟨Tryd.f57,_,c57.code,Tryd.func57,rfl,by kernel_rfl,rfl,by kernel_rfl,by kernel_rfl⟩
/- raddle/words.number -/
def c58l0:AC:= .seq (.seq (.ops [O1 6 (.mov (.tmp 5)),O1 7 (.mov (.tmp 0)),O1 8 (.len true (.tmp 7)),O1 9 (.bin .lss (.tmp 6) (.tmp 8)),O1 10 (.mov (.tmp 9)),⟨some 11,some (10,true),.mov (.tmp 5)⟩,⟨some 12,some (10,true),.bin .lss (.tmp 11) (.const (.int .i64 4))⟩,O1 13 (.pick (.tmp 10) (.tmp 12) (.const (.bool false))),O1 14 (.mov (.tmp 13)),⟨some 15,some (14,true),.mov (.tmp 0)⟩,⟨some 16,some (14,true),.mov (.tmp 5)⟩,⟨some 17,some (14,true),.idxStr (.tmp 15) (.tmp 16)⟩,⟨some 18,some (14,true),.bin .geq (.tmp 17) (.const (.int .u8 48))⟩,O1 19 (.pick (.tmp 14) (.tmp 18) (.const (.bool false))),O1 20 (.mov (.tmp 19)),⟨some 21,some (20,true),.mov (.tmp 0)⟩,⟨some 22,some (20,true),.mov (.tmp 5)⟩,⟨some 23,some (20,true),.idxStr (.tmp 21) (.tmp 22)⟩,⟨some 24,some (20,true),.bin .leq (.tmp 23) (.const (.int .u8 57))⟩,O1 25 (.pick (.tmp 20) (.tmp 24) (.const (.bool false)))] [0,2,5,25]) (.cond (.tmp 25) (.skip) (.exit 0))) (.block 1 (.seq (.ops [O1 26 (.mov (.tmp 2)),O1 27 (.bin .mul (.const (.int .i64 10)) (.tmp 26)),O1 28 (.mov (.tmp 0)),O1 29 (.mov (.tmp 5)),O1 30 (.idxStr (.tmp 28) (.tmp 29)),O1 31 (.bin .sub (.tmp 30) (.const (.int .u8 48))),O1 32 (.convI .i64 (.tmp 31)),O1 33 (.bin .add (.tmp 27) (.tmp 32)),O1 2 (.mov (.tmp 33))] [0,2,5]) (.ops [O1 34 (.mov (.tmp 5)),O1 35 (.bin .add (.tmp 34) (.const (.int .i64 1))),O1 5 (.mov (.tmp 35))] [0,2,5])))
def c58:AFun:=⟨.seq (.ops [O1 2 (.mov (.const (.int .i64 0))),O1 3 (.mov (.const (.string ⟨#[]⟩))),O1 4 (.mov (.const (.bool false)))] [0,2]) (.seq (.ops [O1 5 (.mov (.const (.int .i64 0)))] [0,2,5]) (.seq (.block 0 (.loop [0,2,5] c58l0)) (.seq (.draw [O1 36 (.mov (.tmp 2)),O1 37 (.mov (.tmp 0)),O1 38 (.mov (.tmp 5)),O1 39 (.slcS (.tmp 37) (some (.tmp 38)) none),O1 40 (.mov (.tmp 5)),O1 41 (.bin .gtr (.tmp 40) (.const (.int .i64 0))),O1 2 (.mov (.tmp 36)),O1 3 (.mov (.tmp 39))] [O1 4 (.mov (.tmp 41))] [[],[],[],[],[],[],[],[]] [2,3,4]) (.ret)))),42,[(2,none),(3,none),(4,none)],true⟩
theorem ok58:FunOK Tryd.prog 58 c58:= .code ⟨Tryd.f58,_,c58.code,Tryd.func58,rfl,by kernel_rfl,rfl,by kernel_rfl,by kernel_rfl⟩
/- strings.TrimPrefix -/
def c59:AFun:=⟨.seq (.ops [O1 4 (.mov (.const (.string ⟨#[]⟩)))] [0,1]) (.seq (.ops [O1 5 (.mov (.tmp 0)),O1 6 (.mov (.tmp 1)),O1 7 (.callF 83 [(.tmp 5),(.tmp 6)]),O1 4 (.mov (.tmp 7))] [4]) (.ret)),8,[(4,none)],true⟩
theorem ok59:FunOK Tryd.prog 59 c59:= .code ⟨Tryd.f59,_,c59.code,Tryd.func59,rfl,by kernel_rfl,rfl,by kernel_rfl,by kernel_rfl⟩
/- raddle/raddleref41.numbers -/
def c60l0:AC:= .seq (.seq (.ops [O1 10 (.mov (.tmp 5)),O1 11 (.mov (.tmp 4)),O1 12 (.len false (.tmp 11)),O1 13 (.bin .lss (.tmp 10) (.tmp 12))] [3,4,5,13]) (.cond (.tmp 13) (.skip) (.exit 0))) (.seq (.block 1 (.seq (.ops [O1 17 (.mov (.tmp 4)),O1 18 (.mov (.tmp 5)),O1 19 (.idxS 1 (.tmp 17) (.tmp 18)),O1 20 (.load none (.tmp 19)),O1 21 (.callF 85 [.tmp 20]),O1 16 (.mov (.tmp 21)),O1 22 (.ext (.tmp 16) 0),O1 23 (.ext (.tmp 16) 1),O1 6 (.mov (.tmp 22)),O1 7 (.mov (.tmp 23))] [3,4,5,6,7]) (.seq (.ops [O1 24 (.mov (.tmp 7))] [3,4,5,6,24]) (.cond (.tmp 24) (.ops [O1 25 (.mov (.tmp 3)),O1 26 (.mov (.tmp 6)),O1 27 (.mkRow 3 1 1 [(.int .i64 0)] [(0,1,(.tmp 26))]),O1 28 (.app 3 1 8 (.tmp 25) (.tmp 27)),O1 3 (.mov (.tmp 28))] [3,4,5]) (.skip))))) (.ops [O1 14 (.mov (.tmp 5)),O1 15 (.bin .add (.tmp 14) (.const (.int .i64 1))),O1 5 (.mov (.tmp 15))] [3,4,5]))
def c60:AFun:=⟨.seq (.ops [O1 2 (.mov (.const (.slice none 0 0)))] [0]) (.seq (.ops [O1 3 (.mov (.const (.slice none 0 0)))] [0,3]) (.seq (.ops [O1 8 (.mov (.tmp 0)),O1 9 (.callF 84 [(.tmp 8),(.const (.int .u8 32))]),O1 4 (.mov (.tmp 9))] [3,4]) (.seq (.seq (.ops [O1 5 (.mov (.const (.int .i64 0)))] [3,4,5]) (.block 0 (.loop [3,4,5] c60l0))) (.seq (.ops [O1 29 (.mov (.tmp 3)),O1 2 (.mov (.tmp 29))] [2]) (.ret))))),30,[(2,none)],true⟩
theorem ok60:FunOK Tryd.prog 60 c60:= .code ⟨Tryd.f60,_,c60.code,Tryd.func60,rfl,by kernel_rfl,rfl,by kernel_rfl,by kernel_rfl⟩
/- raddle/raddleref41.kinds -/
def c61:AFun:=⟨.seq (.ops [O1 0 (.mov (.const (.slice none 0 0)))] []) (.seq (.ops [O1 1 (.mkRow 5 1 10 [(.int .u8 0)] [(0,1,(.const (.int .u8 1))),(1,1,(.const (.int .u8 2))),(2,1,(.const (.int .u8 3))),(3,1,(.const (.int .u8 4))),(4,1,(.const (.int .u8 5))),(5,1,(.const (.int .u8 6))),(6,1,(.const (.int .u8 7))),(7,1,(.const (.int .u8 8))),(8,1,(.const (.int .u8 9))),(9,1,(.const (.int .u8 10)))]),O1 0 (.mov (.tmp 1))] [0]) (.ret)),2,[(0,none)],true⟩
theorem ok61:FunOK Tryd.prog 61 c61:= .code ⟨Tryd.f61,_,c61.code,Tryd.func61,rfl,by kernel_rfl,rfl,by kernel_rfl,by kernel_rfl⟩
/- raddle/raddleref41.tried -/
def c62:AFun:=⟨.seq (.ops [O1 6 (.alloc 48 [(1,(.int .u8 0)),(1,(.bool false)),(2,(.int .i64 0))]),O1 7 (.mov (.const (.int .i64 0)))] [0,1,2,6]) (.seq (.ops [O1 11 (.mov (.tmp 0)),O1 12 (.mov (.tmp 1)),O1 13 (.build [(.int .u8 0),(.bool false),(.int .i64 0),(.int .i64 0)] [(0,1,(.tmp 11)),(1,1,(.tmp 12))]),O1 8 (.alloc 48 [(1,(.int .u8 0)),(1,(.bool false)),(2,(.int .i64 0))]),⟨none,none,.store 4 (.tmp 8) (.tmp 13)⟩,O1 9 (.mov (.const (.int .i64 1)))] [0,2,6,8,9]) (.seq (.ops [O1 10 (.mov (.const (.int .i64 0)))] [0,2,6,8,9,10]) (.seq (.seq (.ops [O1 14 (.mov (.tmp 0)),O1 15 (.bin .eql (.tmp 14) (.const (.int .u8 1))),O1 16 (.mov (.tmp 15)),⟨some 17,some (16,false),.mov (.tmp 0)⟩,⟨some 18,some (16,false),.bin .eql (.tmp 17) (.const (.int .u8 8))⟩,O1 19 (.pick (.tmp 16) (.const (.bool true)) (.tmp 18))] [0,2,6,8,9,10,19]) (.cond (.tmp 19) (.seq (.seq (.ops [O1 20 (.mov (.tmp 2)),O1 21 (.len false (.tmp 20)),O1 22 (.bin .eql (.tmp 21) (.const (.int .i64 0)))] [2,6,8,22]) (.cond (.tmp 22) (.seq (.ops [O1 23 (.load (some 4) (.tmp 8)),⟨none,none,.store 4 (.tmp 6) (.tmp 23)⟩,O1 7 (.mov (.const (.int .i64 0)))] [6,7]) (.ret)) (.skip))) (.seq (.drawW [⟨O1 24 (.load (some 4) (.tmp 8)),[],none⟩,⟨O1 25 (.mov (.tmp 2)),[0],none⟩,⟨O1 26 (.idxS 1 (.tmp 25) (.const (.int .i64 0))),[0],none⟩,⟨O1 27 (.load none (.tmp 26)),[0],none⟩,⟨⟨none,none,.store 4 (.tmp 6) (.tmp 24)⟩,[1,2,3],none⟩] [O1 7 (.mov (.tmp 27))] [6,7]) (.ret))) (.skip))) (.seq (.seq (.ops [O1 28 (.mov (.tmp 0)),O1 29 (.bin .neq (.tmp 28) (.const (.int .u8 2)))] [0,2,6,8,9,10,29]) (.cond (.tmp 29) (.seq (.seq (.ops [O1 30 (.mov (.tmp 2)),O1 31 (.len false (.tmp 30)),O1 32 (.bin .eql (.tmp 31) (.const (.int .i64 0)))] [0,2,6,8,9,32]) (.cond (.tmp 32) (.seq (.ops [O1 33 (.load (some 4) (.tmp 8)),⟨none,none,.store 4 (.tmp 6) (.tmp 33)⟩,O1 7 (.mov (.const (.int .i64 0)))] [6,7]) (.ret)) (.skip))) (.seq (.ops [O1 34 (.mov (.tmp 2)),O1 35 (.idxS 1 (.tmp 34) (.const (.int .i64 0))),O1 36 (.load none (.tmp 35)),O1 37 (.fldA 2 (.tmp 8)),⟨none,none,.store 1 (.tmp 37) (.tmp 36)⟩] [0,2,6,8,9]) (.ops [O1 10 (.mov (.const (.int .i64 1)))] [0,2,6,8,9,10]))) (.skip))) (.seq (.seq (.ops [O1 38 (.mov (.tmp 0)),O1 39 (.bin .eql (.tmp 38) (.const (.int .u8 5)))] [0,2,6,8,9,10,39]) (.cond (.tmp 39) (.ops [O1 10 (.mov (.const (.int .i64 2)))] [0,2,6,8,9,10]) (.skip))) (.seq (.seq (.ops [O1 40 (.mov (.tmp 0)),O1 41 (.bin .eql (.tmp 40) (.const (.int .u8 6))),O1 42 (.mov (.tmp 41)),⟨some 43,some (42,false),.mov (.tmp 0)⟩,⟨some 44,some (42,false),.bin .eql (.tmp 43) (.const (.int .u8 7))⟩,O1 45 (.pick (.tmp 42) (.const (.bool true)) (.tmp 44))] [2,6,8,9,10,45]) (.cond (.tmp 45) (.seq (.seq (.ops [O1 46 (.mov (.tmp 2)),O1 47 (.len false (.tmp 46)),O1 48 (.bin .lss (.tmp 47) (.const (.int .i64 2)))] [2,6,8,9,48]) (.cond (.tmp 48) (.seq (.ops [O1 49 (.load (some 4) (.tmp 8)),⟨none,none,.store 4 (.tmp 6) (.tmp 49)⟩,O1 7 (.mov (.const (.int .i64 0)))] [6,7]) (.ret)) (.skip))) (.seq (.ops [O1 50 (.mov (.tmp 2)),O1 51 (.idxS 1 (.tmp 50) (.const (.int .i64 1))),
  O1 52 (.load none (.tmp 51)),O1 53 (.fldA 3 (.tmp 8)),⟨none,none,.store 1 (.tmp 53) (.tmp 52)⟩] [2,6,8,9]) (.ops [O1 10 (.mov (.const (.int .i64 2)))] [2,6,8,9,10]))) (.skip))) (.seq (.seq (.ops [O1 54 (.mov (.tmp 10)),O1 55 (.mov (.tmp 2)),O1 56 (.len false (.tmp 55)),O1 57 (.bin .lss (.tmp 54) (.tmp 56))] [2,6,8,9,10,57]) (.cond (.tmp 57) (.ops [O1 58 (.mov (.tmp 2)),O1 59 (.mov (.tmp 10)),O1 60 (.idxS 1 (.tmp 58) (.tmp 59)),O1 61 (.load none (.tmp 60)),O1 9 (.mov (.tmp 61))] [6,8,9]) (.skip))) (.seq (.ops [O1 62 (.load (some 4) (.tmp 8)),O1 63 (.mov (.tmp 9)),⟨none,none,.store 4 (.tmp 6) (.tmp 62)⟩,O1 7 (.mov (.tmp 63))] [6,7]) (.ret))))))))),64,[(6,(some (some 4))),(7,none)],true⟩
theorem ok62:FunOK Tryd.prog 62 c62:= .code ⟨Tryd.f62,_,c62.code,Tryd.func62,rfl,by kernel_rfl,rfl,by kernel_rfl,by kernel_rfl⟩
/- raddle/raddleref25.Decimal -/
def c64l0:AC:= .seq (.seq (.ops [O1 12 (.mov (.tmp 0)),O1 13 (.bin .gtr (.tmp 12) (.const (.int .i64 0)))] [0,3,13]) (.cond (.tmp 13) (.skip) (.exit 0))) (.seq (.block 1 (.ops [O1 16 (.mov (.tmp 0)),O1 17 (.bin .rem (.tmp 16) (.const (.int .i64 10))),O1 18 (.bin .add (.const (.int .i64 48)) (.tmp 17)),O1 19 (.convI .u8 (.tmp 18)),O1 20 (.mkRow 5 1 1 [(.int .u8 0)] [(0,1,(.tmp 19))]),O1 21 (.b2s (.tmp 20)),O1 22 (.mov (.tmp 3)),O1 23 (.bin .add (.tmp 21) (.tmp 22)),O1 3 (.mov (.tmp 23))] [0,3])) (.ops [O1 14 (.mov (.tmp 0)),O1 15 (.bin .quo (.tmp 14) (.const (.int .i64 10))),O1 0 (.mov (.tmp 15))] [0,3]))
def c64:AFun:=⟨.seq (.ops [O1 2 (.mov (.const (.string ⟨#[]⟩)))] [0]) (.seq (.ops [O1 4 (.mov (.tmp 0)),O1 5 (.bin .rem (.tmp 4) (.const (.int .i64 10))),O1 6 (.bin .add (.const (.int .i64 48)) (.tmp 5)),O1 7 (.convI .u8 (.tmp 6)),O1 8 (.mkRow 5 1 1 [(.int .u8 0)] [(0,1,(.tmp 7))]),O1 9 (.b2s (.tmp 8)),O1 3 (.mov (.tmp 9))] [0,3]) (.seq (.seq (.ops [O1 10 (.mov (.tmp 0)),O1 11 (.bin .quo (.tmp 10) (.const (.int .i64 10))),O1 0 (.mov (.tmp 11))] [0,3]) (.block 0 (.loop [0,3] c64l0))) (.seq (.ops [O1 24 (.mov (.tmp 3)),O1 2 (.mov (.tmp 24))] [2]) (.ret)))),25,[(2,none)],true⟩
theorem ok64:FunOK Tryd.prog 64 c64:= .code ⟨Tryd.f64,_,c64.code,Tryd.func64,rfl,by kernel_rfl,rfl,by kernel_rfl,by kernel_rfl⟩
/- internal/stringslite.CutSuffix -/
def c65:AFun:=⟨.seq (.ops [O1 4 (.mov (.const (.string ⟨#[]⟩))),O1 5 (.mov (.const (.bool false)))] [0,1]) (.seq (.seq (.ops [O1 6 (.mov (.tmp 0)),O1 7 (.mov (.tmp 1)),O1 8 (.callF 87 [(.tmp 6),(.tmp 7)]),O1 9 (.un .not (.tmp 8))] [0,1,9]) (.cond (.tmp 9) (.seq (.ops [O1 10 (.mov (.tmp 0)),O1 4 (.mov (.tmp 10)),O1 5 (.mov (.const (.bool false)))] [4,5]) (.ret)) (.skip))) (.seq (.ops [O1 11 (.mov (.tmp 0)),O1 12 (.mov (.tmp 0)),O1 13 (.len true (.tmp 12)),O1 14 (.mov (.tmp 1)),O1 15 (.len true (.tmp 14)),O1 16 (.bin .sub (.tmp 13) (.tmp 15)),O1 17 (.slcS (.tmp 11) none (some (.tmp 16))),O1 4 (.mov (.tmp 17)),O1 5 (.mov (.const (.bool true)))] [4,5]) (.ret))),18,[(4,none),(5,none)],true⟩
theorem ok65:FunOK Tryd.prog 65 c65:= .code ⟨Tryd.f65,_,c65.code,Tryd.func65,rfl,by kernel_rfl,rfl,by kernel_rfl,by kernel_rfl⟩
/- internal/stringslite.CutPrefix -/
def c66:AFun:=⟨.seq (.ops [O1 4 (.mov (.const (.string ⟨#[]⟩))),O1 5 (.mov (.const (.bool false)))] [0,1]) (.seq (.seq (.ops [O1 6 (.mov (.tmp 0)),O1 7 (.mov (.tmp 1)),O1 8 (.callF 88 [(.tmp 6),(.tmp 7)]),O1 9 (.un .not (.tmp 8))] [0,1,9]) (.cond (.tmp 9) (.seq (.ops [O1 10 (.mov (.tmp 0)),O1 4 (.mov (.tmp 10)),O1 5 (.mov (.const (.bool false)))] [4,5]) (.ret)) (.skip))) (.seq (.ops [O1 11 (.mov (.tmp 0)),O1 12 (.mov (.tmp 1)),O1 13 (.len true (.tmp 12)),O1 14 (.slcS (.tmp 11) (some (.tmp 13)) none),O1 4 (.mov (.tmp 14)),O1 5 (.mov (.const (.bool true)))] [4,5]) (.ret))),15,[(4,none),(5,none)],true⟩
theorem ok66:FunOK Tryd.prog 66 c66:= .code ⟨Tryd.f66,_,c66.code,Tryd.func66,rfl,by kernel_rfl,rfl,by kernel_rfl,by kernel_rfl⟩
/- slices.IndexFunc[[]raddle/api.Stitch,raddle/api.Stitch] -/
def c69l0:AC:= .seq (.ops [O1 9 (.bin .lss (.tmp 8) (.tmp 7))] [0,1,7,8,9]) (.seq (.cond (.tmp 9) (.skip) (.exit 0)) (.seq (.block 1 (.seq (.ops [O1 10 (.mov (.tmp 8)),O1 5 (.mov (.tmp 10))] [0,1,5,7,8]) (.seq (.ops [O1 11 (.mov (.tmp 1)),O1 12 (.mov (.tmp 0)),O1 13 (.mov (.tmp 5)),O1 14 (.idxS 4 (.tmp 12) (.tmp 13)),O1 15 (.load (some 4) (.tmp 14)),O1 16 (.callV (.tmp 11) [.tmp 15])] [0,1,5,7,8,16]) (.cond (.tmp 16) (.seq (.ops [O1 17 (.mov (.tmp 5)),O1 4 (.mov (.tmp 17))] [4]) (.ret)) (.skip))))) (.ops [O1 18 (.bin .add (.tmp 8) (.const (.int .i64 1))),O1 8 (.mov (.tmp 18))] [0,1,7,8])))
def c69:AFun:=⟨.seq (.ops [O1 4 (.mov (.const (.int .i64 0)))] [0,1]) (.seq (.seq (.ops [O1 6 (.mov (.tmp 0)),O1 7 (.len false (.tmp 6)),O1 8 (.mov (.const (.int .i64 0)))] [0,1,7,8]) (.block 0 (.loop [0,1,7,8] c69l0))) (.seq (.ops [O1 4 (.mov (.const (.int .i64 (-1))))] [4]) (.ret))),19,[(4,none)],true⟩
theorem ok69:FunOK Tryd.prog 69 c69:= .code ⟨Tryd.f69,_,c69.code,Tryd.func69,rfl,by kernel_rfl,rfl,by kernel_rfl,by kernel_rfl⟩
/- raddle/stitch.forms -/
def c70:AFun:=⟨.seq (.ops [O1 2 (.alloc 110 [(1,(.string ⟨#[]⟩)),(4,(.int .i64 0)),(1,(.bool false)),(2,(.int .i64 0))]),O1 3 (.mov (.const (.bool false)))] [0,2]) (.seq (.ops [O1 8 (.build [(.int .i64 0),(.int .i64 0)] [(0,1,(.const (.int .i64 2))),(1,1,(.const (.int .i64 4)))]),O1 9 (.build [(.int .i64 0),(.int .i64 0)] [(0,1,(.const (.int .i64 1))),(1,1,(.const (.int .i64 6)))]),O1 4 (.alloc 108 [(2,(.int .i64 0))]),O1 5 (.alloc 108 [(2,(.int .i64 0))]),⟨none,none,.store 2 (.tmp 4) (.tmp 8)⟩,⟨none,none,.store 2 (.tmp 5) (.tmp 9)⟩] [0,2,4,5]) (.seq (.ops [O1 10 (.build [(.int .i64 0),(.int .i64 0)] [(0,1,(.const (.int .i64 1))),(1,1,(.const (.int .i64 200)))]),O1 6 (.alloc 108 [(2,(.int .i64 0))]),⟨none,none,.store 2 (.tmp 6) (.tmp 10)⟩] [0,2,4,5,6]) (.seq (.ops [O1 11 (.build [(.int .i64 0),(.int .i64 0)] []),O1 12 (.build [(.int .i64 0),(.int .i64 0)] []),O1 13 (.build [(.string ⟨#[]⟩),(.int .i64 0),(.int .i64 0),(.int .i64 0),(.int .i64 0),(.bool false),(.int .i64 0),(.int .i64 0)] [(0,1,(.const (.string ⟨#[]⟩))),(1,2,(.tmp 11)),(3,2,(.tmp 12)),(5,1,(.const (.bool true))),(6,1,(.const (.int .i64 1))),(7,1,(.const (.int .i64 1)))]),O1 14 (.build [(.int .i64 0),(.int .i64 0)] []),O1 15 (.build [(.int .i64 0),(.int .i64 0)] []),O1 16 (.build [(.string ⟨#[]⟩),(.int .i64 0),(.int .i64 0),(.int .i64 0),(.int .i64 0),(.bool false),(.int .i64 0),(.int .i64 0)] [(0,1,(.const (.string ⟨#[]⟩))),(1,2,(.tmp 14)),(3,2,(.tmp 15)),(5,1,(.const (.bool false))),(6,1,(.const (.int .i64 0))),(7,1,(.const (.int .i64 1)))]),O1 17 (.load (some 2) (.tmp 4)),O1 18 (.build [(.int .i64 0),(.int .i64 0)] []),O1 19 (.build [(.string ⟨#[]⟩),(.int .i64 0),(.int .i64 0),(.int .i64 0),(.int .i64 0),(.bool false),(.int .i64 0),(.int .i64 0)] [(0,1,(.const (.string ⟨#[102]⟩))),(1,2,(.tmp 17)),(3,2,(.tmp 18)),(5,1,(.const (.bool true))),(6,1,(.const (.int .i64 2))),(7,1,(.const (.int .i64 1)))]),O1 20 (.load (some 2) (.tmp 4)),O1 21 (.build [(.int .i64 0),(.int .i64 0)] []),O1 22 (.build [(.string ⟨#[]⟩),(.int .i64 0),(.int .i64 0),(.int .i64 0),(.int .i64 0),(.bool false),(.int .i64 0),(.int .i64 0)] [(0,1,(.const (.string ⟨#[108]⟩))),(1,2,(.tmp 20)),(3,2,(.tmp 21)),(5,1,(.const (.bool true))),(6,1,(.const (.int .i64 2))),(7,1,(.const (.int .i64 1)))]),O1 23 (.load (some 2) (.tmp 4)),O1 24 (.build [(.int .i64 0),(.int .i64 0)] []),O1 25 (.build [(.string ⟨#[]⟩),(.int .i64 0),(.int .i64 0),(.int .i64 0),(.int .i64 0),(.bool false),(.int .i64 0),(.int .i64 0)] [(0,1,(.const (.string ⟨#[109]⟩))),(1,2,(.tmp 23)),(3,2,(.tmp 24)),(5,1,(.const (.bool true))),(6,1,(.const (.int .i64 1))),(7,1,(.const (.int .i64 2)))]),O1 26 (.load (some 2) (.tmp 5)),O1 27 (.load (some 2) (.tmp 5)),O1 28 (.build [(.string ⟨#[]⟩),(.int .i64 0),(.int .i64 0),(.int .i64 0),(.int .i64 0),(.bool false),(.int .i64 0),(.int .i64 0)] [(0,1,(.const (.string ⟨#[120]⟩))),(1,2,(.tmp 26)),(3,2,(.tmp 27)),(5,1,(.const (.bool true))),(6,1,(.const (.int .i64 3))),(7,1,(.const (.int .i64 3)))]),O1 29 (.load (some 2) (.tmp 5)),
  O1 30 (.load (some 2) (.tmp 5)),O1 31 (.build [(.string ⟨#[]⟩),(.int .i64 0),(.int .i64 0),(.int .i64 0),(.int .i64 0),(.bool false),(.int .i64 0),(.int .i64 0)] [(0,1,(.const (.string ⟨#[121]⟩))),(1,2,(.tmp 29)),(3,2,(.tmp 30)),(5,1,(.const (.bool true))),(6,1,(.const (.int .i64 3))),(7,1,(.const (.int .i64 3)))]),O1 32 (.build [(.int .i64 0),(.int .i64 0)] []),O1 33 (.build [(.int .i64 0),(.int .i64 0)] []),O1 34 (.build [(.string ⟨#[]⟩),(.int .i64 0),(.int .i64 0),(.int .i64 0),(.int .i64 0),(.bool false),(.int .i64 0),(.int .i64 0)] [(0,1,(.const (.string ⟨#[115]⟩))),(1,2,(.tmp 32)),(3,2,(.tmp 33)),(5,1,(.const (.bool true))),(6,1,(.const (.int .i64 1))),(7,1,(.const (.int .i64 1)))]),O1 35 (.load (some 2) (.tmp 6)),O1 36 (.build [(.int .i64 0),(.int .i64 0)] []),O1 37 (.build [(.string ⟨#[]⟩),(.int .i64 0),(.int .i64 0),(.int .i64 0),(.int .i64 0),(.bool false),(.int .i64 0),(.int .i64 0)] [(0,1,(.const (.string ⟨#[]⟩))),(1,2,(.tmp 35)),(3,2,(.tmp 36)),(5,1,(.const (.bool false))),(6,1,(.const (.int .i64 0))),(7,1,(.const (.int .i64 2)))]),O1 38 (.load (some 2) (.tmp 6)),O1 39 (.build [(.int .i64 0),(.int .i64 0)] []),O1 40 (.build [(.string ⟨#[]⟩),(.int .i64 0),(.int .i64 0),(.int .i64 0),(.int .i64 0),(.bool false),(.int .i64 0),(.int .i64 0)] [(0,1,(.const (.string ⟨#[111]⟩))),(1,2,(.tmp 38)),(3,2,(.tmp 39)),(5,1,(.const (.bool true))),(6,1,(.const (.int .i64 2))),(7,1,(.const (.int .i64 0)))]),O1 41 (.mkRow 110 8 10 [(.string ⟨#[]⟩),(.int .i64 0),(.int .i64 0),(.int .i64 0),(.int .i64 0),(.bool false),(.int .i64 0),(.int .i64 0)] [(0,8,(.tmp 13)),(8,8,(.tmp 16)),(16,8,(.tmp 19)),(24,8,(.tmp 22)),(32,8,(.tmp 25)),(40,8,(.tmp 28)),(48,8,(.tmp 31)),(56,8,(.tmp 34)),(64,8,(.tmp 37)),(72,8,(.tmp 40))]),O1 7 (.mov (.tmp 41))] [0,2,7]) (.seq (.seq (.ops [O1 42 (.mov (.tmp 0)),O1 43 (.bin .lss (.tmp 42) (.const (.int .u8 1))),O1 44 (.mov (.tmp 43)),⟨some 45,some (44,false),.mov (.tmp 0)⟩,⟨some 46,some (44,false),.convI .i64 (.tmp 45)⟩,⟨some 47,some (44,false),.mov (.tmp 7)⟩,⟨some 48,some (44,false),.len false (.tmp 47)⟩,⟨some 49,some (44,false),.bin .gtr (.tmp 46) (.tmp 48)⟩,O1 50 (.pick (.tmp 44) (.const (.bool true)) (.tmp 49))] [0,2,7,50]) (.cond (.tmp 50) (.seq (.ops [O1 51 (.build [(.string ⟨#[]⟩),(.int .i64 0),(.int .i64 0),(.int .i64 0),(.int .i64 0),(.bool false),(.int .i64 0),(.int .i64 0)] []),⟨none,none,.store 8 (.tmp 2) (.tmp 51)⟩,O1 3 (.mov (.const (.bool false)))] [2,3]) (.ret)) (.skip))) (.seq (.ops [O1 52 (.mov (.tmp 7)),O1 53 (.mov (.tmp 0)),O1 54 (.bin .sub (.tmp 53) (.const (.int .u8 1))),O1 55 (.idxS 8 (.tmp 52) (.tmp 54)),O1 56 (.load (some 8) (.tmp 55)),⟨none,none,.store 8 (.tmp 2) (.tmp 56)⟩,O1 3 (.mov (.const (.bool true)))] [2,3]) (.ret)))))),57,[(2,(some (some 8))),(3,none)],true⟩
theorem ok70:FunOK Tryd.prog 70 c70:= .code ⟨Tryd.f70,_,c70.code,Tryd.func70,rfl,by kernel_rfl,rfl,by kernel_rfl,by kernel_rfl⟩
/- raddle/stitch.within -/
def c71:AFun:=⟨.seq (.ops [O1 3 (.box 108 (.tmp 1)),O1 4 (.mov (.const (.bool false)))] [0,3]) (.seq (.ops [O1 5 (.mov (.tmp 0)),O1 6 (.idxA 2 1 (.tmp 3) (.const (.int .i64 0))),O1 7 (.load none (.tmp 6)),O1 8 (.bin .geq (.tmp 5) (.tmp 7)),O1 9 (.mov (.tmp 8)),⟨some 10,some (9,true),.mov (.tmp 0)⟩,⟨some 11,some (9,true),.idxA 2 1 (.tmp 3) (.const (.int .i64 1))⟩,⟨some 12,some (9,true),.load none (.tmp 11)⟩,⟨some 13,some (9,true),.bin .leq (.tmp 10) (.tmp 12)⟩,O1 14 (.pick (.tmp 9) (.tmp 13) (.const (.bool false))),O1 4 (.mov (.tmp 14))] [4]) (.ret)),15,[(4,none)],true⟩
theorem ok71:FunOK Tryd.prog 71 c71:= .code ⟨Tryd.f71,_,c71.code,Tryd.func71,rfl,by kernel_rfl,rfl,by kernel_rfl,by kernel_rfl⟩
/- raddle/stitch.loops -/
def c72:AFun:=⟨.seq (.ops [O1 2 (.box 48 (.tmp 0)),O1 4 (.mov (.const (.int .i64 0)))] [1,2]) (.seq (.ops [O1 5 (.fldA 2 (.tmp 2)),O1 6 (.load none (.tmp 5)),O1 7 (.fldA 2 (.tmp 2)),O1 8 (.load none (.tmp 7)),O1 9 (.fldA 3 (.tmp 2)),O1 10 (.load none (.tmp 9)),O1 11 (.bin .add (.tmp 8) (.tmp 10)),O1 12 (.build [(.int .i64 0),(.int .i64 0),(.int .i64 0),(.int .i64 0)] [(0,1,(.const (.int .i64 0))),(1,1,(.const (.int .i64 1))),(2,1,(.tmp 6)),(3,1,(.tmp 11))]),O1 13 (.mov (.tmp 1)),O1 14 (.idxV 4 1 none (.tmp 12) (.tmp 13)),O1 4 (.mov (.tmp 14))] [4]) (.ret)),15,[(4,none)],true⟩
theorem ok72:FunOK Tryd.prog 72 c72:= .code ⟨Tryd.f72,_,c72.code,Tryd.func72,rfl,by kernel_rfl,rfl,by kernel_rfl,by kernel_rfl⟩
/- raddle/raddleref25.Used -/
def c75:AFun:=⟨.seq (.ops [O1 1 (.box 48 (.tmp 0)),O1 2 (.mov (.const (.int .i64 0)))] [1]) (.seq (.seq (.ops [O1 3 (.fldA 0 (.tmp 1)),O1 4 (.load none (.tmp 3))] [1,4]) (.block 0 (.seq (.seq (.ops [O1 6 (.bin .eql (.tmp 4) (.const (.int .u8 2))),O1 5 (.mov (.tmp 6))] [1,4,5]) (.cond (.tmp 5) (.skip) (.ops [O1 7 (.bin .eql (.tmp 4) (.const (.int .u8 9))),O1 5 (.mov (.tmp 7))] [1,4,5]))) (.cond (.tmp 5) (.seq (.ops [O1 2 (.mov (.const (.int .i64 0)))] [2]) (.ret)) (.seq (.seq (.ops [O1 9 (.bin .eql (.tmp 4) (.const (.int .u8 3))),O1 8 (.mov (.tmp 9))] [1,4,8]) (.cond (.tmp 8) (.skip) (.seq (.ops [O1 10 (.bin .eql (.tmp 4) (.const (.int .u8 4))),O1 8 (.mov (.tmp 10))] [1,4,8]) (.cond (.tmp 8) (.skip) (.ops [O1 11 (.bin .eql (.tmp 4) (.const (.int .u8 10))),O1 8 (.mov (.tmp 11))] [1,4,8]))))) (.cond (.tmp 8) (.seq (.ops [O1 12 (.fldA 2 (.tmp 1)),O1 13 (.load none (.tmp 12)),O1 2 (.mov (.tmp 13))] [2]) (.ret)) (.seq (.seq (.ops [O1 15 (.bin .eql (.tmp 4) (.const (.int .u8 6))),O1 14 (.mov (.tmp 15))] [1,4,14]) (.cond (.tmp 14) (.skip) (.ops [O1 16 (.bin .eql (.tmp 4) (.const (.int .u8 7))),O1 14 (.mov (.tmp 16))] [1,14]))) (.cond (.tmp 14) (.seq (.ops [O1 17 (.fldA 2 (.tmp 1)),O1 18 (.load none (.tmp 17)),O1 19 (.fldA 3 (.tmp 1)),O1 20 (.load none (.tmp 19)),O1 21 (.bin .add (.tmp 18) (.tmp 20)),O1 2 (.mov (.tmp 21))] [2]) (.ret)) (.skip))))))))) (.seq (.ops [O1 2 (.mov (.const (.int .i64 1)))] [2]) (.ret))),22,[(2,none)],true⟩
theorem ok75:FunOK Tryd.prog 75 c75:= .code ⟨Tryd.f75,_,c75.code,Tryd.func75,rfl,by kernel_rfl,rfl,by kernel_rfl,by kernel_rfl⟩
/- raddle/raddleref25.Gives -/
def c76:AFun:=⟨.seq (.ops [O1 1 (.box 48 (.tmp 0)),O1 2 (.mov (.const (.int .i64 0)))] [1]) (.seq (.seq (.ops [O1 3 (.fldA 0 (.tmp 1)),O1 4 (.load none (.tmp 3))] [1,4]) (.block 0 (.seq (.ops [O1 6 (.bin .eql (.tmp 4) (.const (.int .u8 10))),O1 5 (.mov (.tmp 6))] [1,4,5]) (.cond (.tmp 5) (.seq (.ops [O1 2 (.mov (.const (.int .i64 0)))] [2]) (.ret)) (.seq (.seq (.ops [O1 8 (.bin .eql (.tmp 4) (.const (.int .u8 5))),O1 7 (.mov (.tmp 8))] [1,4,7]) (.cond (.tmp 7) (.skip) (.ops [O1 9 (.bin .eql (.tmp 4) (.const (.int .u8 9))),O1 7 (.mov (.tmp 9))] [1,4,7]))) (.cond (.tmp 7) (.seq (.ops [O1 10 (.fldA 2 (.tmp 1)),O1 11 (.load none (.tmp 10)),O1 2 (.mov (.tmp 11))] [2]) (.ret)) (.seq (.seq (.ops [O1 13 (.bin .eql (.tmp 4) (.const (.int .u8 6))),O1 12 (.mov (.tmp 13))] [1,4,12]) (.cond (.tmp 12) (.skip) (.ops [O1 14 (.bin .eql (.tmp 4) (.const (.int .u8 7))),O1 12 (.mov (.tmp 14))] [1,12]))) (.cond (.tmp 12) (.seq (.ops [O1 15 (.fldA 2 (.tmp 1)),O1 16 (.load none (.tmp 15)),O1 17 (.fldA 3 (.tmp 1)),O1 18 (.load none (.tmp 17)),O1 19 (.bin .add (.tmp 16) (.tmp 18)),O1 2 (.mov (.tmp 19))] [2]) (.ret)) (.skip))))))))) (.seq (.ops [O1 2 (.mov (.const (.int .i64 1)))] [2]) (.ret))),20,[(2,none)],true⟩
theorem ok76:FunOK Tryd.prog 76 c76:= .code ⟨Tryd.f76,_,c76.code,Tryd.func76,rfl,by kernel_rfl,rfl,by kernel_rfl,by kernel_rfl⟩
/- raddle/raddleref41.side -/
def c77:AFun:=⟨.seq (.ops [O1 1 (.box 48 (.tmp 0)),O1 2 (.mov (.const (.string ⟨#[]⟩)))] [1]) (.seq (.seq (.ops [O1 3 (.fldA 1 (.tmp 1)),O1 4 (.load none (.tmp 3))] [4]) (.cond (.tmp 4) (.seq (.ops [O1 2 (.mov (.const (.string ⟨#[112,117,114,108]⟩)))] [2]) (.ret)) (.skip))) (.seq (.ops [O1 2 (.mov (.const (.string ⟨#[107,110,105,116]⟩)))] [2]) (.ret))),5,[(2,none)],true⟩
theorem ok77:FunOK Tryd.prog 77 c77:= .code ⟨Tryd.f77,_,c77.code,Tryd.func77,rfl,by kernel_rfl,rfl,by kernel_rfl,by kernel_rfl⟩
/- raddle/raddleref41.base -/
def c78:AFun:=⟨.seq (.ops [O1 1 (.box 48 (.tmp 0)),O1 2 (.mov (.const (.string ⟨#[]⟩)))] [1]) (.seq (.draw [O1 5 (.fldA 2 (.tmp 1)),O1 6 (.load none (.tmp 5)),O1 7 (.mm true (.tmp 6) (.const (.int .i64 0))),O1 8 (.callF 64 [.tmp 7]),O1 9 (.fldA 3 (.tmp 1)),O1 10 (.load none (.tmp 9)),O1 11 (.mm true (.tmp 10) (.const (.int .i64 0)))] [O1 12 (.callF 64 [.tmp 11]),O1 3 (.mov (.tmp 8)),O1 4 (.mov (.tmp 12))] [[],[],[],[],[false,false,false,false],[true,false,false,false,false],[true,true,false,false,false,false]] [1,3,4]) (.seq (.seq (.ops [O1 13 (.fldA 0 (.tmp 1)),O1 14 (.load none (.tmp 13))] [1,3,4,14]) (.block 0 (.seq (.ops [O1 16 (.bin .eql (.tmp 14) (.const (.int .u8 2))),O1 15 (.mov (.tmp 16))] [1,3,4,14,15]) (.cond (.tmp 15) (.seq (.ops [O1 2 (.mov (.const (.string ⟨#[121,97,114,110,32,111,118,101,114]⟩)))] [2]) (.ret)) (.seq (.ops [O1 18 (.bin .eql (.tmp 14) (.const (.int .u8 3))),O1 17 (.mov (.tmp 18))] [1,3,4,14,17]) (.cond (.tmp 17) (.seq (.ops [O1 19 (.load (some 4) (.tmp 1)),O1 20 (.callF 77 [.tmp 19]),O1 21 (.bin .add (.tmp 20) (.const (.string ⟨#[32]⟩))),O1 22 (.mov (.tmp 3)),O1 23 (.bin .add (.tmp 21) (.tmp 22)),O1 24 (.bin .add (.tmp 23) (.const (.string ⟨#[32,116,111,103,101,116,104,101,114,32,40,102,105,114,115,116,32,111,110,32,116,111,112,41]⟩))),O1 2 (.mov (.tmp 24))] [2]) (.ret)) (.seq (.ops [O1 26 (.bin .eql (.tmp 14) (.const (.int .u8 4))),O1 25 (.mov (.tmp 26))] [1,3,4,14,25]) (.cond (.tmp 25) (.seq (.ops [O1 27 (.load (some 4) (.tmp 1)),O1 28 (.callF 77 [.tmp 27]),O1 29 (.bin .add (.tmp 28) (.const (.string ⟨#[32]⟩))),O1 30 (.mov (.tmp 3)),O1 31 (.bin .add (.tmp 29) (.tmp 30)),O1 32 (.bin .add (.tmp 31) (.const (.string ⟨#[32,116,111,103,101,116,104,101,114]⟩))),O1 2 (.mov (.tmp 32))] [2]) (.ret)) (.seq (.ops [O1 34 (.bin .eql (.tmp 14) (.const (.int .u8 5))),O1 33 (.mov (.tmp 34))] [1,3,4,14,33]) (.cond (.tmp 33) (.seq (.ops [O1 35 (.mov (.tmp 3)),O1 36 (.bin .add (.const (.string ⟨#[109,97,107,101,32]⟩)) (.tmp 35)),O1 37 (.bin .add (.tmp 36) (.const (.string ⟨#[32,111,117,116,32,111,102,32,49]⟩))),O1 38 (.load (some 4) (.tmp 1)),O1 39 (.callF 94 [.tmp 38]),O1 40 (.bin .add (.tmp 37) (.tmp 39)),O1 2 (.mov (.tmp 40))] [2]) (.ret)) (.seq (.ops [O1 42 (.bin .eql (.tmp 14) (.const (.int .u8 6))),O1 41 (.mov (.tmp 42))] [1,3,4,14,41]) (.cond (.tmp 41) (.seq (.ops [O1 43 (.mov (.tmp 3)),O1 44 (.bin .add (.const (.string ⟨#[99,114,111,115,115,32]⟩)) (.tmp 43)),O1 45 (.bin .add (.tmp 44) (.const (.string ⟨#[32,105,110,32,102,114,111,110,116,32,111,102,32]⟩))),O1 46 (.mov (.tmp 4)),O1 47 (.bin .add (.tmp 45) (.tmp 46)),O1 48 (.load (some 4) (.tmp 1)),O1 49 (.callF 94 [.tmp 48]),O1 50 (.bin .add (.tmp 47) (.tmp 49)),O1 2 (.mov (.tmp 50))] [2]) (.ret)) (.seq (.ops [O1 52 (.bin .eql (.tmp 14) (.const (.int .u8 7))),O1 51 (.mov (.tmp 52))] [1,3,4,14,51]) (.cond (.tmp 51) (.seq (.ops [O1 53 (.mov (.tmp 3)),O1 54 (.bin .add (.const (.string ⟨#[99,114,111,115,115,32]⟩)) (.tmp 53)),O1 55 (.bin .add (.tmp 54) (.const (.string ⟨#[32,98,101,104,105,110,100,32]⟩))),
  O1 56 (.mov (.tmp 4)),O1 57 (.bin .add (.tmp 55) (.tmp 56)),O1 58 (.load (some 4) (.tmp 1)),O1 59 (.callF 94 [.tmp 58]),O1 60 (.bin .add (.tmp 57) (.tmp 59)),O1 2 (.mov (.tmp 60))] [2]) (.ret)) (.seq (.ops [O1 62 (.bin .eql (.tmp 14) (.const (.int .u8 9))),O1 61 (.mov (.tmp 62))] [1,3,61]) (.cond (.tmp 61) (.seq (.ops [O1 63 (.mov (.tmp 3)),O1 64 (.bin .add (.const (.string ⟨#[99,97,115,116,32,111,110,32]⟩)) (.tmp 63)),O1 2 (.mov (.tmp 64))] [2]) (.ret)) (.skip))))))))))))))))) (.seq (.ops [O1 65 (.mov (.tmp 3)),O1 66 (.bin .add (.const (.string ⟨#[98,105,110,100,32,111,102,102,32]⟩)) (.tmp 65)),O1 67 (.load (some 4) (.tmp 1)),O1 68 (.callF 94 [.tmp 67]),O1 69 (.bin .add (.tmp 66) (.tmp 68)),O1 2 (.mov (.tmp 69))] [2]) (.ret)))),70,[(2,none)],true⟩
theorem ok78:FunOK Tryd.prog 78 c78:= .code ⟨Tryd.f78,_,c78.code,Tryd.func78,rfl,by kernel_rfl,rfl,by kernel_rfl,by kernel_rfl⟩
/- strings.explode -/
def c79l0:AC:= .seq (.seq (.ops [O1 22 (.mov (.tmp 7)),O1 23 (.mov (.tmp 1)),O1 24 (.bin .sub (.tmp 23) (.const (.int .i64 1))),O1 25 (.bin .lss (.tmp 22) (.tmp 24))] [0,1,6,7,25]) (.cond (.tmp 25) (.skip) (.exit 0))) (.seq (.block 1 (.seq (.ops [O1 29 (.mov (.tmp 0)),O1 30 (.callF 92 [.tmp 29]),O1 28 (.mov (.tmp 30)),O1 31 (.ext (.tmp 28) 0),O1 32 (.ext (.tmp 28) 1),O1 8 (.mov (.tmp 31)),O1 9 (.mov (.tmp 32))] [0,1,6,7,9]) (.seq (.ops [O1 33 (.mov (.tmp 6)),O1 34 (.mov (.tmp 7)),O1 35 (.mov (.tmp 0)),O1 36 (.mov (.tmp 9)),O1 37 (.slcS (.tmp 35) none (some (.tmp 36))),O1 38 (.idxS 1 (.tmp 33) (.tmp 34)),⟨none,none,.store 1 (.tmp 38) (.tmp 37)⟩] [0,1,6,7,9]) (.ops [O1 39 (.mov (.tmp 0)),O1 40 (.mov (.tmp 9)),O1 41 (.slcS (.tmp 39) (some (.tmp 40)) none),O1 0 (.mov (.tmp 41))] [0,1,6,7])))) (.ops [O1 26 (.mov (.tmp 7)),O1 27 (.bin .add (.tmp 26) (.const (.int .i64 1))),O1 7 (.mov (.tmp 27))] [0,1,6,7]))
def c79:AFun:=⟨.seq (.ops [O1 4 (.mov (.const (.slice none 0 0)))] [0,1]) (.seq (.ops [O1 10 (.mov (.tmp 0)),O1 11 (.callF 95 [.tmp 10]),O1 5 (.mov (.tmp 11))] [0,1,5]) (.seq (.seq (.ops [O1 12 (.mov (.tmp 1)),O1 13 (.bin .lss (.tmp 12) (.const (.int .i64 0))),O1 14 (.mov (.tmp 13)),⟨some 15,some (14,false),.mov (.tmp 1)⟩,⟨some 16,some (14,false),.mov (.tmp 5)⟩,⟨some 17,some (14,false),.bin .gtr (.tmp 15) (.tmp 16)⟩,O1 18 (.pick (.tmp 14) (.const (.bool true)) (.tmp 17))] [0,1,5,18]) (.cond (.tmp 18) (.ops [O1 19 (.mov (.tmp 5)),O1 1 (.mov (.tmp 19))] [0,1]) (.skip))) (.seq (.ops [O1 20 (.mov (.tmp 1)),O1 21 (.mkSlice 9 1 16 [(.string ⟨#[]⟩)] (.tmp 20) (.tmp 20)),O1 6 (.mov (.tmp 21))] [0,1,6]) (.seq (.seq (.ops [O1 7 (.mov (.const (.int .i64 0)))] [0,1,6,7]) (.block 0 (.loop [0,1,6,7] c79l0))) (.seq (.seq (.ops [O1 42 (.mov (.tmp 1)),O1 43 (.bin .gtr (.tmp 42) (.const (.int .i64 0)))] [0,1,6,43]) (.cond (.tmp 43) (.ops [O1 44 (.mov (.tmp 6)),O1 45 (.mov (.tmp 1)),O1 46 (.bin .sub (.tmp 45) (.const (.int .i64 1))),O1 47 (.mov (.tmp 0)),O1 48 (.idxS 1 (.tmp 44) (.tmp 46)),⟨none,none,.store 1 (.tmp 48) (.tmp 47)⟩] [6]) (.skip))) (.seq (.ops [O1 49 (.mov (.tmp 6)),O1 4 (.mov (.tmp 49))] [4]) (.ret))))))),50,[(4,none)],true⟩
theorem ok79:FunOK Tryd.prog 79 c79:= .code ⟨Tryd.f79,_,c79.code,Tryd.func79,rfl,by kernel_rfl,rfl,by kernel_rfl,by kernel_rfl⟩
/- raddle/words.side -/
def c82:AFun:=⟨.seq (.ops [O1 2 (.mov (.const (.string ⟨#[]⟩)))] [0]) (.seq (.seq (.ops [O1 3 (.mov (.tmp 0))] [3]) (.cond (.tmp 3) (.seq (.ops [O1 2 (.mov (.const (.string ⟨#[112,117,114,108]⟩)))] [2]) (.ret)) (.skip))) (.seq (.ops [O1 2 (.mov (.const (.string ⟨#[107,110,105,116]⟩)))] [2]) (.ret))),4,[(2,none)],true⟩
theorem ok82:FunOK Tryd.prog 82 c82:= .code ⟨Tryd.f82,_,c82.code,Tryd.func82,rfl,by kernel_rfl,rfl,by kernel_rfl,by kernel_rfl⟩
/- internal/stringslite.TrimPrefix -/
def c83:AFun:=⟨.seq (.ops [O1 4 (.mov (.const (.string ⟨#[]⟩)))] [0,1]) (.seq (.seq (.ops [O1 5 (.mov (.tmp 0)),O1 6 (.mov (.tmp 1)),O1 7 (.callF 88 [(.tmp 5),(.tmp 6)])] [0,1,7]) (.cond (.tmp 7) (.seq (.ops [O1 8 (.mov (.tmp 0)),O1 9 (.mov (.tmp 1)),O1 10 (.len true (.tmp 9)),O1 11 (.slcS (.tmp 8) (some (.tmp 10)) none),O1 4 (.mov (.tmp 11))] [4]) (.ret)) (.skip))) (.seq (.ops [O1 12 (.mov (.tmp 0)),O1 4 (.mov (.tmp 12))] [4]) (.ret))),13,[(4,none)],true⟩
theorem ok83:FunOK Tryd.prog 83 c83:= .code ⟨Tryd.f83,_,c83.code,Tryd.func83,rfl,by kernel_rfl,rfl,by kernel_rfl,by kernel_rfl⟩
/- raddle/raddleref25.Cut -/
def c84l0:AC:= .seq (.seq (.ops [O1 8 (.mov (.tmp 7)),O1 9 (.mov (.tmp 0)),O1 10 (.len true (.tmp 9)),O1 11 (.bin .leq (.tmp 8) (.tmp 10))] [0,1,5,6,7,11]) (.cond (.tmp 11) (.skip) (.exit 0))) (.seq (.block 1 (.seq (.ops [O1 14 (.mov (.tmp 7)),O1 15 (.mov (.tmp 0)),O1 16 (.len true (.tmp 15)),O1 17 (.bin .eql (.tmp 14) (.tmp 16)),O1 18 (.mov (.tmp 17)),⟨some 19,some (18,false),.mov (.tmp 0)⟩,⟨some 20,some (18,false),.mov (.tmp 7)⟩,⟨some 21,some (18,false),.idxStr (.tmp 19) (.tmp 20)⟩,⟨some 22,some (18,false),.mov (.tmp 1)⟩,⟨some 23,some (18,false),.bin .eql (.tmp 21) (.tmp 22)⟩,O1 24 (.pick (.tmp 18) (.const (.bool true)) (.tmp 23))] [0,1,5,6,7,24]) (.cond (.tmp 24) (.seq (.ops [O1 25 (.mov (.tmp 5)),O1 26 (.mov (.tmp 0)),O1 27 (.mov (.tmp 6)),O1 28 (.mov (.tmp 7)),O1 29 (.slcS (.tmp 26) (some (.tmp 27)) (some (.tmp 28))),O1 30 (.mkRow 9 1 1 [(.string ⟨#[]⟩)] [(0,1,(.tmp 29))]),O1 31 (.app 9 1 16 (.tmp 25) (.tmp 30)),O1 5 (.mov (.tmp 31))] [0,1,5,7]) (.ops [O1 32 (.mov (.tmp 7)),O1 33 (.bin .add (.tmp 32) (.const (.int .i64 1))),O1 6 (.mov (.tmp 33))] [0,1,5,6,7])) (.skip)))) (.ops [O1 12 (.mov (.tmp 7)),O1 13 (.bin .add (.tmp 12) (.const (.int .i64 1))),O1 7 (.mov (.tmp 13))] [0,1,5,6,7]))
def c84:AFun:=⟨.seq (.ops [O1 4 (.mov (.const (.slice none 0 0)))] [0,1]) (.seq (.ops [O1 5 (.mov (.const (.slice none 0 0)))] [0,1,5]) (.seq (.ops [O1 6 (.mov (.const (.int .i64 0)))] [0,1,5,6]) (.seq (.seq (.ops [O1 7 (.mov (.const (.int .i64 0)))] [0,1,5,6,7]) (.block 0 (.loop [0,1,5,6,7] c84l0))) (.seq (.ops [O1 34 (.mov (.tmp 5)),O1 4 (.mov (.tmp 34))] [4]) (.ret))))),35,[(4,none)],true⟩
theorem ok84:FunOK Tryd.prog 84 c84:= .code ⟨Tryd.f84,_,c84.code,Tryd.func84,rfl,by kernel_rfl,rfl,by kernel_rfl,by kernel_rfl⟩
/- raddle/raddleref25.Number -/
def c85l0:AC:= .seq (.seq (.ops [O1 24 (.mov (.tmp 5)),O1 25 (.mov (.tmp 0)),O1 26 (.len true (.tmp 25)),O1 27 (.bin .lss (.tmp 24) (.tmp 26))] [0,4,5,27]) (.cond (.tmp 27) (.skip) (.exit 0))) (.seq (.block 1 (.seq (.seq (.ops [O1 30 (.mov (.tmp 0)),O1 31 (.mov (.tmp 5)),O1 32 (.idxStr (.tmp 30) (.tmp 31)),O1 33 (.bin .lss (.tmp 32) (.const (.int .u8 48))),O1 34 (.mov (.tmp 33)),⟨some 35,some (34,false),.mov (.tmp 0)⟩,⟨some 36,some (34,false),.mov (.tmp 5)⟩,⟨some 37,some (34,false),.idxStr (.tmp 35) (.tmp 36)⟩,⟨some 38,some (34,false),.bin .gtr (.tmp 37) (.const (.int .u8 57))⟩,O1 39 (.pick (.tmp 34) (.const (.bool true)) (.tmp 38))] [0,4,5,39]) (.cond (.tmp 39) (.seq (.ops [O1 2 (.mov (.const (.int .i64 0))),O1 3 (.mov (.const (.bool false)))] [2,3]) (.ret)) (.skip))) (.ops [O1 40 (.mov (.tmp 4)),O1 41 (.bin .mul (.const (.int .i64 10)) (.tmp 40)),O1 42 (.mov (.tmp 0)),O1 43 (.mov (.tmp 5)),O1 44 (.idxStr (.tmp 42) (.tmp 43)),O1 45 (.bin .sub (.tmp 44) (.const (.int .u8 48))),O1 46 (.convI .i64 (.tmp 45)),O1 47 (.bin .add (.tmp 41) (.tmp 46)),O1 4 (.mov (.tmp 47))] [0,4,5]))) (.ops [O1 28 (.mov (.tmp 5)),O1 29 (.bin .add (.tmp 28) (.const (.int .i64 1))),O1 5 (.mov (.tmp 29))] [0,4,5]))
def c85:AFun:=⟨.seq (.ops [O1 2 (.mov (.const (.int .i64 0))),O1 3 (.mov (.const (.bool false)))] [0]) (.seq (.seq (.ops [O1 6 (.mov (.tmp 0)),O1 7 (.len true (.tmp 6)),O1 8 (.bin .eql (.tmp 7) (.const (.int .i64 0))),O1 9 (.mov (.tmp 8)),⟨some 10,some (9,false),.mov (.tmp 0)⟩,⟨some 11,some (9,false),.len true (.tmp 10)⟩,⟨some 12,some (9,false),.bin .gtr (.tmp 11) (.const (.int .i64 4))⟩,O1 13 (.pick (.tmp 9) (.const (.bool true)) (.tmp 12)),O1 14 (.mov (.tmp 13)),⟨some 15,some (14,false),.mov (.tmp 0)⟩,⟨some 16,some (14,false),.len true (.tmp 15)⟩,⟨some 17,some (14,false),.bin .gtr (.tmp 16) (.const (.int .i64 1))⟩,⟨some 18,some (14,false),.mov (.tmp 17)⟩,⟨some 19,some (18,true),.mov (.tmp 0)⟩,⟨some 20,some (18,true),.idxStr (.tmp 19) (.const (.int .i64 0))⟩,⟨some 21,some (18,true),.bin .eql (.tmp 20) (.const (.int .u8 48))⟩,⟨some 22,some (14,false),.pick (.tmp 18) (.tmp 21) (.const (.bool false))⟩,O1 23 (.pick (.tmp 14) (.const (.bool true)) (.tmp 22))] [0,23]) (.cond (.tmp 23) (.seq (.ops [O1 2 (.mov (.const (.int .i64 0))),O1 3 (.mov (.const (.bool false)))] [2,3]) (.ret)) (.skip))) (.seq (.ops [O1 4 (.mov (.const (.int .i64 0)))] [0,4]) (.seq (.seq (.ops [O1 5 (.mov (.const (.int .i64 0)))] [0,4,5]) (.block 0 (.loop [0,4,5] c85l0))) (.seq (.ops [O1 48 (.mov (.tmp 4)),O1 2 (.mov (.tmp 48)),O1 3 (.mov (.const (.bool true)))] [2,3]) (.ret))))),49,[(2,none),(3,none)],true⟩
theorem ok85:FunOK Tryd.prog 85 c85:= .code ⟨Tryd.f85,_,c85.code,Tryd.func85,rfl,by kernel_rfl,rfl,by kernel_rfl,by kernel_rfl⟩
/- internal/stringslite.HasSuffix -/
def c87:AFun:=⟨.seq (.ops [O1 4 (.mov (.const (.bool false)))] [0,1]) (.seq (.ops [O1 5 (.mov (.tmp 0)),O1 6 (.len true (.tmp 5)),O1 7 (.mov (.tmp 1)),O1 8 (.len true (.tmp 7)),O1 9 (.bin .geq (.tmp 6) (.tmp 8)),O1 10 (.mov (.tmp 9)),⟨some 11,some (10,true),.mov (.tmp 0)⟩,⟨some 12,some (10,true),.mov (.tmp 0)⟩,⟨some 13,some (10,true),.len true (.tmp 12)⟩,⟨some 14,some (10,true),.mov (.tmp 1)⟩,⟨some 15,some (10,true),.len true (.tmp 14)⟩,⟨some 16,some (10,true),.bin .sub (.tmp 13) (.tmp 15)⟩,⟨some 17,some (10,true),.slcS (.tmp 11) (some (.tmp 16)) none⟩,⟨some 18,some (10,true),.mov (.tmp 1)⟩,⟨some 19,some (10,true),.bin .eql (.tmp 17) (.tmp 18)⟩,O1 20 (.pick (.tmp 10) (.tmp 19) (.const (.bool false))),O1 4 (.mov (.tmp 20))] [4]) (.ret)),21,[(4,none)],true⟩
theorem ok87:FunOK Tryd.prog 87 c87:= .code ⟨Tryd.f87,_,c87.code,Tryd.func87,rfl,by kernel_rfl,rfl,by kernel_rfl,by kernel_rfl⟩
/- internal/stringslite.HasPrefix -/
def c88:AFun:=⟨.seq (.ops [O1 4 (.mov (.const (.bool false)))] [0,1]) (.seq (.ops [O1 5 (.mov (.tmp 0)),O1 6 (.len true (.tmp 5)),O1 7 (.mov (.tmp 1)),O1 8 (.len true (.tmp 7)),O1 9 (.bin .geq (.tmp 6) (.tmp 8)),O1 10 (.mov (.tmp 9)),⟨some 11,some (10,true),.mov (.tmp 0)⟩,⟨some 12,some (10,true),.mov (.tmp 1)⟩,⟨some 13,some (10,true),.len true (.tmp 12)⟩,⟨some 14,some (10,true),.slcS (.tmp 11) none (some (.tmp 13))⟩,⟨some 15,some (10,true),.mov (.tmp 1)⟩,⟨some 16,some (10,true),.bin .eql (.tmp 14) (.tmp 15)⟩,O1 17 (.pick (.tmp 10) (.tmp 16) (.const (.bool false))),O1 4 (.mov (.tmp 17))] [4]) (.ret)),18,[(4,none)],true⟩
theorem ok88:FunOK Tryd.prog 88 c88:= .code ⟨Tryd.f88,_,c88.code,Tryd.func88,rfl,by kernel_rfl,rfl,by kernel_rfl,by kernel_rfl⟩
/- unicode/utf8.DecodeRuneInString -/
def c92:AFun:=⟨.seq (.ops [O1 2 (.mov (.const (.int .i32 0))),O1 3 (.mov (.const (.int .i64 0)))] [0]) (.seq (.seq (.ops [O1 4 (.mov (.tmp 0)),O1 5 (.bin .neq (.tmp 4) (.const (.string ⟨#[]⟩))),O1 6 (.mov (.tmp 5)),⟨some 7,some (6,true),.mov (.tmp 0)⟩,⟨some 8,some (6,true),.idxStr (.tmp 7) (.const (.int .i64 0))⟩,⟨some 9,some (6,true),.bin .lss (.tmp 8) (.const (.int .u8 128))⟩,O1 10 (.pick (.tmp 6) (.tmp 9) (.const (.bool false)))] [0,10]) (.cond (.tmp 10) (.seq (.ops [O1 11 (.mov (.tmp 0)),O1 12 (.idxStr (.tmp 11) (.const (.int .i64 0))),O1 13 (.convI .i32 (.tmp 12)),O1 2 (.mov (.tmp 13)),O1 3 (.mov (.const (.int .i64 1)))] [2,3]) (.ret)) (.ops [O1 15 (.mov (.tmp 0)),O1 16 (.callF 104 [.tmp 15]),O1 14 (.mov (.tmp 16)),O1 17 (.ext (.tmp 14) 0),O1 18 (.ext (.tmp 14) 1),O1 2 (.mov (.tmp 17)),O1 3 (.mov (.tmp 18))] [2,3]))) (.ret)),19,[(2,none),(3,none)],true⟩
theorem ok92:FunOK Tryd.prog 92 c92:= .code ⟨Tryd.f92,_,c92.code,Tryd.func92,rfl,by kernel_rfl,rfl,by kernel_rfl,by kernel_rfl⟩
/- raddle/raddleref41.wise -/
def c94:AFun:=⟨.seq (.ops [O1 1 (.box 48 (.tmp 0)),O1 2 (.mov (.const (.string ⟨#[]⟩)))] [1]) (.seq (.seq (.ops [O1 3 (.fldA 1 (.tmp 1)),O1 4 (.load none (.tmp 3))] [4]) (.cond (.tmp 4) (.seq (.ops [O1 2 (.mov (.const (.string ⟨#[32,112,117,114,108,119,105,115,101]⟩)))] [2]) (.ret)) (.skip))) (.seq (.ops [O1 2 (.mov (.const (.string ⟨#[]⟩)))] [2]) (.ret))),5,[(2,none)],true⟩
theorem ok94:FunOK Tryd.prog 94 c94:= .code ⟨Tryd.f94,_,c94.code,Tryd.func94,rfl,by kernel_rfl,rfl,by kernel_rfl,by kernel_rfl⟩
/- unicode/utf8.RuneCountInString -/
def c95l0:AC:= .seq (.ops [O1 5 (.nextS (.tmp 4)),O1 6 (.ext (.tmp 5) 0)] [2,4,6]) (.seq (.cond (.tmp 6) (.skip) (.exit 0)) (.block 1 (.ops [O1 7 (.mov (.tmp 2)),O1 8 (.bin .add (.tmp 7) (.const (.int .i64 1))),O1 2 (.mov (.tmp 8))] [2,4])))
def c95:AFun:=⟨.seq (.ops [O1 2 (.mov (.const (.int .i64 0)))] [0,2]) (.seq (.seq (.ops [O1 3 (.mov (.tmp 0)),O1 4 (.rangeS (.tmp 3))] [2,4]) (.block 0 (.loop [2,4] c95l0))) (.seq (.ops [O1 9 (.mov (.tmp 2)),O1 2 (.mov (.tmp 9))] [2]) (.ret))),10,[(2,none)],true⟩
theorem ok95:FunOK Tryd.prog 95 c95:= .code ⟨Tryd.f95,_,c95.code,Tryd.func95,rfl,by kernel_rfl,rfl,by kernel_rfl,by kernel_rfl⟩
/- unicode/utf8.decodeRuneInStringSlow -/
def c104:AFun:=⟨.seq (.ops [O1 2 (.mov (.const (.int .i32 0))),O1 3 (.mov (.const (.int .i64 0)))] [0]) (.seq (.ops [O1 13 (.mov (.tmp 0)),O1 14 (.len true (.tmp 13)),O1 4 (.mov (.tmp 14))] [0,4]) (.seq (.seq (.ops [O1 15 (.mov (.tmp 4)),O1 16 (.bin .lss (.tmp 15) (.const (.int .i64 1)))] [0,4,16]) (.cond (.tmp 16) (.seq (.ops [O1 2 (.mov (.const (.int .i32 65533))),O1 3 (.mov (.const (.int .i64 0)))] [2,3]) (.ret)) (.skip))) (.seq (.ops [O1 17 (.mov (.tmp 0)),O1 18 (.idxStr (.tmp 17) (.const (.int .i64 0))),O1 5 (.mov (.tmp 18))] [0,4,5]) (.seq (.ops [O1 19 (.mov (.tmp 5)),O1 20 (.idxA 256 1 (.global 2) (.tmp 19)),O1 21 (.load none (.tmp 20)),O1 6 (.mov (.tmp 21))] [0,4,5,6]) (.seq (.seq (.ops [O1 22 (.mov (.tmp 6)),O1 23 (.bin .geq (.tmp 22) (.const (.int .u8 240)))] [0,4,5,6,23]) (.cond (.tmp 23) (.seq (.ops [O1 24 (.mov (.tmp 6)),O1 25 (.convI .i32 (.tmp 24)),O1 26 (.bin .shl (.tmp 25) (.const (.int .u64 31))),O1 27 (.bin .shr (.tmp 26) (.const (.int .u64 31))),O1 7 (.mov (.tmp 27))] [0,7]) (.seq (.ops [O1 28 (.mov (.tmp 0)),O1 29 (.idxStr (.tmp 28) (.const (.int .i64 0))),O1 30 (.convI .i32 (.tmp 29)),O1 31 (.mov (.tmp 7)),O1 32 (.bin .andNot (.tmp 30) (.tmp 31)),O1 33 (.mov (.tmp 7)),O1 34 (.bin .and (.const (.int .i32 65533)) (.tmp 33)),O1 35 (.bin .or (.tmp 32) (.tmp 34)),O1 2 (.mov (.tmp 35)),O1 3 (.mov (.const (.int .i64 1)))] [2,3]) (.ret))) (.skip))) (.seq (.ops [O1 36 (.mov (.tmp 6)),O1 37 (.bin .and (.tmp 36) (.const (.int .u8 7))),O1 38 (.convI .i64 (.tmp 37)),O1 8 (.mov (.tmp 38))] [0,4,5,6,8]) (.seq (.ops [O1 39 (.mov (.tmp 6)),O1 40 (.bin .shr (.tmp 39) (.const (.int .u64 4))),O1 41 (.idxA 16 2 (.global 3) (.tmp 40)),O1 42 (.load (some 2) (.tmp 41)),O1 9 (.alloc 152 [(2,(.int .u8 0))]),⟨none,none,.store 2 (.tmp 9) (.tmp 42)⟩] [0,4,5,8,9]) (.seq (.seq (.ops [O1 43 (.mov (.tmp 4)),O1 44 (.mov (.tmp 8)),O1 45 (.bin .lss (.tmp 43) (.tmp 44))] [0,5,8,9,45]) (.cond (.tmp 45) (.seq (.ops [O1 2 (.mov (.const (.int .i32 65533))),O1 3 (.mov (.const (.int .i64 1)))] [2,3]) (.ret)) (.skip))) (.seq (.ops [O1 46 (.mov (.tmp 0)),O1 47 (.idxStr (.tmp 46) (.const (.int .i64 1))),O1 10 (.mov (.tmp 47))] [0,5,8,9,10]) (.seq (.seq (.ops [O1 48 (.mov (.tmp 10)),O1 49 (.fldA 0 (.tmp 9)),O1 50 (.load none (.tmp 49)),O1 51 (.bin .lss (.tmp 48) (.tmp 50)),O1 52 (.mov (.tmp 51)),⟨some 53,some (52,false),.fldA 1 (.tmp 9)⟩,⟨some 54,some (52,false),.load none (.tmp 53)⟩,⟨some 55,some (52,false),.mov (.tmp 10)⟩,⟨some 56,some (52,false),.bin .lss (.tmp 54) (.tmp 55)⟩,O1 57 (.pick (.tmp 52) (.const (.bool true)) (.tmp 56))] [0,5,8,10,57]) (.cond (.tmp 57) (.seq (.ops [O1 2 (.mov (.const (.int .i32 65533))),O1 3 (.mov (.const (.int .i64 1)))] [2,3]) (.ret)) (.skip))) (.seq (.seq (.ops [O1 58 (.mov (.tmp 8)),O1 59 (.bin .leq (.tmp 58) (.const (.int .i64 2)))] [0,5,8,10,59]) (.cond (.tmp 59) (.seq (.ops [O1 60 (.mov (.tmp 5)),O1 61 (.bin .and (.tmp 60) (.const (.int .u8 31))),O1 62 (.convI .i32 (.tmp 61)),O1 63 (.bin .shl (.tmp 62) (.const (.int .u64 6))),O1 64 (.mov (.tmp 10)),
  O1 65 (.bin .and (.tmp 64) (.const (.int .u8 63))),O1 66 (.convI .i32 (.tmp 65)),O1 67 (.bin .or (.tmp 63) (.tmp 66)),O1 2 (.mov (.tmp 67)),O1 3 (.mov (.const (.int .i64 2)))] [2,3]) (.ret)) (.skip))) (.seq (.ops [O1 68 (.mov (.tmp 0)),O1 69 (.idxStr (.tmp 68) (.const (.int .i64 2))),O1 11 (.mov (.tmp 69))] [0,5,8,10,11]) (.seq (.seq (.ops [O1 70 (.mov (.tmp 11)),O1 71 (.bin .lss (.tmp 70) (.const (.int .u8 128))),O1 72 (.mov (.tmp 71)),⟨some 73,some (72,false),.mov (.tmp 11)⟩,⟨some 74,some (72,false),.bin .lss (.const (.int .u8 191)) (.tmp 73)⟩,O1 75 (.pick (.tmp 72) (.const (.bool true)) (.tmp 74))] [0,5,8,10,11,75]) (.cond (.tmp 75) (.seq (.ops [O1 2 (.mov (.const (.int .i32 65533))),O1 3 (.mov (.const (.int .i64 1)))] [2,3]) (.ret)) (.skip))) (.seq (.seq (.ops [O1 76 (.mov (.tmp 8)),O1 77 (.bin .leq (.tmp 76) (.const (.int .i64 3)))] [0,5,10,11,77]) (.cond (.tmp 77) (.seq (.ops [O1 78 (.mov (.tmp 5)),O1 79 (.bin .and (.tmp 78) (.const (.int .u8 15))),O1 80 (.convI .i32 (.tmp 79)),O1 81 (.bin .shl (.tmp 80) (.const (.int .u64 12))),O1 82 (.mov (.tmp 10)),O1 83 (.bin .and (.tmp 82) (.const (.int .u8 63))),O1 84 (.convI .i32 (.tmp 83)),O1 85 (.bin .shl (.tmp 84) (.const (.int .u64 6))),O1 86 (.bin .or (.tmp 81) (.tmp 85)),O1 87 (.mov (.tmp 11)),O1 88 (.bin .and (.tmp 87) (.const (.int .u8 63))),O1 89 (.convI .i32 (.tmp 88)),O1 90 (.bin .or (.tmp 86) (.tmp 89)),O1 2 (.mov (.tmp 90)),O1 3 (.mov (.const (.int .i64 3)))] [2,3]) (.ret)) (.skip))) (.seq (.ops [O1 91 (.mov (.tmp 0)),O1 92 (.idxStr (.tmp 91) (.const (.int .i64 3))),O1 12 (.mov (.tmp 92))] [5,10,11,12]) (.seq (.seq (.ops [O1 93 (.mov (.tmp 12)),O1 94 (.bin .lss (.tmp 93) (.const (.int .u8 128))),O1 95 (.mov (.tmp 94)),⟨some 96,some (95,false),.mov (.tmp 12)⟩,⟨some 97,some (95,false),.bin .lss (.const (.int .u8 191)) (.tmp 96)⟩,O1 98 (.pick (.tmp 95) (.const (.bool true)) (.tmp 97))] [5,10,11,12,98]) (.cond (.tmp 98) (.seq (.ops [O1 2 (.mov (.const (.int .i32 65533))),O1 3 (.mov (.const (.int .i64 1)))] [2,3]) (.ret)) (.skip))) (.seq (.ops [O1 99 (.mov (.tmp 5)),O1 100 (.bin .and (.tmp 99) (.const (.int .u8 7))),O1 101 (.convI .i32 (.tmp 100)),O1 102 (.bin .shl (.tmp 101) (.const (.int .u64 18))),O1 103 (.mov (.tmp 10)),O1 104 (.bin .and (.tmp 103) (.const (.int .u8 63))),O1 105 (.convI .i32 (.tmp 104)),O1 106 (.bin .shl (.tmp 105) (.const (.int .u64 12))),O1 107 (.bin .or (.tmp 102) (.tmp 106)),O1 108 (.mov (.tmp 11)),O1 109 (.bin .and (.tmp 108) (.const (.int .u8 63))),O1 110 (.convI .i32 (.tmp 109)),O1 111 (.bin .shl (.tmp 110) (.const (.int .u64 6))),O1 112 (.bin .or (.tmp 107) (.tmp 111)),O1 113 (.mov (.tmp 12)),O1 114 (.bin .and (.tmp 113) (.const (.int .u8 63))),O1 115 (.convI .i32 (.tmp 114)),O1 116 (.bin .or (.tmp 112) (.tmp 115)),O1 2 (.mov (.tmp 116)),O1 3 (.mov (.const (.int .i64 4)))] [2,3]) (.ret)))))))))))))))))),117,[(2,none),(3,none)],true⟩
theorem ok104:FunOK Tryd.prog 104 c104:= .code ⟨Tryd.f104,_,c104.code,Tryd.func104,rfl,by kernel_rfl,rfl,by kernel_rfl,by kernel_rfl⟩
def fns:FuncId→Option AFun
 |3=>some c3
 |9=>some c9
 |10=>some c10
 |11=>some c11
 |12=>some c12
 |13=>some c13
 |14=>some c14
 |27=>some c27
 |28=>some c28
 |29=>some c29
 |30=>some c30
 |31=>some c31
 |32=>some c32
 |33=>some c33
 |34=>some c34
 |38=>some c38
 |39=>some c39
 |40=>some c40
 |47=>some c47
 |48=>some c48
 |49=>some c49
 |50=>some c50
 |51=>some c51
 |53=>some c53
 |54=>some c54
 |55=>some c55
 |56=>some c56
 |57=>some c57
 |58=>some c58
 |59=>some c59
 |60=>some c60
 |61=>some c61
 |62=>some c62
 |64=>some c64
 |65=>some c65
 |66=>some c66
 |69=>some c69
 |70=>some c70
 |71=>some c71
 |72=>some c72
 |75=>some c75
 |76=>some c76
 |77=>some c77
 |78=>some c78
 |79=>some c79
 |82=>some c82
 |83=>some c83
 |84=>some c84
 |85=>some c85
 |87=>some c87
 |88=>some c88
 |92=>some c92
 |94=>some c94
 |95=>some c95
 |104=>some c104
 |_=>none
theorem fns_ok:FunsOK Tryd.prog fns:=by
 intro f af h
 unfold fns at h
 split at h
 ·cases h;exact ok3
 ·cases h;exact ok9
 ·cases h;exact ok10
 ·cases h;exact ok11
 ·cases h;exact ok12
 ·cases h;exact ok13
 ·cases h;exact ok14
 ·cases h;exact ok27
 ·cases h;exact ok28
 ·cases h;exact ok29
 ·cases h;exact ok30
 ·cases h;exact ok31
 ·cases h;exact ok32
 ·cases h;exact ok33
 ·cases h;exact ok34
 ·cases h;exact ok38
 ·cases h;exact ok39
 ·cases h;exact ok40
 ·cases h;exact ok47
 ·cases h;exact ok48
 ·cases h;exact ok49
 ·cases h;exact ok50
 ·cases h;exact ok51
 ·cases h;exact ok53
 ·cases h;exact ok54
 ·cases h;exact ok55
 ·cases h;exact ok56
 ·cases h;exact ok57
 ·cases h;exact ok58
 ·cases h;exact ok59
 ·cases h;exact ok60
 ·cases h;exact ok61
 ·cases h;exact ok62
 ·cases h;exact ok64
 ·cases h;exact ok65
 ·cases h;exact ok66
 ·cases h;exact ok69
 ·cases h;exact ok70
 ·cases h;exact ok71
 ·cases h;exact ok72
 ·cases h;exact ok75
 ·cases h;exact ok76
 ·cases h;exact ok77
 ·cases h;exact ok78
 ·cases h;exact ok79
 ·cases h;exact ok82
 ·cases h;exact ok83
 ·cases h;exact ok84
 ·cases h;exact ok85
 ·cases h;exact ok87
 ·cases h;exact ok88
 ·cases h;exact ok92
 ·cases h;exact ok94
 ·cases h;exact ok95
 ·cases h;exact ok104
 ·cases h
end Go.Proofs.YtimmmnanllcfoaaDoor
namespace Go.Proofs
open Go.Shelf
def Tryd.lays156_ren:Go.Shelf.Ren:=⟨fun|156=>52|165=>74|166=>44|169=>46|240=>68|241=>93|276=>91|277=>105|n=>n,fun|31=>62|9=>9|3=>3|4=>4|0=>0|20=>20|72=>83|76=>86|70=>80|37=>81|75=>85|127=>106|164=>126|5=>5|80=>89|n=>n,fun|n=>n⟩
theorem Tryd.lays156:Go.Proofs.Lays.n156 Tryd.prog Tryd.lays156_ren:={
 mixed:=by kernel_rfl
 f156:=Tryd.func52.trans (congrArg some (by kernel_rfl))
 f165:=Tryd.func74.trans (congrArg some (by kernel_rfl))
 f166:=Tryd.func44.trans (congrArg some (by kernel_rfl))
 f169:=Tryd.func46.trans (congrArg some (by kernel_rfl))
 f240:=Tryd.func68.trans (congrArg some (by kernel_rfl))
 f241:=Tryd.func93.trans (congrArg some (by kernel_rfl))
 f276:=Tryd.func91.trans (congrArg some (by kernel_rfl))
 f277:=Tryd.func105.trans (congrArg some (by kernel_rfl))
 t0:=Tryd.underlying0
 a0:=Tryd.isAgg0
 z0:=Tryd.sizeOf0
 v0:=Tryd.zeroValue0
 t3:=Tryd.underlying3
 a3:=Tryd.isAgg3
 z3:=Tryd.sizeOf3
 v3:=Tryd.zeroValue3
 t4:=Tryd.underlying4
 a4:=Tryd.isAgg4
 z4:=Tryd.sizeOf4
 v4:=Tryd.zeroValue4
 t9:=Tryd.underlying9
 a9:=Tryd.isAgg9
 z9:=Tryd.sizeOf9
 v9:=Tryd.zeroValue9
 t20:=Tryd.underlying20
 a20:=Tryd.isAgg20
 z20:=Tryd.sizeOf20
 v20:=Tryd.zeroValue20
 t31:=Tryd.underlying62
 a31:=Tryd.isAgg62
 z31:=Tryd.sizeOf62
 v31:=Tryd.zeroValue62
 t37:=Tryd.underlying81
 a37:=Tryd.isAgg81
 z37:=Tryd.sizeOf81
 v37:=Tryd.zeroValue81
 t70:=Tryd.underlying80
 a70:=Tryd.isAgg80
 z70:=Tryd.sizeOf80
 v70:=Tryd.zeroValue80
 t72:=Tryd.underlying83
 a72:=Tryd.isAgg83
 z72:=Tryd.sizeOf83
 v72:=Tryd.zeroValue83
 t75:=Tryd.underlying85
 a75:=Tryd.isAgg85
 z75:=Tryd.sizeOf85
 v75:=Tryd.zeroValue85
 t76:=Tryd.underlying86
 a76:=Tryd.isAgg86
 z76:=Tryd.sizeOf86
 v76:=Tryd.zeroValue86
 t127:=Tryd.underlying106
 a127:=Tryd.isAgg106
 z127:=Tryd.sizeOf106
 v127:=Tryd.zeroValue106
 t164:=Tryd.underlying126
 a164:=Tryd.isAgg126
 z164:=Tryd.sizeOf126
 v164:=Tryd.zeroValue126}
theorem Tryd.Builder_Extra_156:Builder.Extra Tryd.prog Tryd.lays156_ren:={
 sizeBuilder:=by kernel_rfl
 liesBuilder:=by kernel_rfl
 t5:=Tryd.underlying5
 a5:=Tryd.isAgg5
 z5:=Tryd.sizeOf5
 v5:=Tryd.zeroValue5
 infoByte:=by kernel_rfl
 cellsByte:=by kernel_rfl
 sizeByte:=by kernel_rfl
 neB5:=by decide}
open Go.RowKit in
theorem Tryd.strings_Join_none (a:Option Addr) (c:Nat) (sep:ByteArray) (w:World):
  Calls Tryd.prog 52 #[.slice a 0 c,.string sep] w fun e w'=>e= .returned (.string ⟨#[]⟩)∧w'=w:=Any.strings_Join_none Tryd.lays156 Tryd.Builder_Extra_156 a c sep w
open Go.RowKit in
theorem Tryd.strings_Join (bk o c:Nat) (xs:List ByteArray) (sep:ByteArray) (w:World) (hcells:∀ (j:Nat) x,xs[j]? =some x→w.cell? ⟨bk,o+j,none⟩=some (.string x)) (hbk:bk<w.heap.size) (hN:xs.length≤140737488355328) (hcap:xs.length≤c) (hlen:(Lib.join (xs.map (·.data.toList)) sep.data.toList).length≤140737488355328):
  Calls Tryd.prog 52 #[.slice (some ⟨bk,o,none⟩) xs.length c,.string sep] w fun e w'=>e= .returned (.string ⟨(Lib.join (xs.map (·.data.toList)) sep.data.toList).toArray⟩)∧Below w.heap.size w w':=Any.strings_Join Tryd.lays156 Tryd.Builder_Extra_156 bk o c xs sep w hcells hbk hN hcap hlen
def Tryd.laysM171_ren:Go.Shelf.Ren:=⟨fun|171=>35|243=>63|246=>86|283=>98|284=>99|285=>100|286=>101|129=>111|317=>110|318=>112|319=>113|320=>114|337=>117|338=>118|n=>n,fun|3=>3|9=>9|2=>2|4=>4|171=>134|0=>0|53=>135|37=>81|5=>5|173=>138|212=>145|51=>146|20=>20|213=>147|46=>143|232=>157|233=>158|n=>n,fun|17=>1|18=>4|19=>5|n=>n⟩
theorem Tryd.laysM171:Go.Proofs.LaysM.n171 Tryd.prog Tryd.laysM171_ren:={
 mixed:=by kernel_rfl
 f129:=Tryd.func111.trans (congrArg some (by kernel_rfl))
 f171:=Tryd.func35.trans (congrArg some (by kernel_rfl))
 f243:=Tryd.func63.trans (congrArg some (by kernel_rfl))
 f246:=Tryd.func86.trans (congrArg some (by kernel_rfl))
 f283:=Tryd.func98.trans (congrArg some (by kernel_rfl))
 f284:=Tryd.func99.trans (congrArg some (by kernel_rfl))
 f285:=Tryd.func100.trans (congrArg some (by kernel_rfl))
 f286:=Tryd.func101.trans (congrArg some (by kernel_rfl))
 f317:=Tryd.func110.trans (congrArg some (by kernel_rfl))
 f318:=Tryd.func112.trans (congrArg some (by kernel_rfl))
 f319:=Tryd.func113.trans (congrArg some (by kernel_rfl))
 f320:=Tryd.func114.trans (congrArg some (by kernel_rfl))
 f337:=Tryd.func117.trans (congrArg some (by kernel_rfl))
 f338:=Tryd.func118.trans (congrArg some (by kernel_rfl))
 t0:=Tryd.underlying0
 a0:=Tryd.isAgg0
 z0:=Tryd.sizeOf0
 v0:=Tryd.zeroValue0
 t2:=Tryd.underlying2
 a2:=Tryd.isAgg2
 z2:=Tryd.sizeOf2
 v2:=Tryd.zeroValue2
 t3:=Tryd.underlying3
 a3:=Tryd.isAgg3
 z3:=Tryd.sizeOf3
 v3:=Tryd.zeroValue3
 t4:=Tryd.underlying4
 a4:=Tryd.isAgg4
 z4:=Tryd.sizeOf4
 v4:=Tryd.zeroValue4
 t5:=Tryd.underlying5
 a5:=Tryd.isAgg5
 z5:=Tryd.sizeOf5
 v5:=Tryd.zeroValue5
 t9:=Tryd.underlying9
 a9:=Tryd.isAgg9
 z9:=Tryd.sizeOf9
 v9:=Tryd.zeroValue9
 t20:=Tryd.underlying20
 a20:=Tryd.isAgg20
 z20:=Tryd.sizeOf20
 v20:=Tryd.zeroValue20
 t37:=Tryd.underlying81
 a37:=Tryd.isAgg81
 z37:=Tryd.sizeOf81
 v37:=Tryd.zeroValue81
 t46:=Tryd.underlying143
 a46:=Tryd.isAgg143
 z46:=Tryd.sizeOf143
 v46:=Tryd.zeroValue143
 t51:=Tryd.underlying146
 a51:=Tryd.isAgg146
 z51:=Tryd.sizeOf146
 v51:=Tryd.zeroValue146
 t53:=Tryd.underlying135
 a53:=Tryd.isAgg135
 z53:=Tryd.sizeOf135
 v53:=Tryd.zeroValue135
 t171:=Tryd.underlying134
 a171:=Tryd.isAgg134
 z171:=Tryd.sizeOf134
 v171:=Tryd.zeroValue134
 t173:=Tryd.underlying138
 a173:=Tryd.isAgg138
 z173:=Tryd.sizeOf138
 v173:=Tryd.zeroValue138
 t212:=Tryd.underlying145
 a212:=Tryd.isAgg145
 z212:=Tryd.sizeOf145
 v212:=Tryd.zeroValue145
 t213:=Tryd.underlying147
 a213:=Tryd.isAgg147
 z213:=Tryd.sizeOf147
 t232:=Tryd.underlying157
 a232:=Tryd.isAgg157
 z232:=Tryd.sizeOf157
 v232:=Tryd.zeroValue157
 t233:=Tryd.underlying158
 a233:=Tryd.isAgg158
 z233:=Tryd.sizeOf158
 v233:=Tryd.zeroValue158
 g17:=by kernel_rfl
 g18:=by kernel_rfl
 g19:=by kernel_rfl
 i0:=by kernel_rfl
 i2:=by kernel_rfl
 i3:=by kernel_rfl
 i4:=by kernel_rfl
 i5:=by kernel_rfl
 i9:=by kernel_rfl
 i20:=by kernel_rfl
 i37:=by kernel_rfl
 i46:=by kernel_rfl
 i51:=by kernel_rfl
 i53:=by kernel_rfl
 i171:=by kernel_rfl
 i173:=by kernel_rfl
 i212:=by kernel_rfl
 i232:=by kernel_rfl
 i233:=by kernel_rfl
 m17:=by kernel_rfl
 m18:=by kernel_rfl
 m19:=by kernel_rfl}
open Go.RowKit Go.Sort Go.Lib in
theorem Tryd.strconv_Itoa (n:Int) (h0: -9223372036854775808≤n) (h1:n≤9223372036854775807) (w:World) (htab:Lib.TabIs Tryd.prog w "internal/strconv.uint64pow10" .u64 Lib.pow10Tab):
  Calls Tryd.prog 35 #[.int .i64 n] w fun e w'=>e= .returned (.string ⟨(Lib.itoa n).toArray⟩)∧∃ k os,w'=grow (w.drewN k) os:=Any.strconv_Itoa Tryd.laysM171 n h0 h1 w htab
def Tryd.lays143_ren:Go.Shelf.Ren:=⟨fun|143=>81|219=>97|217=>106|225=>107|224=>108|267=>109|266=>115|314=>116|n=>n,fun|9=>9|3=>3|4=>4|5=>5|46=>143|146=>154|51=>146|n=>n,fun|1=>0|n=>n⟩
theorem Tryd.lays143:Go.Proofs.Lays.n143 Tryd.prog Tryd.lays143_ren:={
 mixed:=by kernel_rfl
 f143:=Tryd.func81.trans (congrArg some (by kernel_rfl))
 f217:=Tryd.func106.trans (congrArg some (by kernel_rfl))
 f219:=Tryd.func97.trans (congrArg some (by kernel_rfl))
 f224:=Tryd.func108.trans (congrArg some (by kernel_rfl))
 f225:=Tryd.func107.trans (congrArg some (by kernel_rfl))
 f266:=Tryd.func115.trans (congrArg some (by kernel_rfl))
 f267:=Tryd.func109.trans (congrArg some (by kernel_rfl))
 f314:=Tryd.func116.trans (congrArg some (by kernel_rfl))
 t3:=Tryd.underlying3
 a3:=Tryd.isAgg3
 z3:=Tryd.sizeOf3
 v3:=Tryd.zeroValue3
 t4:=Tryd.underlying4
 a4:=Tryd.isAgg4
 z4:=Tryd.sizeOf4
 v4:=Tryd.zeroValue4
 t5:=Tryd.underlying5
 a5:=Tryd.isAgg5
 z5:=Tryd.sizeOf5
 v5:=Tryd.zeroValue5
 t9:=Tryd.underlying9
 a9:=Tryd.isAgg9
 z9:=Tryd.sizeOf9
 v9:=Tryd.zeroValue9
 t46:=Tryd.underlying143
 a46:=Tryd.isAgg143
 z46:=Tryd.sizeOf143
 v46:=Tryd.zeroValue143
 t51:=Tryd.underlying146
 a51:=Tryd.isAgg146
 z51:=Tryd.sizeOf146
 v51:=Tryd.zeroValue146
 t146:=Tryd.underlying154
 a146:=Tryd.isAgg154
 z146:=Tryd.sizeOf154
 v146:=Tryd.zeroValue154
 g1:=by kernel_rfl}
open Go.RowKit Go.Lib in
theorem Tryd.strings_Index (s sub:ByteArray) (m:Int) (w:World) (hs:s.size<4294967281) (hm:w.cell? ⟨0,0,none⟩=some (.int .i64 m)):
  Calls Tryd.prog 81 #[.string s,.string sub] w fun e w'=>e= .returned (.int .i64 (Lib.index s.data.toList sub.data.toList))∧w'=w:=Any.strings_Index Tryd.lays143 s sub m w hs hm
def Tryd.lays138_ren:Go.Shelf.Ren:=⟨fun|138=>80|195=>95|218=>96|143=>81|219=>97|217=>106|225=>107|224=>108|267=>109|266=>115|314=>116|n=>n,fun|9=>9|3=>3|4=>4|5=>5|0=>0|46=>143|146=>154|51=>146|n=>n,fun|1=>0|n=>n⟩
theorem Tryd.lays138:Go.Proofs.Lays.n138 Tryd.prog Tryd.lays138_ren:={
 mixed:=by kernel_rfl
 f138:=Tryd.func80.trans (congrArg some (by kernel_rfl))
 f143:=Tryd.func81.trans (congrArg some (by kernel_rfl))
 f195:=Tryd.func95.trans (congrArg some (by kernel_rfl))
 f217:=Tryd.func106.trans (congrArg some (by kernel_rfl))
 f218:=Tryd.func96.trans (congrArg some (by kernel_rfl))
 f219:=Tryd.func97.trans (congrArg some (by kernel_rfl))
 f224:=Tryd.func108.trans (congrArg some (by kernel_rfl))
 f225:=Tryd.func107.trans (congrArg some (by kernel_rfl))
 f266:=Tryd.func115.trans (congrArg some (by kernel_rfl))
 f267:=Tryd.func109.trans (congrArg some (by kernel_rfl))
 f314:=Tryd.func116.trans (congrArg some (by kernel_rfl))
 t0:=Tryd.underlying0
 a0:=Tryd.isAgg0
 z0:=Tryd.sizeOf0
 v0:=Tryd.zeroValue0
 t3:=Tryd.underlying3
 a3:=Tryd.isAgg3
 z3:=Tryd.sizeOf3
 v3:=Tryd.zeroValue3
 t4:=Tryd.underlying4
 a4:=Tryd.isAgg4
 z4:=Tryd.sizeOf4
 v4:=Tryd.zeroValue4
 t5:=Tryd.underlying5
 a5:=Tryd.isAgg5
 z5:=Tryd.sizeOf5
 v5:=Tryd.zeroValue5
 t9:=Tryd.underlying9
 a9:=Tryd.isAgg9
 z9:=Tryd.sizeOf9
 v9:=Tryd.zeroValue9
 t46:=Tryd.underlying143
 a46:=Tryd.isAgg143
 z46:=Tryd.sizeOf143
 v46:=Tryd.zeroValue143
 t51:=Tryd.underlying146
 a51:=Tryd.isAgg146
 z51:=Tryd.sizeOf146
 v51:=Tryd.zeroValue146
 t146:=Tryd.underlying154
 a146:=Tryd.isAgg154
 z146:=Tryd.sizeOf154
 v146:=Tryd.zeroValue154
 g1:=by kernel_rfl}
open Go.RowKit Go.Lib in
theorem Tryd.strings_Count_any (s sep:ByteArray) (m:Int) (w:World) (hs:s.size<4294967281) (hm:w.cell? ⟨0,0,none⟩=some (.int .i64 m)) (h1:1≤sep.size):
  Calls Tryd.prog 80 #[.string s,.string sep] w fun e w'=>e= .returned (.int .i64 (Lib.countB s sep))∧w'=w:=Any.strings_Count_any Tryd.lays138 s sep m w hs hm h1
def Tryd.lays154_ren:Go.Shelf.Ren:=⟨fun|154=>73|138=>80|165=>74|143=>81|166=>44|197=>92|169=>46|195=>95|218=>96|240=>68|241=>93|219=>97|260=>104|276=>91|277=>105|217=>106|225=>107|224=>108|267=>109|266=>115|314=>116|n=>n,fun|9=>9|3=>3|4=>4|72=>83|0=>0|76=>86|105=>130|21=>21|5=>5|70=>80|20=>20|37=>81|75=>85|127=>106|164=>126|46=>143|119=>150|139=>153|138=>152|146=>154|51=>146|80=>89|n=>n,fun|1=>0|3=>2|4=>3|n=>n⟩
theorem Tryd.lays154:Go.Proofs.Lays.n154 Tryd.prog Tryd.lays154_ren:={
 mixed:=by kernel_rfl
 f138:=Tryd.func80.trans (congrArg some (by kernel_rfl))
 f143:=Tryd.func81.trans (congrArg some (by kernel_rfl))
 f154:=Tryd.func73.trans (congrArg some (by kernel_rfl))
 f165:=Tryd.func74.trans (congrArg some (by kernel_rfl))
 f166:=Tryd.func44.trans (congrArg some (by kernel_rfl))
 f169:=Tryd.func46.trans (congrArg some (by kernel_rfl))
 f195:=Tryd.func95.trans (congrArg some (by kernel_rfl))
 f197:=Tryd.func92.trans (congrArg some (by kernel_rfl))
 f217:=Tryd.func106.trans (congrArg some (by kernel_rfl))
 f218:=Tryd.func96.trans (congrArg some (by kernel_rfl))
 f219:=Tryd.func97.trans (congrArg some (by kernel_rfl))
 f224:=Tryd.func108.trans (congrArg some (by kernel_rfl))
 f225:=Tryd.func107.trans (congrArg some (by kernel_rfl))
 f240:=Tryd.func68.trans (congrArg some (by kernel_rfl))
 f241:=Tryd.func93.trans (congrArg some (by kernel_rfl))
 f260:=Tryd.func104.trans (congrArg some (by kernel_rfl))
 f266:=Tryd.func115.trans (congrArg some (by kernel_rfl))
 f267:=Tryd.func109.trans (congrArg some (by kernel_rfl))
 f276:=Tryd.func91.trans (congrArg some (by kernel_rfl))
 f277:=Tryd.func105.trans (congrArg some (by kernel_rfl))
 f314:=Tryd.func116.trans (congrArg some (by kernel_rfl))
 t0:=Tryd.underlying0
 a0:=Tryd.isAgg0
 z0:=Tryd.sizeOf0
 v0:=Tryd.zeroValue0
 t3:=Tryd.underlying3
 a3:=Tryd.isAgg3
 z3:=Tryd.sizeOf3
 v3:=Tryd.zeroValue3
 t4:=Tryd.underlying4
 a4:=Tryd.isAgg4
 z4:=Tryd.sizeOf4
 v4:=Tryd.zeroValue4
 t5:=Tryd.underlying5
 a5:=Tryd.isAgg5
 z5:=Tryd.sizeOf5
 v5:=Tryd.zeroValue5
 t9:=Tryd.underlying9
 a9:=Tryd.isAgg9
 z9:=Tryd.sizeOf9
 v9:=Tryd.zeroValue9
 t20:=Tryd.underlying20
 a20:=Tryd.isAgg20
 z20:=Tryd.sizeOf20
 v20:=Tryd.zeroValue20
 t21:=Tryd.underlying21
 a21:=Tryd.isAgg21
 z21:=Tryd.sizeOf21
 v21:=Tryd.zeroValue21
 t37:=Tryd.underlying81
 a37:=Tryd.isAgg81
 z37:=Tryd.sizeOf81
 v37:=Tryd.zeroValue81
 t46:=Tryd.underlying143
 a46:=Tryd.isAgg143
 z46:=Tryd.sizeOf143
 v46:=Tryd.zeroValue143
 t51:=Tryd.underlying146
 a51:=Tryd.isAgg146
 z51:=Tryd.sizeOf146
 v51:=Tryd.zeroValue146
 t70:=Tryd.underlying80
 a70:=Tryd.isAgg80
 z70:=Tryd.sizeOf80
 v70:=Tryd.zeroValue80
 t72:=Tryd.underlying83
 a72:=Tryd.isAgg83
 z72:=Tryd.sizeOf83
 v72:=Tryd.zeroValue83
 t75:=Tryd.underlying85
 a75:=Tryd.isAgg85
 z75:=Tryd.sizeOf85
 v75:=Tryd.zeroValue85
 t76:=Tryd.underlying86
 a76:=Tryd.isAgg86
 z76:=Tryd.sizeOf86
 v76:=Tryd.zeroValue86
 t105:=Tryd.underlying130
 a105:=Tryd.isAgg130
 z105:=Tryd.sizeOf130
 v105:=Tryd.zeroValue130
 t119:=Tryd.underlying150
 a119:=Tryd.isAgg150
 z119:=Tryd.sizeOf150
 t127:=Tryd.underlying106
 a127:=Tryd.isAgg106
 z127:=Tryd.sizeOf106
 v127:=Tryd.zeroValue106
 t138:=Tryd.underlying152
 a138:=Tryd.isAgg152
 z138:=Tryd.sizeOf152
 v138:=Tryd.zeroValue152
 t139:=Tryd.underlying153
 a139:=Tryd.isAgg153
 z139:=Tryd.sizeOf153
 v139:=Tryd.zeroValue153
 t146:=Tryd.underlying154
 a146:=Tryd.isAgg154
 z146:=Tryd.sizeOf154
 v146:=Tryd.zeroValue154
 t164:=Tryd.underlying126
 a164:=Tryd.isAgg126
 z164:=Tryd.sizeOf126
 v164:=Tryd.zeroValue126
 g1:=by kernel_rfl
 g3:=by kernel_rfl
 g4:=by kernel_rfl}
theorem Tryd.Builder_Extra_154:Builder.Extra Tryd.prog Tryd.lays154_ren:={
 sizeBuilder:=by kernel_rfl
 liesBuilder:=by kernel_rfl
 t5:=Tryd.underlying5
 a5:=Tryd.isAgg5
 z5:=Tryd.sizeOf5
 v5:=Tryd.zeroValue5
 infoByte:=by kernel_rfl
 cellsByte:=by kernel_rfl
 sizeByte:=by kernel_rfl
 neB5:=by decide}
open Go.RowKit Go.Lib in
theorem Tryd.strings_Replace (s old new:ByteArray) (n:Int) (m:Int) (w:World) (hs:s.size<4294967281) (hm:w.cell? ⟨0,0,none⟩=some (.int .i64 m)) (h1:1≤old.size) (hlen:s.size+Lib.countB s old*new.size≤140737488355328):
  Calls Tryd.prog 73 #[.string s,.string old,.string new,.int .i64 n] w fun e w'=>
   e= .returned (.string ⟨(Lib.replace s.data.toList old.data.toList new.data.toList n).toArray⟩)∧Below w.heap.size w w':=Any.strings_Replace Tryd.lays154 Tryd.Builder_Extra_154 s old new n m w hs hm h1 hlen
end Go.Proofs
namespace Go.Proofs.YtimmmnanllcfoaaDoor
open Go Go.Itp
open Go.RowKit (Below)
set_option maxRecDepth 100000
set_option linter.unusedVariables false
theorem own:ownKnob Tryd.prog.godebug=none:=by kernel_rfl
theorem mixed:Tryd.prog.follows .mixedOrders=true:=by kernel_rfl
def prims0:List (FuncId × Prim × TypeId):= [(91,.same,0),(115,.indexByte,0),(96,.count,0),(105,.makeNoZero,5)]
theorem prims_all:AllPrims Tryd.prog prims0:=
 ⟨⟨⟨Tryd.f91,Tryd.func91,by kernel_rfl,by kernel_rfl,by kernel_rfl,rfl⟩⟩,⟨⟨Tryd.f115,Tryd.func115,by kernel_rfl,by kernel_rfl,by kernel_rfl,rfl⟩⟩,⟨⟨Tryd.f96,Tryd.func96,by kernel_rfl,by kernel_rfl,by kernel_rfl,rfl⟩⟩,
  ⟨⟨Tryd.f105,Tryd.func105,by kernel_rfl,by kernel_rfl,#[3],81,by kernel_rfl,rfl,Tryd.underlying81⟩⟩,trivial⟩
def libP:FuncId→List Value→St→Option (Value × List Blk):=orElseP (fnP 81 idxFn) (orElseP (fnP 80 cntFn) (fnP 73 replFn))
def MaxIs (w:World):Prop:=∃ m:Int,w.cell? ⟨0,0,none⟩=some (.int .i64 m)
theorem MaxIs.below {w w':World} (h:MaxIs w) (hb:Below w.heap.size w w'):MaxIs w':=by
 obtain ⟨m,h⟩:=h
 exact ⟨m,by rw[hb.cell (World.block_lt_of_cell? _ _ h)];exact h⟩
theorem libP_ok {w0:World} (h:MaxIs w0):PrimsOK Tryd.prog libP w0:=by
 refine orElse_ok (fnP_ok ⟨Tryd.f81,_,Tryd.func81,rfl,by kernel_rfl⟩ ?_ ?_) (orElse_ok (fnP_ok ⟨Tryd.f80,_,Tryd.func80,rfl,by kernel_rfl⟩ ?_ ?_) (fnP_ok ⟨Tryd.f73,_,Tryd.func73,rfl,by kernel_rfl⟩ ?_ ?_))
 ·intro xs v e
  unfold idxFn at e
  split at e
  ·split at e
   ·cases e;exact ⟨rfl,rfl⟩
   ·cases e
  ·cases e
 ·intro xs v e w hb
  unfold idxFn at e
  split at e
  ·split at e
   ·cases e
    obtain ⟨m,hm⟩:=h.below hb
    refine (Tryd.strings_Index _ _ m w ‹_› hm).mono fun e w' ⟨h1,h2⟩=>⟨h1,?_⟩
    rw[h2];exact Below.refl _ _
   ·cases e
  ·cases e
 ·intro xs v e
  unfold cntFn at e
  split at e
  ·split at e
   ·cases e;exact ⟨rfl,rfl⟩
   ·cases e
  ·cases e
 ·intro xs v e w hb
  unfold cntFn at e
  split at e
  ·split at e
   ·rename_i hc
    cases e
    obtain ⟨m,hm⟩:=h.below hb
    refine (Tryd.strings_Count_any _ _ m w hc.1 hm hc.2).mono fun e w' ⟨h1,h2⟩=>⟨h1,?_⟩
    rw[h2];exact Below.refl _ _
   ·cases e
  ·cases e
 ·intro xs v e
  unfold replFn at e
  split at e
  ·split at e
   ·cases e;exact ⟨rfl,rfl⟩
   ·cases e
  ·cases e
 ·intro xs v e w hb
  unfold replFn at e
  split at e
  ·split at e
   ·rename_i hc
    cases e
    obtain ⟨m,hm⟩:=h.below hb
    exact Tryd.strings_Replace _ _ _ _ m w hc.1 hm hc.2.1 hc.2.2
   ·cases e
  ·cases e
noncomputable abbrev PR (w:World):FuncId→List Value→St→Option (Value × List Blk):=
 orElseP (primsOf prims0) (orElseP libP (orElseP (itoaP 35) (joinP (oldOf w) 52)))
noncomputable abbrev EN (w:World) (n:Nat):Env:=callP (oldOf w) many fns (PR w) n
abbrev Tab (w:World):Prop:=Lib.TabIs Tryd.prog w "internal/strconv.uint64pow10" .u64 Lib.pow10Tab∧MaxIs w
theorem prims_ok (W:World) (ht:Tab W):PrimsOK Tryd.prog (PR W) W:=
 orElse_ok (primsOf_ok prims0 prims_all W) (orElse_ok (libP_ok ht.2) (orElse_ok
  (itoaP_ok ⟨Tryd.f35,_,Tryd.func35,rfl,by kernel_rfl⟩ ht.1 Tryd.strconv_Itoa)
  (joinP_ok ⟨Tryd.f52,_,Tryd.func52,rfl,by kernel_rfl⟩ (oldOf_ok W) Tryd.strings_Join_none Tryd.strings_Join)))
theorem law_of {W:World} (ht:Tab W) {f:FuncId} {af:AFun} (hf:fns f=some af) {xs:List Value} (hxs:idsL 0 xs= []) (n:Nat) {v:Value} {s':St} (hb:body (EN W n) af xs St.empty=some (v,s')) (hv:ids 0 v= []):
  Calls Tryd.prog f xs.toArray W fun e w'=>e= .returned v∧Below W.heap.size W w':=
 law_at mixed fns_ok (oldOf_ok W) (prims_ok W ht) hf hxs n hb hv
theorem itoa_s (w:World) (n:Nat) (st:VSt) (k:Int) (h0: -9223372036854775808≤k) (h1:k≤9223372036854775807):VSpecO (EN w (n+1)) 35 st [.sc (.int .i64 k)] (.sc (.string ⟨(Lib.itoa k).toArray⟩)):=
 itoa_o h0 h1 fun xs s r h=>orElse_right rfl (orElse_right rfl (orElse_left h))
theorem join_s (w:World) (n:Nat) (st:VSt) (s:Nat) (hs:s ≠ 1) (ls:List (List UInt8)) (sep:List UInt8) (hl:ls.length≤1099511627776) (hlen:(Lib.join ls sep).length≤140737488355328):
  VSpecO (EN w (n+1)) 52 st [.sl s ls.length (ls.map sD),.sc (.string ⟨sep.toArray⟩)] (.sc (.string ⟨(Lib.join ls sep).toArray⟩)):=
 join_o s hs ls sep hl hlen fun xs s r h=>orElse_right rfl (orElse_right rfl (orElse_right rfl h))
abbrev strV (l:List UInt8):V:= .sc (.string ⟨l.toArray⟩)
theorem index_s (w:World) (n:Nat) (st:VSt) (l t:List UInt8) (hl:l.length≤1000000000):VSpecO (EN w (n+1)) 81 st [strV l,strV t] (.sc (.int .i64 (Lib.index l t))):=
 fn_o (F:=idxFn) (v:= .int .i64 (Lib.index l t)) (ys:= [.string ⟨l.toArray⟩,.string ⟨t.toArray⟩]) (by simp only[idxFn];rw[if_pos (by rw[mk_size];omega)]) rfl fun xs s r h=>orElse_right rfl (orElse_left (orElse_left h))
theorem count_s (w:World) (n:Nat) (st:VSt) (l t:List UInt8) (hl:l.length≤1000000000) (ht:1≤t.length):VSpecO (EN w (n+1)) 80 st [strV l,strV t] (.sc (.int .i64 (Lib.countB ⟨l.toArray⟩ ⟨t.toArray⟩))):=
 fn_o (F:=cntFn) (v:= .int .i64 (Lib.countB ⟨l.toArray⟩ ⟨t.toArray⟩)) (ys:= [.string ⟨l.toArray⟩,.string ⟨t.toArray⟩]) (by simp only[cntFn];rw[if_pos ⟨by rw[mk_size];omega,by rw[mk_size];omega⟩]) rfl fun xs s r h=>orElse_right rfl (orElse_left (orElse_right rfl (orElse_left h)))
theorem repl_s (w:World) (n:Nat) (st:VSt) (l t u:List UInt8) (k:Int) (hl:l.length≤1000000) (ht:1≤t.length) (hu:l.length+Lib.countB ⟨l.toArray⟩ ⟨t.toArray⟩*u.length≤140737488355328):VSpecO (EN w (n+1)) 73 st [strV l,strV t,strV u,.sc (.int .i64 k)] (strV (Lib.replace l t u k)):=
 fn_o (F:=replFn) (v:= .string ⟨(Lib.replace l t u k).toArray⟩) (ys:= [.string ⟨l.toArray⟩,.string ⟨t.toArray⟩,.string ⟨u.toArray⟩,.int .i64 k]) (by simp only[replFn];rw[if_pos ⟨by rw[mk_size];omega,by rw[mk_size];omega,by rw[mk_size,mk_size];exact hu⟩]) rfl fun xs s r h=>orElse_right rfl (orElse_left (orElse_right rfl (orElse_right rfl h)))
end Go.Proofs.YtimmmnanllcfoaaDoor
namespace Go.Itp
set_option linter.unusedVariables false
set_option linter.unusedSimpArgs false
set_option maxRecDepth 10000
structure Sti where
 kind:Nat
 purl:Bool
 a:Int
 b:Int
abbrev wKnit:List UInt8:= [107,110,105,116]
abbrev wPurl:List UInt8:= [112,117,114,108]
abbrev wSlip:List UInt8:= [115,108,105,112]
abbrev wWith:List UInt8:= [119,105,116,104]
abbrev wYarn:List UInt8:= [121,97,114,110]
abbrev wIn:List UInt8:= [105,110]
abbrev wFront:List UInt8:= [102,114,111,110,116]
abbrev wOver:List UInt8:= [111,118,101,114]
abbrev wTog:List UInt8:= [116,111,103,101,116,104,101,114]
abbrev wFirst:List UInt8:= [40,102,105,114,115,116]
abbrev wOn:List UInt8:= [111,110]
abbrev wTop:List UInt8:= [116,111,112,41]
abbrev wMake:List UInt8:= [109,97,107,101]
abbrev wOut:List UInt8:= [111,117,116]
abbrev wOf:List UInt8:= [111,102]
abbrev w1:List UInt8:= [49]
abbrev wWise:List UInt8:= [112,117,114,108,119,105,115,101]
abbrev wCross:List UInt8:= [99,114,111,115,115]
abbrev wBehind:List UInt8:= [98,101,104,105,110,100]
abbrev wCast:List UInt8:= [99,97,115,116]
abbrev wBind:List UInt8:= [98,105,110,100]
abbrev wOff:List UInt8:= [111,102,102]
abbrev wTimes:List UInt8:= [116,105,109,101,115]
theorem Sti.ext' {x y:Sti} (h1:x.kind=y.kind) (h2:x.purl=y.purl) (h3:x.a=y.a) (h4:x.b=y.b):x=y:=by
 cases x;cases y;simp_all
instance:DecidableEq Sti:=fun x y=>decidable_of_iff (x.kind=y.kind∧x.purl=y.purl∧x.a=y.a∧x.b=y.b) ⟨fun ⟨h1,h2,h3,h4⟩=>Sti.ext' h1 h2 h3 h4,fun h=>by subst h;exact ⟨rfl,rfl,rfl,rfl⟩⟩
def sti0:Sti:=⟨0,false,0,0⟩
instance:Inhabited Sti:=⟨sti0⟩
def StiP (x:Sti):Prop:=
 (x.kind=1∨x.kind=8)∧x.a=0∧x.b=0∨
 x.kind=2∧x.purl=false∧x.a=0∧x.b=0∨
 (x.kind=3∨x.kind=4∨x.kind=5)∧2≤x.a∧x.a≤4∧x.b=0∨
 (x.kind=6∨x.kind=7)∧(1≤x.a∧x.a≤6)∧1≤x.b∧x.b≤6∨
 x.kind=9∧x.purl=false∧1≤x.a∧x.a≤200∧x.b=0∨
 x.kind=10∧1≤x.a∧x.a≤200∧x.b=0
instance stiP_dec (x:Sti):Decidable (StiP x):=by unfold StiP;infer_instance
def stiOK (x:Sti):Bool:=decide (StiP x)
theorem stiOK_iff {x:Sti}:stiOK x=true↔StiP x:=by unfold stiOK;exact decide_eq_true_iff
theorem StiP.bounds {x:Sti} (h:StiP x):1≤x.kind∧x.kind≤10∧0≤x.a∧x.a≤200∧0≤x.b∧x.b≤6:=by
 unfold StiP at h
 omega
def sideW (p:Bool):List UInt8:=if p=true then wPurl else wKnit
def wiseW (p:Bool):List (List UInt8):=if p=true then [wWise] else []
def baseW (x:Sti) (n:Int):List (List UInt8):=match x.kind with
 |1=> [sideW x.purl,Lib.itoa n]
 |2=> [wYarn,wOver]
 |3=> [sideW x.purl,Lib.itoa x.a,wTog,wFirst,wOn,wTop]
 |4=> [sideW x.purl,Lib.itoa x.a,wTog]
 |5=> [wMake,Lib.itoa x.a,wOut,wOf,w1]++wiseW x.purl
 |6=> [wCross,Lib.itoa x.a,wIn,wFront,wOf,Lib.itoa x.b]++wiseW x.purl
 |7=> [wCross,Lib.itoa x.a,wBehind,Lib.itoa x.b]++wiseW x.purl
 |8=> [wSlip,Lib.itoa n]++if x.purl=true then [wWith,wYarn,wIn,wFront] else []
 |9=> [wCast,wOn,Lib.itoa x.a]
 |_=> [wBind,wOff,Lib.itoa x.a]++wiseW x.purl
def timesW (x:Sti) (n:Int):List (List UInt8):=if 1<n∧x.kind ≠ 1∧x.kind ≠ 8 then [Lib.itoa n,wTimes] else []
def phraseW (x:Sti) (n:Int):List (List UInt8):=baseW x n++timesW x n
def phraseS (x:Sti) (n:Int):List UInt8:=join 32 (phraseW x n)
theorem itoa_no {z:Int} (h:0≤z) (c:UInt8) (hc:isDig c=false):c ∉ Lib.itoa z:=fun hm=>by
 rw[itoa_dig h c hm] at hc;cases hc
theorem itoa_ne_of {z:Int} (h:0≤z) {c:UInt8} {l:List UInt8} (hc:isDig c=false):Lib.itoa z ≠ c::l:=fun e=>itoa_no h c hc (by rw[e];simp)
def okW (w:List UInt8):Prop:=(32:UInt8) ∉ w∧(44:UInt8) ∉ w∧(10:UInt8) ∉ w∧w ≠ []
theorem okW_itoa {z:Int} (h:0≤z):okW (Lib.itoa z):=⟨itoa_no h _ (by decide),itoa_no h _ (by decide),itoa_no h _ (by decide),itoa_ne⟩
instance okW_dec (w:List UInt8):Decidable (okW w):=by unfold okW;infer_instance
theorem phraseW_ok {x:Sti} {n:Int} (hx:StiP x) (hn:0≤n):∀ w ∈ phraseW x n,okW w:=by
 have hb:=hx.bounds
 have h1:=okW_itoa (z:=n) hn
 have h2:=okW_itoa (z:=x.a) (by omega)
 have h3:=okW_itoa (z:=x.b) (by omega)
 have hs:∀ p,okW (sideW p):=by intro p;cases p<;>decide
 have hw:∀ p,∀ w ∈ wiseW p,okW w:=by intro p;cases p<;>decide
 have hf:∀ p:Bool,∀ w ∈ (if p=true then [wWith,wYarn,wIn,wFront] else []),okW w:=by intro p;cases p<;>decide
 have hc:okW wYarn∧okW wOver∧okW wTog∧okW wFirst∧okW wOn∧okW wTop∧okW wMake∧okW wOut∧okW wOf∧okW w1∧okW wCross∧okW wIn∧okW wFront∧okW wBehind∧okW wSlip∧okW wCast∧okW wBind∧okW wOff∧okW wTimes:=by decide
 obtain ⟨c1,c2,c3,c4,c5,c6,c7,c8,c9,c10,c11,c12,c13,c14,c15,c16,c17,c18,c19⟩:=hc
 intro w hm
 unfold phraseW at hm
 rcases List.mem_append.1 hm with hm|hm
 ·obtain ⟨k,p,a,b⟩:=x
  unfold baseW at hm
  simp only at hm h2 h3 hb
  split at hm
  all_goals
   simp only[List.cons_append,List.nil_append,List.mem_cons,List.not_mem_nil,or_false] at hm
  ·rcases hm with rfl|rfl<;>first|exact hs p|assumption
  ·rcases hm with rfl|rfl<;>assumption
  ·rcases hm with rfl|rfl|rfl|rfl|rfl|rfl<;>first|exact hs p|assumption
  ·rcases hm with rfl|rfl|rfl<;>first|exact hs p|assumption
  ·rcases hm with rfl|rfl|rfl|rfl|rfl|hm<;>first|exact hw p w hm|assumption
  ·rcases hm with rfl|rfl|rfl|rfl|rfl|rfl|hm<;>first|exact hw p w hm|assumption
  ·rcases hm with rfl|rfl|rfl|rfl|hm<;>first|exact hw p w hm|assumption
  ·rcases hm with rfl|rfl|hm<;>first|exact hf p w hm|assumption
  ·rcases hm with rfl|rfl|rfl<;>assumption
  ·rcases hm with rfl|rfl|rfl|hm<;>first|exact hw p w hm|assumption
 ·unfold timesW at hm
  split at hm
  ·simp only[List.mem_cons,List.not_mem_nil,or_false] at hm
   rcases hm with rfl|rfl<;>assumption
  ·cases hm
theorem baseW_ne (x:Sti) (n:Int):baseW x n ≠ []:=by
 unfold baseW;split<;>simp
theorem phraseW_ne (x:Sti) (n:Int):phraseW x n ≠ []:=by
 unfold phraseW;simp[baseW_ne]
theorem phraseS_words {x:Sti} {n:Int} (hx:StiP x) (hn:0≤n):words 32 (phraseS x n)=phraseW x n:=
 words_join (phraseW_ne x n) fun w hw=>(phraseW_ok hx hn w hw).1
def numN (l:List UInt8):Int:=match Lib.atoiAll l with
 | .ok v=>v
 |_=>0
theorem numN_itoa {z:Int} (h0:0≤z) (h1:z≤1000000):numN (Lib.itoa z)=z:=by
 unfold numN;rw[atoi_itoa h0 (by omega)]
def offT (ws:List (List UInt8)):List (List UInt8) × Int:=match ws.reverse with
 |t::n::r=>if t=wTimes then (r.reverse,numN n) else (ws,1)
 |_=>(ws,1)
def decB (ws:List (List UInt8)) (n:Int):Sti × Int:=
 let h:=ws.headD []
 let at1:=numN (ws.getD 1 [])
 let ws2:=decide (wWise ∈ ws)
 if h=wYarn then (⟨2,false,0,0⟩,n)
 else if h=wMake then (⟨5,ws2,at1,0⟩,n)
 else if h=wCross then (if ws.getD 2 []=wIn then (⟨6,ws2,at1,numN (ws.getD 5 [])⟩,n) else (⟨7,ws2,at1,numN (ws.getD 3 [])⟩,n))
 else if h=wCast then (⟨9,false,numN (ws.getD 2 []),0⟩,n)
 else if h=wBind then (⟨10,ws2,numN (ws.getD 2 []),0⟩,n)
 else if h=wSlip then (⟨8,decide (2<ws.length),0,0⟩,at1)
 else if ws.length=2 then (⟨1,decide (h=wPurl),0,0⟩,at1)
 else if ws.length=3 then (⟨4,decide (h=wPurl),at1,0⟩,n)
 else (⟨3,decide (h=wPurl),at1,0⟩,n)
def decW (ws:List (List UInt8)):Sti × Int:=decB (offT ws).1 (offT ws).2
theorem offT_times (B:List (List UInt8)) {n:Int} (h0:0≤n) (h1:n≤1000000):offT (B++ [Lib.itoa n,wTimes])=(B,n):=by
 unfold offT
 simp only[List.reverse_append,List.reverse_cons,List.reverse_nil,List.nil_append,List.cons_append,List.reverse_reverse,if_true,numN_itoa h0 h1]
theorem decB_base {x:Sti} {n:Int} (hx:StiP x) (h0:0≤n) (h1:n≤1000) (m:Int) (hm:x.kind ≠ 1→x.kind ≠ 8→m=n):decB (baseW x n) m=(x,n):=by
 have hb:=hx.bounds
 have n1:=numN_itoa (z:=n) h0 (by omega)
 have n2:=numN_itoa (z:=x.a) (by omega) (by omega)
 have n3:=numN_itoa (z:=x.b) (by omega) (by omega)
 have q1:Lib.itoa n ≠ wWise:=itoa_ne_of h0 (by decide)
 have q2:Lib.itoa x.a ≠ wWise:=itoa_ne_of (by omega) (by decide)
 have q3:Lib.itoa x.b ≠ wWise:=itoa_ne_of (by omega) (by decide)
 obtain ⟨k,p,a,b⟩:=x
 unfold StiP at hx
 simp only at hx n1 n2 n3 q1 q2 q3 hm
 have r2:=Ne.symm q2
 have r3:=Ne.symm q3
 rcases hx with ⟨rfl|rfl,rfl,rfl⟩|⟨rfl,rfl,rfl,rfl⟩|⟨rfl|rfl|rfl,h2,h3,rfl⟩|⟨rfl|rfl,h2,h3⟩|⟨rfl,rfl,h2,h3,rfl⟩|⟨rfl,h2,h3,rfl⟩
 all_goals
  try (have hm:=hm (by decide) (by decide);subst hm)
  first
  |(cases p<;>simp[decB,baseW,sideW,wiseW,n1,n2,n3,r2,r3])
  |simp[decB,baseW,sideW,wiseW,n1,n2,n3,r2,r3]
theorem offT_none (B:List (List UInt8)) (h:∀ w,B.getLast? =some w→w ≠ wTimes):offT B=(B,1):=by
 unfold offT
 cases hr:B.reverse with
 |nil=>rfl
 |cons t r=>
  have hl:B.getLast? =some t:=by rw[← List.head?_reverse,hr];rfl
  cases r with
  |nil=>rfl
  |cons n r=>simp only[if_neg (h t hl)]
theorem decW_phrase {x:Sti} {n:Int} (hx:StiP x) (h0:1≤n) (h1:n≤1000):decW (phraseW x n)=(x,n):=by
 unfold decW phraseW timesW
 by_cases ht:1<n∧x.kind ≠ 1∧x.kind ≠ 8
 ·rw[if_pos ht,offT_times _ (by omega) (by omega)]
  exact decB_base hx (by omega) h1 n fun _ _=>rfl
 ·rw[if_neg ht,List.append_nil,offT_none]
  ·exact decB_base hx (by omega) h1 1 fun a b=>by
    have:¬ 1<n:=fun h=>ht ⟨h,a,b⟩
    omega
  ·have hb:=hx.bounds
   have q1:Lib.itoa n ≠ wTimes:=itoa_ne_of (by omega) (by decide)
   have q2:Lib.itoa x.a ≠ wTimes:=itoa_ne_of (by omega) (by decide)
   have q3:Lib.itoa x.b ≠ wTimes:=itoa_ne_of (by omega) (by decide)
   have r1:=Ne.symm q1
   have r2:=Ne.symm q2
   have r3:=Ne.symm q3
   intro w hw e
   subst e
   obtain ⟨k,p,a,b⟩:=x
   simp only at r1 r2 r3
   unfold baseW at hw
   simp only at hw
   split at hw
   all_goals
    revert hw
    cases p<;>simp[wiseW,sideW,q1,q2,q3,r1,r2,r3]
def readS (s:List UInt8):Option (Sti × Int):=
 let r:=decW (words 32 s)
 if StiP r.1∧(1≤r.2∧r.2≤200)∧phraseS r.1 r.2=s then some r else none
theorem readS_some {s:List UInt8} {x:Sti} {n:Int} (h:readS s=some (x,n)):StiP x∧(1≤n∧n≤200)∧phraseS x n=s:=by
 unfold readS at h
 generalize decW (words 32 s)=r at h
 simp only at h
 split at h
 ·rename_i hc
  cases h
  exact hc
 ·cases h
theorem readS_phrase {x:Sti} {n:Int} (hx:StiP x) (h0:1≤n) (h1:n≤200):readS (phraseS x n)=some (x,n):=by
 unfold readS
 simp only[phraseS_words hx (by omega:0≤n),decW_phrase hx h0 (by omega:n≤1000)]
 rw[if_pos ⟨hx,⟨h0,h1⟩,trivial⟩]
end Go.Itp
namespace Go.Itp
set_option linter.unusedVariables false
set_option linter.unusedSimpArgs false
set_option maxRecDepth 10000
def usedS (x:Sti):Int:=if x.kind=2∨x.kind=9 then 0 else if x.kind=3∨x.kind=4∨x.kind=10 then x.a else if x.kind=6∨x.kind=7 then x.a+x.b else 1
def madeS (x:Sti):Int:=if x.kind=10 then 0 else if x.kind=5∨x.kind=9 then x.a else if x.kind=6∨x.kind=7 then x.a+x.b else 1
def sumS (f:Sti→Int):List Sti→Int
 | []=>0
 |x::l=>f x+sumS f l
def allF (L:List Sti):Int:=if 200<L.length then 4 else if L.all stiOK=true then (if 200<sumS usedS L∨200<sumS madeS L then 4 else 0) else 8
def runsS:List Sti→List (Sti × Nat)
 | []=> []
 |x::l=>match runsS l with
  | []=> [(x,1)]
  |(y,n)::r=>if y=x then (x,n+1)::r else (x,1)::(y,n)::r
def phr (r:Sti × Nat):List UInt8:=phraseS r.1 r.2
def jnC:List (List UInt8)→List UInt8
 | []=> []
 | [w]=>w
 |w::ws=>w++44::32::jnC ws
theorem jnC_cons (w:List UInt8) {ws:List (List UInt8)} (h:ws ≠ []):jnC (w::ws)=w++44::32::jnC ws:=by
 cases ws with
 |nil=>exact absurd rfl h
 |cons a r=>rfl
theorem jnC_eq:∀ ws,jnC ws=Lib.join ws [44,32]
 | []=>rfl
 | [w]=>by simp[jnC,Lib.join,List.intercalate]
 |w::v::ws=>by
  rw[jnC_cons w (by simp),jnC_eq (v::ws)]
  simp[Lib.join,List.intercalate]
theorem jnC_snoc:∀ (ws:List (List UInt8)) (w:List UInt8),ws ≠ []→jnC (ws++ [w])=jnC ws++44::32::w
 | [],w,h=>absurd rfl h
 | [v],w,_=>rfl
 |v::u::ws,w,_=>by
  rw[List.cons_append,jnC_cons v (by simp),jnC_snoc (u::ws) w (by simp),jnC_cons v (by simp)]
  simp
def nothingS:List UInt8:= [110,111,116,104,105,110,103]
def wordsS (L:List Sti):List UInt8:=if L= [] then nothingS else jnC ((runsS L).map phr)
def cellsF (L:List Sti):List UInt8 × Int:=if allF L=0 then (if 2000<(wordsS L).length then ([],4) else (wordsS L,0)) else ([],allF L)
theorem allF_ok {L:List Sti} (h:allF L=0):L.length≤200∧L.all stiOK=true∧sumS usedS L≤200∧sumS madeS L≤200:=by
 unfold allF at h
 split at h
 ·exact absurd h (by decide)
 split at h
 ·split at h
  ·exact absurd h (by decide)
  ·rename_i h1 h2 h3
   exact ⟨by omega,h2,by omega,by omega⟩
 ·exact absurd h (by decide)
def flatR (R:List (Sti × Nat)):List Sti:=R.flatMap fun r=>List.replicate r.2 r.1
theorem runsS_flat:∀ L,flatR (runsS L)=L
 | []=>rfl
 |x::l=>by
  have ih:=runsS_flat l
  rw[runsS]
  cases hr:runsS l with
  |nil=>rw[hr] at ih;simp[flatR] at ih ⊢;exact ih
  |cons y r=>
   obtain ⟨y,n⟩:=y
   rw[hr] at ih
   simp only[flatR,List.flatMap_cons] at ih
   by_cases e:y=x
   ·simp only[if_pos e,flatR,List.flatMap_cons,List.replicate_succ,List.cons_append]
    rw[← e,ih]
   ·simp only[if_neg e,flatR,List.flatMap_cons]
    rw[ih];rfl
theorem runsS_pos:∀ L,∀ r ∈ runsS L,1≤r.2∧r.2≤L.length∧r.1 ∈ L
 | [],r,h=>by cases h
 |x::l,r,h=>by
  have ih:=runsS_pos l
  rw[runsS] at h
  cases hr:runsS l with
  |nil=>
   rw[hr] at h
   simp only[List.mem_singleton] at h
   subst h
   simp
  |cons y q=>
   obtain ⟨y,n⟩:=y
   rw[hr] at h ih
   simp only at h
   have h1:=ih (y,n) (by simp)
   split at h
   ·rcases List.mem_cons.1 h with rfl|h
    ·simp only[List.length_cons,List.mem_cons,true_or,and_true];omega
    ·have:=ih r (List.mem_cons_of_mem _ h)
     exact ⟨this.1,by simp;omega,List.mem_cons_of_mem _ this.2.2⟩
   ·rcases List.mem_cons.1 h with rfl|h
    ·simp
    ·have:=ih r h
     exact ⟨this.1,by simp;omega,List.mem_cons_of_mem _ this.2.2⟩
theorem runsS_ne {L:List Sti} (h:L ≠ []):runsS L ≠ []:=fun e=>h (by rw[← runsS_flat L,e];rfl)
theorem flatR_cons (r:Sti × Nat) (R:List (Sti × Nat)):flatR (r::R)=List.replicate r.2 r.1++flatR R:=rfl
def consH (c:UInt8):List (List UInt8)→List (List UInt8)
 | []=> [[c]]
 |w::ws=>(c::w)::ws
def splitC:List UInt8→List (List UInt8)
 | []=> [[]]
 | [c]=> [[c]]
 |c::d::r=>if c=44∧d=32 then []::splitC r else consH c (splitC (d::r))
theorem splitC_ne:∀ s,splitC s ≠ []
 | []=>by simp[splitC]
 | [c]=>by simp[splitC]
 |c::d::r=>by
  rw[splitC]
  split
  ·simp
  ·cases splitC (d::r)<;>simp[consH]
theorem splitC_step {c d:UInt8} {r:List UInt8} (h:¬ (c=44∧d=32)):splitC (c::d::r)=consH c (splitC (d::r)):=by rw[splitC,if_neg h]
def rawS:List (List UInt8)→List Sti→Option (List Sti)
 | [],acc=>some acc
 |p::ps,acc=>match readS p with
  |none=>none
  |some (x,n)=>if 200<(acc.length:Int)+n then none else rawS ps (acc++List.replicate n.toNat x)
def readC41 (s:List UInt8):Option (List Sti):=if 2000<s.length then none else if s=nothingS then some [] else match rawS (splitC s) [] with
 |none=>none
 |some L=>if allF L=0∧wordsS L=s then some L else none
def parseC (s:List UInt8):List Sti × Int:=match readC41 s with
 |none=>([],12)
 |some L=>(L,0)
theorem readC41_some {s:List UInt8} {L:List Sti} (h:readC41 s=some L):cellsF L=(s,0):=by
 unfold readC41 at h
 split at h
 ·cases h
 rename_i hs
 split at h
 ·rename_i he
  cases h
  rw[he]
  rfl
 ·cases hr:rawS (splitC s) [] with
  |none=>rw[hr] at h;cases h
  |some M=>
   rw[hr] at h
   simp only at h
   split at h
   ·rename_i hc
    cases h
    unfold cellsF
    rw[if_pos hc.1,if_neg (by rw[hc.2];exact hs),hc.2]
   ·cases h
def faceS (b:Bool):List UInt8:=if b=true then [98,97,99,107] else [102,114,111,110,116]
def faceW (b:Bool):List UInt8:=40::faceS b++ [41,58]
def rowW:List UInt8:= [114,111,119]
def headS (b:Bool) (n:Int):List UInt8:=rowW++32::(Lib.itoa n++32::(faceW b++ [32]))
def rowF (b:Bool) (L:List Sti) (n:Int):List UInt8 × Int:=if allF L=0 then (if n<1∨100<n then ([],2) else if (cellsF L).2=0 then (headS b n++(cellsF L).1++ [46],0) else ([],(cellsF L).2)) else ([],allF L)
open Classical in
noncomputable def readR (s:List UInt8):Option (Bool × List Sti × Int):=if h:∃ r:Bool × List Sti × Int,rowF r.1 r.2.1 r.2.2=(s,0) then some (Classical.choose h) else none
abbrev ChT:=Int × List (Bool × List Sti)
def rowsE:List (Bool × List Sti)→Int
 | []=>0
 |r::l=>if allF r.2=0 then rowsE l else allF r.2
def checkF (c:ChT):Int:=if 100<c.2.length then 4 else if c.1<0∨200<c.1 then 8 else rowsE c.2
def linesF:Int→List (Bool × List Sti)→List UInt8 × Int
 |_,[]=>([],0)
 |n,r::l=>if (rowF r.1 r.2 n).2=0 then (if (linesF (n+1) l).2=0 then ((rowF r.1 r.2 n).1++10::(linesF (n+1) l).1,0) else ([],(linesF (n+1) l).2)) else ([],(rowF r.1 r.2 n).2)
def startS (n:Int):List UInt8:= [115,116,97,114,116]++32::([119,105,116,104]++32::(Lib.itoa n++32:: [115,116,105,116,99,104,101,115,46]))
def chartF (c:ChT):List UInt8 × Int:=if checkF c=0 then (if (linesF 1 c.2).2=0 then (if 60000<(startS c.1++10::(linesF 1 c.2).1).length then ([],4) else (startS c.1++10::(linesF 1 c.2).1,0)) else ([],(linesF 1 c.2).2)) else ([],checkF c)
open Classical in
noncomputable def readT (s:List UInt8):Option ChT:=if h:∃ c:ChT,chartF c=(s,0) then some (Classical.choose h) else none
end Go.Itp
namespace Go.Itp
set_option linter.unusedVariables false
set_option linter.unusedSimpArgs false
set_option maxRecDepth 10000
def sideB (p:Bool):List UInt8:=if p=true then [112,117,114,108] else [107,110,105,116]
def wiseB (p:Bool):List UInt8:=if p=true then [32,112,117,114,108,119,105,115,101] else []
def fParts (k:Nat) (p:Bool):List (List UInt8):=match k with
 |1=> [sideB p++ [32],[]]
 |2=> [[121,97,114,110,32,111,118,101,114]]
 |3=> [sideB p++ [32],[32,116,111,103,101,116,104,101,114,32,40,102,105,114,115,116,32,111,110,32,116,111,112,41]]
 |4=> [sideB p++ [32],[32,116,111,103,101,116,104,101,114]]
 |5=> [[109,97,107,101,32],[32,111,117,116,32,111,102,32,49]++wiseB p]
 |6=> [[99,114,111,115,115,32],[32,105,110,32,102,114,111,110,116,32,111,102,32],wiseB p]
 |7=> [[99,114,111,115,115,32],[32,98,101,104,105,110,100,32],wiseB p]
 |8=> [[115,108,105,112,32],if p=true then [32,119,105,116,104,32,121,97,114,110,32,105,110,32,102,114,111,110,116] else []]
 |9=> [[99,97,115,116,32,111,110,32],[]]
 |_=> [[98,105,110,100,32,111,102,102,32],wiseB p]
def formB (k:Nat) (p:Bool):List UInt8:=join 35 (fParts k p)
def countB (k:Nat):Bool:=decide (k=1∨k=8)
theorem fParts_no:∀ k p,∀ w ∈ fParts k p,(35:UInt8) ∉ w:=by
 intro k p
 unfold fParts
 split<;>cases p<;>decide
theorem formB_words (k:Nat) (p:Bool):words 35 (formB k p)=fParts k p:=
 words_join (by unfold fParts;split<;>simp) (fParts_no k p)
def fill:List (List UInt8)→List Int→List UInt8
 | [],_=> []
 | [p],_=>p
 |p::ps,[]=>p++35::fill ps []
 |p::ps,v::vs=>p++(Lib.itoa v++fill ps vs)
def numsS (x:Sti) (n:Int):List Int:=if x.kind=1∨x.kind=8 then [n] else [x.a,x.b]
def timesB (x:Sti) (n:Int):List UInt8:=if 1<n∧x.kind ≠ 1∧x.kind ≠ 8 then 32::(Lib.itoa n++32::wTimes) else []
theorem phraseS_fill {x:Sti} (n:Int) (hx:StiP x):phraseS x n=fill (fParts x.kind x.purl) (numsS x n)++timesB x n:=by
 have hb:∀ B:List (List UInt8),B ≠ []→join 32 (B++timesW x n)=join 32 B++timesB x n:=fun B hB=>by
  unfold timesW timesB
  split
  ·rw[show B++ [Lib.itoa n,wTimes]=(B++ [Lib.itoa n])++ [wTimes] from by simp,join_snoc _ _ (by simp),join_snoc _ _ hB]
   simp
  ·simp
 unfold phraseS phraseW
 rw[hb _ (baseW_ne x n)]
 congr 1
 obtain ⟨k,p,a,b⟩:=x
 unfold StiP at hx
 simp only at hx
 rcases hx with ⟨rfl|rfl,rfl,rfl⟩|⟨rfl,rfl,rfl,rfl⟩|⟨rfl|rfl|rfl,h2,h3,rfl⟩|⟨rfl|rfl,h2,h3⟩|⟨rfl,rfl,h2,h3,rfl⟩|⟨rfl,h2,h3,rfl⟩
 all_goals
  first
  |(cases p<;>simp[baseW,sideW,wiseW,join,fParts,fill,numsS,sideB,wiseB])
  |simp[baseW,sideW,wiseW,join,fParts,fill,numsS,sideB,wiseB]
def digsP (s:List UInt8):List UInt8:=(s.take 4).takeWhile isDig
def valP:List UInt8→Int
 |l=>l.foldl (fun a d=>10*a+((d.toNat:Int) - 48)) 0
def restP (s:List UInt8):List UInt8:=s.drop (digsP s).length
theorem tw_all:∀ (w:List UInt8),(∀ c ∈ w,isDig c=true)→w.takeWhile isDig=w
 | [],_=>rfl
 |c::w,h=>by rw[List.takeWhile_cons,h c (by simp),if_pos rfl,tw_all w fun x hx=>h x (List.mem_cons_of_mem _ hx)]
theorem digsP_app {w r:List UInt8} (hw:∀ c ∈ w,isDig c=true) (hl:w.length≤4) (hr:w.length=4∨∀ c,r.head? =some c→isDig c=false):digsP (w++r)=w:=by
 unfold digsP
 rw[List.take_append,List.take_of_length_le hl,List.takeWhile_append]
 have h1:w.takeWhile isDig=w:=tw_all w hw
 rw[h1,if_pos rfl]
 rcases hr with h|h
 ·rw[h];simp
 ·cases r with
  |nil=>simp
  |cons c r=>
   have:=h c rfl
   cases hk:4 - w.length with
   |zero=>simp
   |succ k=>rw[List.take_succ_cons,List.takeWhile_cons,this];simp
theorem valP_snoc (l:List UInt8) (d:UInt8):valP (l++ [d])=10*valP l+((d.toNat:Int) - 48):=by simp[valP]
theorem valP_digits:∀ (n u:Nat),u≤n→valP (Lib.decDigits u)=u
 |n,u,hn=>by
  rw[Lib.decDigits]
  split
  ·rename_i h
   have:=(dig_ofNat h).2
   simp only[valP,List.foldl_cons,List.foldl_nil,this]
   omega
  ·cases n with
   |zero=>omega
   |succ n=>
    rw[valP_snoc,valP_digits n (u / 10) (by omega),(dig_ofNat (show u % 10<10 by omega)).2]
    omega
theorem valP_itoa {z:Int} (h:0≤z):valP (Lib.itoa z)=z:=by
 obtain ⟨u,rfl⟩:=Int.eq_ofNat_of_zero_le h
 rw[Lib.itoa_nonneg]
 exact valP_digits u u (Nat.le_refl _)
theorem itoa_len4 {z:Int} (h:0≤z) (h1:z≤9999):(Lib.itoa z).length≤4:=by
 obtain ⟨u,rfl⟩:=Int.eq_ofNat_of_zero_le h
 rw[Lib.itoa_nonneg]
 exact decDigits_len 3 u (by omega)
def noDig (r:List UInt8):Prop:=∀ c,r.head? =some c→isDig c=false
theorem digsP_itoa {z:Int} (h:0≤z) (h1:z≤9999) {r:List UInt8} (hr:noDig r):digsP (Lib.itoa z++r)=Lib.itoa z:=
 digsP_app (itoa_dig h) (itoa_len4 h h1) (.inr hr)
theorem restP_itoa {z:Int} (h:0≤z) (h1:z≤9999) {r:List UInt8} (hr:noDig r):restP (Lib.itoa z++r)=r:=by
 unfold restP
 rw[digsP_itoa h h1 hr,List.drop_left]
def cutPre (p s:List UInt8):Option (List UInt8):=if p.length≤s.length∧s.take p.length=p then some (s.drop p.length) else none
theorem cutPre_app (p r:List UInt8):cutPre p (p++r)=some r:=by
 unfold cutPre
 rw[if_pos ⟨by simp,by simp⟩]
 simp
def matchR:List (List UInt8)→List UInt8→List Int→Option (List Int × List UInt8)
 | [],s,l=>some (l,s)
 |p::ps,s,l=>if digsP s= [] then none else match cutPre p (restP s) with
  |none=>none
  |some t=>matchR ps t (l++ [valP (digsP s)])
def matchF (f:List (List UInt8)) (s:List UInt8):Option (List Int × List UInt8):=match f with
 | []=>some ([],s)
 |p::ps=>match cutPre p s with
  |none=>none
  |some t=>matchR ps t []
theorem matchR_len:∀ (ps:List (List UInt8)) (s:List UInt8) (l m:List Int) (r:List UInt8),matchR ps s l=some (m,r)→m.length=l.length+ps.length∧r.length≤s.length
 | [],s,l,m,r,h=>by cases h;simp
 |p::ps,s,l,m,r,h=>by
  rw[matchR] at h
  split at h
  ·cases h
  ·cases hc:cutPre p (restP s) with
   |none=>rw[hc] at h;cases h
   |some t=>
    rw[hc] at h
    have:=matchR_len ps t _ m r h
    unfold cutPre at hc
    split at hc
    ·cases hc
     rw[List.length_append,List.length_drop] at this
     unfold restP at this
     rw[List.length_drop] at this
     simp only[List.length_cons,List.length_nil] at this ⊢
     omega
    ·cases hc
theorem matchF_len {f:List (List UInt8)} {s r:List UInt8} {m:List Int} (hf:f ≠ []) (h:matchF f s=some (m,r)):m.length+1=f.length∧r.length≤s.length:=by
 cases f with
 |nil=>exact absurd rfl hf
 |cons p ps=>
  unfold matchF at h
  cases hc:cutPre p s with
  |none=>simp only[hc] at h;cases h
  |some t=>
   simp only[hc] at h
   have:=matchR_len ps t [] m r h
   unfold cutPre at hc
   split at hc
   ·cases hc
    rw[List.length_drop] at this
    simp only[List.length_cons,List.length_nil] at this ⊢
    omega
   ·cases hc
theorem matchR_fill:∀ (ps:List (List UInt8)) (v:Int) (vs:List Int) (r:List UInt8) (l:List Int),ps ≠ []→vs.length+1=ps.length→(∀ z ∈ v::vs,0≤z∧z≤9999)→(∀ p ∈ ps.dropLast,p ≠ [])→(∀ p ∈ ps,noDig p)→noDig r→
  matchR ps (Lib.itoa v++fill ps vs++r) l=some (l++v::vs,r)
 | [],v,vs,r,l,h,_,_,_,_,_=>absurd rfl h
 | [p],v,vs,r,l,_,hl,hv,hne,hp,hr=>by
  have:vs= []:=by cases vs with
   |nil=>rfl
   |cons a b=>simp at hl
  subst this
  have h0:=hv v (by simp)
  have hnd:noDig (p++r):=by
   cases p with
   |nil=>exact hr
   |cons c q=>intro d hd;exact hp (c::q) (by simp) d (by simpa using hd)
  rw[fill,List.append_assoc,matchR,digsP_itoa h0.1 h0.2 hnd,if_neg itoa_ne,restP_itoa h0.1 h0.2 hnd,cutPre_app,valP_itoa h0.1]
  rfl
 |p::q::ps,v,vs,r,l,_,hl,hv,hne,hp,hr=>by
  cases vs with
  |nil=>simp at hl
  |cons u us=>
   have h0:=hv v (by simp)
   have hpn:=hne p (by simp)
   have hnd:noDig (p++(Lib.itoa u++fill (q::ps) us++r)):=by
    cases p with
    |nil=>exact absurd rfl hpn
    |cons c t=>intro d hd;exact hp (c::t) (by simp) d (by simpa using hd)
   have e:Lib.itoa v++fill (p::q::ps) (u::us)++r=Lib.itoa v++(p++(Lib.itoa u++fill (q::ps) us++r)):=by
    rw[fill]
    ·simp
    ·simp
   rw[e,matchR,digsP_itoa h0.1 h0.2 hnd,if_neg itoa_ne,restP_itoa h0.1 h0.2 hnd,cutPre_app,valP_itoa h0.1]
   simp only
   rw[matchR_fill (q::ps) u us r _ (by simp) (by simpa using hl) (fun z hz=>hv z (List.mem_cons_of_mem _ hz)) (fun z hz=>hne z (by simp at hz ⊢;exact .inr hz)) (fun z hz=>hp z (List.mem_cons_of_mem _ hz)) hr]
   simp
def timesE:List UInt8:=32::wTimes
def cutSuf (p s:List UInt8):Option (List UInt8):=if p.length≤s.length∧s.drop (s.length - p.length)=p then some (s.take (s.length - p.length)) else none
theorem cutSuf_app (p r:List UInt8):cutSuf p (r++p)=some r:=by
 unfold cutSuf
 rw[if_pos ⟨by simp,by simp⟩]
 simp
def candX (k:Nat) (p:Bool) (m:List Int):Sti:=if countB k=true then ⟨k,p,0,0⟩ else match m with
 | [a,b]=>⟨k,p,a,b⟩
 | [a]=>⟨k,p,a,0⟩
 |_=>⟨k,p,0,0⟩
def candN (k:Nat) (m:List Int) (rest:List UInt8):Int × List UInt8:=if countB k=true then (m.headD 0,rest) else match cutSuf timesE rest with
 |none=>(1,rest)
 |some t=>(valP (digsP ((cutPre [32] t).getD t)),restP ((cutPre [32] t).getD t))
def candC (x:Sti) (q:Int × List UInt8) (s:List UInt8):Option (Sti × Int):=if q.2= []∧(1≤q.1∧q.1≤200)∧StiP x∧phraseS x q.1=s then some (x,q.1) else none
def candP (k:Nat) (p:Bool) (s:List UInt8):Option (Sti × Int):=match matchF (fParts k p) s with
 |none=>none
 |some (m,r)=>candC (candX k p m) (candN k m r) s
theorem candC_some {x y:Sti} {q:Int × List UInt8} {s:List UInt8} {n:Int} (h:candC x q s=some (y,n)):readS s=some (y,n):=by
 unfold candC at h
 split at h
 ·rename_i hc
  cases h
  rw[← hc.2.2.2]
  exact readS_phrase hc.2.2.1 hc.2.1.1 hc.2.1.2
 ·cases h
theorem candP_some {k:Nat} {p:Bool} {s:List UInt8} {x:Sti} {n:Int} (h:candP k p s=some (x,n)):readS s=some (x,n):=by
 unfold candP at h
 cases hm:matchF (fParts k p) s with
 |none=>rw[hm] at h;cases h
 |some r=>
  obtain ⟨m,r⟩:=r
  rw[hm] at h
  exact candC_some h
instance noDig_dec (r:List UInt8):Decidable (noDig r):=decidable_of_iff (r.head?.all (fun c=> !isDig c)=true) (by
 cases r with
 |nil=>simp[noDig]
 |cons c r=>simp[noDig])
theorem fParts_dig:∀ k p,∀ w ∈ fParts k p,noDig w:=by
 intro k p
 unfold fParts
 split<;>cases p<;>decide
theorem fParts_mid:∀ k p,∀ w ∈ (fParts k p).tail.dropLast,w ≠ []:=by
 intro k p
 unfold fParts
 split<;>cases p<;>decide
theorem timesB_dig (x:Sti) (n:Int):noDig (timesB x n):=by
 unfold timesB
 split
 ·intro c hc;cases hc;decide
 ·intro c hc;cases hc
theorem match_phrase {x:Sti} {n:Int} (hx:StiP x) (h0:1≤n) (h1:n≤200):matchF (fParts x.kind x.purl) (phraseS x n)=some (if x.kind=2 then [] else (if x.kind=6∨x.kind=7 then [x.a,x.b] else if x.kind=1∨x.kind=8 then [n] else [x.a]),timesB x n):=by
 rw[phraseS_fill n hx]
 have hd:=fParts_dig x.kind x.purl
 have hm:=fParts_mid x.kind x.purl
 have ht:=timesB_dig x n
 have hb:=hx.bounds
 have two:∀ (p q:List UInt8) (v:Int),0≤v→v≤9999→noDig q→∀ t,noDig t→matchF [p,q] (fill [p,q] [v]++t)=some ([v],t):=fun p q v a b c t d=>by
  rw[fill,List.append_assoc,matchF,cutPre_app]
  ·have:=matchR_fill [q] v [] t [] (by simp) rfl (by simp;omega) (by simp) (by simpa using c) d
   exact this
  ·simp
 have one:∀ p t:List UInt8,matchF [p] (p++t)=some ([],t):=fun p t=>by
  unfold matchF
  simp only[cutPre_app]
  rfl
 have two':∀ (p q:List UInt8) (v u:Int),0≤v→v≤9999→noDig q→∀ t,noDig t→matchF [p,q] (fill [p,q] [v,u]++t)=some ([v],t):=fun p q v u a b c t d=>by
  have:=two p q v a b c t d
  have e:fill [p,q] [v,u]=fill [p,q] [v]:=by
   rw[fill,fill,fill,fill]<;>simp
  rw[e];exact this
 have three:∀ (p q r:List UInt8) (v u:Int),0≤v→v≤9999→0≤u→u≤9999→noDig q→q ≠ []→noDig r→∀ t,noDig t→matchF [p,q,r] (fill [p,q,r] [v,u]++t)=some ([v,u],t):=fun p q r v u a b a' b' c c' d t e=>by
  rw[fill,List.append_assoc,matchF,cutPre_app]
  ·have:=matchR_fill [q,r] v [u] t [] (by simp) rfl (by simp;omega) (by simpa using c') (by simpa using ⟨c,d⟩) e
   exact this
  ·simp
 obtain ⟨k,p,a,b⟩:=x
 unfold StiP at hx
 simp only at hx hb hd hm ht ⊢
 rcases hx with ⟨rfl|rfl,rfl,rfl⟩|⟨rfl,rfl,rfl,rfl⟩|⟨rfl|rfl|rfl,h2,h3,rfl⟩|⟨rfl|rfl,h2,h3⟩|⟨rfl,rfl,h2,h3,rfl⟩|⟨rfl,h2,h3,rfl⟩
 ·exact two _ _ n (by omega) (by omega) (hd _ (by simp[fParts])) _ ht
 ·exact two _ _ n (by omega) (by omega) (hd _ (by simp[fParts])) _ ht
 ·exact one _ _
 ·exact two' _ _ a 0 (by omega) (by omega) (hd _ (by simp[fParts])) _ ht
 ·exact two' _ _ a 0 (by omega) (by omega) (hd _ (by simp[fParts])) _ ht
 ·exact two' _ _ a 0 (by omega) (by omega) (hd _ (by simp[fParts])) _ ht
 ·exact three _ _ _ a b (by omega) (by omega) (by omega) (by omega) (hd _ (by simp[fParts])) (hm _ (by simp[fParts])) (hd _ (by simp[fParts])) _ ht
 ·exact three _ _ _ a b (by omega) (by omega) (by omega) (by omega) (hd _ (by simp[fParts])) (hm _ (by simp[fParts])) (hd _ (by simp[fParts])) _ ht
 ·exact two' _ _ a 0 (by omega) (by omega) (hd _ (by simp[fParts])) _ ht
 ·exact two' _ _ a 0 (by omega) (by omega) (hd _ (by simp[fParts])) _ ht
theorem candN_times {x:Sti} {n:Int} (hk:¬ (x.kind=1∨x.kind=8)) (h0:1≤n) (h1:n≤200) (m:List Int):candN x.kind m (timesB x n)=(n,[]):=by
 unfold candN countB
 rw[decide_eq_false hk,if_neg (by decide)]
 unfold timesB
 by_cases h2:1<n
 ·rw[if_pos ⟨h2,fun e=>hk (.inl e),fun e=>hk (.inr e)⟩,show (32::(Lib.itoa n++32::wTimes))=(32::Lib.itoa n)++timesE from by simp[timesE],cutSuf_app]
  have e:cutPre [32] (32::Lib.itoa n)=some (Lib.itoa n):=cutPre_app [32] (Lib.itoa n)
  have hd:noDig []:=by decide
  have d1:=digsP_itoa (z:=n) (by omega) (by omega) hd
  have d2:=restP_itoa (z:=n) (by omega) (by omega) hd
  rw[List.append_nil] at d1 d2
  simp only[e,Option.getD_some,d1,d2,valP_itoa (show 0≤n by omega)]
 ·rw[if_neg (fun e=>h2 e.1)]
  have:n=1:=by omega
  subst this
  rfl
theorem candP_of {x:Sti} {n:Int} (hx:StiP x) (h0:1≤n) (h1:n≤200):candP x.kind x.purl (phraseS x n)=some (x,n):=by
 unfold candP
 rw[match_phrase hx h0 h1]
 simp only
 have fin:∀ m,candX x.kind x.purl m=x→candN x.kind m (timesB x n)=(n,[])→candC (candX x.kind x.purl m) (candN x.kind m (timesB x n)) (phraseS x n)=some (x,n):=fun m e1 e2=>by
  rw[e1,e2]
  unfold candC
  rw[if_pos ⟨rfl,⟨h0,h1⟩,hx,rfl⟩]
 have hb:=hx.bounds
 have hx':=hx
 unfold StiP at hx'
 refine fin _ ?_ ?_
 ·clear fin
  obtain ⟨k,p,a,b⟩:=x
  simp only at hx' ⊢
  rcases hx' with ⟨rfl|rfl,rfl,rfl⟩|⟨rfl,rfl,rfl,rfl⟩|⟨rfl|rfl|rfl,h2,h3,rfl⟩|⟨rfl|rfl,h2,h3⟩|⟨rfl,rfl,h2,h3,rfl⟩|⟨rfl,h2,h3,rfl⟩<;>rfl
 ·by_cases hk:x.kind=1∨x.kind=8
  ·have ht:timesB x n= []:=by unfold timesB;rw[if_neg (by omega)]
   rw[ht]
   unfold candN countB
   rw[decide_eq_true hk,if_pos rfl]
   rcases hk with e|e<;>simp[e]
  ·exact candN_times hk h0 h1 _
def num4 (l:List UInt8):Option Int:=if l ≠ []∧l.length≤4∧(1<l.length→l[0]! ≠ 48)∧l.all isDig=true then some (((Lib.decFrom 0 l).getD 0:Nat):Int) else none
theorem num4_itoa {z:Int} (h0:0≤z) (h1:z≤9999):num4 (Lib.itoa z)=some z:=by
 have hd:=itoa_dig h0
 have hl:=itoa_len4 h0 h1
 obtain ⟨u,rfl⟩:=Int.eq_ofNat_of_zero_le h0
 rw[Lib.itoa_nonneg] at hd hl ⊢
 have hf:=decFrom_digits u u (Nat.le_refl _)
 have h48:∀ (n u:Nat),u≤n→1<(Lib.decDigits u).length→(Lib.decDigits u)[0]! ≠ 48:=by
  intro n
  induction n with
  |zero=>intro u hu h;rw[show u=0 by omega,Lib.decDigits,dif_pos (by decide)] at h;simp at h
  |succ n ih=>
   intro u hu h
   rw[Lib.decDigits] at h ⊢
   split at h
   ·simp at h
   ·rename_i h10
    rw[dif_neg h10]
    by_cases h2:1<(Lib.decDigits (u / 10)).length
    ·have:=ih (u / 10) (by omega) h2
     rw[getElem!_pos _ 0 (by simp),List.getElem_append_left (by omega),← getElem!_pos _ 0 (by omega)]
     exact this
    ·have hlt:u / 10<10:=by
      refine Classical.byContradiction fun hc=>h2 ?_
      rw[Lib.decDigits,dif_neg hc,List.length_append]
      have:=List.length_pos_iff.2 (decDigits_ne (u / 10 / 10))
      simp;omega
     rw[Lib.decDigits,dif_pos hlt]
     show UInt8.ofNat (48+u / 10) ≠ 48
     intro e
     have e2:=congrArg UInt8.toNat e
     rw[(dig_ofNat hlt).2] at e2
     have:(48:UInt8).toNat=48:=rfl
     omega
 unfold num4
 rw[if_pos ⟨decDigits_ne u,hl,h48 u u (Nat.le_refl _),List.all_eq_true.2 hd⟩,hf]
 rfl
theorem num4_bad {c:UInt8} {l:List UInt8} (h:isDig c=false):num4 (c::l)=none:=by
 unfold num4
 rw[if_neg]
 intro hh
 have:=List.all_eq_true.1 hh.2.2.2 c (by simp)
 rw[h] at this;cases this
def numsW (ws:List (List UInt8)):List Int:=ws.filterMap num4
def triedR (k:Nat) (p:Bool) (l:List Int):Sti × Int:=
 if k=1∨k=8 then (⟨k,p,0,0⟩,if l.length=0 then 0 else l[0]!)
 else if k=2 then (⟨k,p,0,0⟩,if 0<l.length then l[0]! else 1)
 else if l.length=0 then (⟨k,p,0,0⟩,0)
 else if k=5 then (⟨k,p,l[0]!,0⟩,if 2<l.length then l[2]! else 1)
 else if k=6∨k=7 then (if l.length<2 then (⟨k,p,l[0]!,0⟩,0) else (⟨k,p,l[0]!,l[1]!⟩,if 2<l.length then l[2]! else 1))
 else (⟨k,p,l[0]!,0⟩,if 1<l.length then l[1]! else 1)
def candR (k:Nat) (p:Bool) (s:List UInt8):Option (Sti × Int):=candC (triedR k p (numsW (words 32 s))).1 ((triedR k p (numsW (words 32 s))).2,[]) s
theorem candR_some {k:Nat} {p:Bool} {s:List UInt8} {x:Sti} {n:Int} (h:candR k p s=some (x,n)):readS s=some (x,n):=candC_some h
theorem tried_phrase {x:Sti} {n:Int} (hx:StiP x) (h0:1≤n) (h1:n≤200):triedR x.kind x.purl (numsW (phraseW x n))=(x,n):=by
 have hb:=hx.bounds
 have n1:=num4_itoa (z:=n) (by omega) (by omega)
 have n2:=num4_itoa (z:=x.a) (by omega) (by omega)
 have n3:=num4_itoa (z:=x.b) (by omega) (by omega)
 have ht:numsW (timesW x n)=if 1<n∧x.kind ≠ 1∧x.kind ≠ 8 then [n] else []:=by
  unfold timesW
  split
  ·simp[numsW,n1,num4_bad (show isDig 116=false by decide)]
  ·rfl
 have hbase:numsW (baseW x n)=(if x.kind=2 then [] else (if x.kind=6∨x.kind=7 then [x.a,x.b] else if x.kind=1∨x.kind=8 then [n] else if x.kind=5 then [x.a,1] else [x.a])):=by
  have bad:∀ (c:UInt8) (l:List UInt8),isDig c=false→num4 (c::l)=none:=fun c l h=>num4_bad h
  have e1:num4 w1=some 1:=by decide
  have side:∀ p,num4 (sideW p)=none:=by intro p;cases p<;>exact num4_bad (by decide)
  have wise:∀ p,(wiseW p).filterMap num4= []:=by intro p;cases p<;>decide
  have ff:∀ p:Bool,(if p=true then [wWith,wYarn,wIn,wFront] else []).filterMap num4= []:=by intro p;cases p<;>decide
  have cs:num4 wYarn=none∧num4 wOver=none∧num4 wTog=none∧num4 wFirst=none∧num4 wOn=none∧num4 wTop=none∧num4 wMake=none∧num4 wOut=none∧num4 wOf=none∧num4 wCross=none∧num4 wIn=none∧num4 wFront=none∧num4 wBehind=none∧num4 wSlip=none∧num4 wCast=none∧num4 wBind=none∧num4 wOff=none:=by decide
  obtain ⟨c1,c2,c3,c4,c5,c6,c7,c8,c9,c10,c11,c12,c13,c14,c15,c16,c17⟩:=cs
  obtain ⟨k,p,a,b⟩:=x
  unfold StiP at hx
  simp only at hx n1 n2 n3
  rcases hx with ⟨rfl|rfl,rfl,rfl⟩|⟨rfl,rfl,rfl,rfl⟩|⟨rfl|rfl|rfl,h2,h3,rfl⟩|⟨rfl|rfl,h2,h3⟩|⟨rfl,rfl,h2,h3,rfl⟩|⟨rfl,h2,h3,rfl⟩
  all_goals
   simp only[numsW,baseW,List.filterMap_append,List.filterMap_cons,List.filterMap_nil,n1,n2,n3,e1,side,wise,ff,c1,c2,c3,c4,c5,c6,c7,c8,c9,c10,c11,c12,c13,c14,c15,c16,c17]
   rfl
 have hall:numsW (phraseW x n)=numsW (baseW x n)++numsW (timesW x n):=List.filterMap_append
 rw[hall,hbase,ht]
 obtain ⟨k,p,a,b⟩:=x
 unfold StiP at hx
 simp only at hx
 by_cases h2:1<n
 all_goals
  rcases hx with ⟨rfl|rfl,rfl,rfl⟩|⟨rfl,rfl,rfl,rfl⟩|⟨rfl|rfl|rfl,h3,h4,rfl⟩|⟨rfl|rfl,h3,h4⟩|⟨rfl,rfl,h3,h4,rfl⟩|⟨rfl,h3,h4,rfl⟩
  all_goals
   simp[triedR,h2]
   try omega
theorem candR_of {x:Sti} {n:Int} (hx:StiP x) (h0:1≤n) (h1:n≤200):candR x.kind x.purl (phraseS x n)=some (x,n):=by
 unfold candR
 rw[phraseS_words hx (by omega),tried_phrase hx h0 h1]
 unfold candC
 rw[if_pos ⟨rfl,⟨h0,h1⟩,hx,rfl⟩]
theorem readS_all {cand:Nat→Bool→List UInt8→Option (Sti × Int)} (hof:∀ {x:Sti} {n:Int},StiP x→1≤n→n≤200→cand x.kind x.purl (phraseS x n)=some (x,n)) {s:List UInt8} (h:∀ k p,1≤k→k≤10→cand k p s=none):readS s=none:=by
 cases hr:readS s with
 |none=>rfl
 |some r=>
  obtain ⟨x,n⟩:=r
  obtain ⟨a,b,c⟩:=readS_some hr
  have:=hof a b.1 b.2
  rw[c,h x.kind x.purl a.bounds.1 a.bounds.2.1] at this
  cases this
end Go.Itp
namespace Go.Proofs.YtimmmnanllcfoaaDoor
open Go Go.Itp
set_option maxRecDepth 100000
set_option maxHeartbeats 400000
set_option linter.unusedSimpArgs false
set_option linter.unusedVariables false
def fL:Nat→List UInt8
 |3=> [102]|4=> [108]|5=> [109]|6=> [120]|7=> [121]|8=> [115]|10=> [111]
 |_=> []
def fA0:Nat→Int
 |3=>2|4=>2|5=>2|6=>1|7=>1|9=>1|10=>1
 |_=>0
def fA1:Nat→Int
 |3=>4|4=>4|5=>4|6=>6|7=>6|9=>200|10=>200
 |_=>0
def fB0:Nat→Int
 |6=>1|7=>1
 |_=>0
def fB1:Nat→Int
 |6=>6|7=>6
 |_=>0
def fS:Nat→Bool
 |2=>false|9=>false
 |_=>true
def fU:Nat→Nat
 |1=>1|2=>0|3=>2|4=>2|5=>1|6=>3|7=>3|8=>1|9=>0
 |_=>2
def fM:Nat→Nat
 |1=>1|2=>1|3=>1|4=>1|5=>2|6=>3|7=>3|8=>1|9=>2
 |_=>0
def formV (k:Nat):List Value:= [.string ⟨(fL k).toArray⟩,.int .i64 (fA0 k),.int .i64 (fA1 k),.int .i64 (fB0 k),.int .i64 (fB1 k),.bool (fS k),.int .i64 (fU k),.int .i64 (fM k)]
def formsD:List D:=(formV 1++formV 2++formV 3++formV 4++formV 5++formV 6++formV 7++formV 8++formV 9++formV 10).map D.sc
theorem put8 (s g u m:Value) (a b c d:Value):vfill (putAll (putAll [.sc s,.sc (.int .i64 0),.sc (.int .i64 0),.sc (.int .i64 0),.sc (.int .i64 0),.sc (.bool false),.sc (.int .i64 0),.sc (.int .i64 0)] 1 [.sc a,.sc b]) 3 [.sc c,.sc d]) [(5,1,.sc g),(6,1,.sc u),(7,1,.sc m)]=some [.sc s,.sc a,.sc b,.sc c,.sc d,.sc g,.sc u,.sc m]:=(rfl)
theorem row8 (nx t:Nat):mkRowV nx t 8 10 [.string ⟨#[]⟩,.int .i64 0,.int .i64 0,.int .i64 0,.int .i64 0,.bool false,.int .i64 0,.int .i64 0] [(0,8,.agg [.sc (.string ⟨#[]⟩),.sc (.int .i64 0),.sc (.int .i64 0),.sc (.int .i64 0),.sc (.int .i64 0),.sc (.bool true),.sc (.int .i64 1),.sc (.int .i64 1)]),(8,8,.agg [.sc (.string ⟨#[]⟩),.sc (.int .i64 0),.sc (.int .i64 0),.sc (.int .i64 0),.sc (.int .i64 0),.sc (.bool false),.sc (.int .i64 0),.sc (.int .i64 1)]),(16,8,.agg [.sc (.string ⟨#[102]⟩),.sc (.int .i64 2),.sc (.int .i64 4),.sc (.int .i64 0),.sc (.int .i64 0),.sc (.bool true),.sc (.int .i64 2),.sc (.int .i64 1)]),(24,8,.agg [.sc (.string ⟨#[108]⟩),.sc (.int .i64 2),.sc (.int .i64 4),.sc (.int .i64 0),.sc (.int .i64 0),.sc (.bool true),.sc (.int .i64 2),.sc (.int .i64 1)]),(32,8,.agg [.sc (.string ⟨#[109]⟩),.sc (.int .i64 2),.sc (.int .i64 4),.sc (.int .i64 0),.sc (.int .i64 0),.sc (.bool true),.sc (.int .i64 1),.sc (.int .i64 2)]),(40,8,.agg [.sc (.string ⟨#[120]⟩),.sc (.int .i64 1),.sc (.int .i64 6),.sc (.int .i64 1),.sc (.int .i64 6),.sc (.bool true),.sc (.int .i64 3),.sc (.int .i64 3)]),(48,8,.agg [.sc (.string ⟨#[121]⟩),.sc (.int .i64 1),.sc (.int .i64 6),.sc (.int .i64 1),.sc (.int .i64 6),.sc (.bool true),.sc (.int .i64 3),.sc (.int .i64 3)]),(56,8,.agg [.sc (.string ⟨#[115]⟩),.sc (.int .i64 0),.sc (.int .i64 0),.sc (.int .i64 0),.sc (.int .i64 0),.sc (.bool true),.sc (.int .i64 1),.sc (.int .i64 1)]),(64,8,.agg [.sc (.string ⟨#[]⟩),.sc (.int .i64 1),.sc (.int .i64 200),.sc (.int .i64 0),.sc (.int .i64 0),.sc (.bool false),.sc (.int .i64 0),.sc (.int .i64 2)]),(72,8,.agg [.sc (.string ⟨#[111]⟩),.sc (.int .i64 1),.sc (.int .i64 200),.sc (.int .i64 0),.sc (.int .i64 0),.sc (.bool true),.sc (.int .i64 2),.sc (.int .i64 0)])]=some (.ref nx 0 10 10,some (.row t 8 false false formsD),[]):=(rfl)
theorem formsD_at (k:Nat) (h1:1≤k) (h2:k≤10):dload formsD ((k - 1)*8) (some 8)=some (.agg ((formV k).map V.sc)):=by
 rcases (by omega:k=1∨k=2∨k=3∨k=4∨k=5∨k=6∨k=7∨k=8∨k=9∨k=10) with rfl|rfl|rfl|rfl|rfl|rfl|rfl|rfl|rfl|rfl<;>rfl
attribute [local irreducible] formsD
theorem stiP_form {x:Sti} (h1:1≤x.kind) (h2:x.kind≤10):StiP x↔(fA0 x.kind≤x.a∧x.a≤fA1 x.kind)∧(fB0 x.kind≤x.b∧x.b≤fB1 x.kind)∧(x.purl=true→fS x.kind=true):=by
 obtain ⟨k,p,a,b⟩:=x
 simp only at h1 h2 ⊢
 unfold StiP
 simp only
 rcases (by omega:k=1∨k=2∨k=3∨k=4∨k=5∨k=6∨k=7∨k=8∨k=9∨k=10) with rfl|rfl|rfl|rfl|rfl|rfl|rfl|rfl|rfl|rfl
 all_goals
  cases p<;>simp[fA0,fA1,fB0,fB1,fS]<;>omega
theorem stiP_kind {x:Sti} (h:¬ (1≤x.kind∧x.kind≤10)):stiOK x=false:=by
 rw[← Bool.not_eq_true,stiOK_iff]
 intro hx
 exact h ⟨hx.bounds.1,hx.bounds.2.1⟩
def loopsF (x:Sti) (h:Nat):Int:=if h=0 then 0 else if h=1 then 1 else if h=2 then x.a else x.a+x.b
theorem usedS_form {x:Sti} (h1:1≤x.kind) (h2:x.kind≤10):usedS x=loopsF x (fU x.kind)∧madeS x=loopsF x (fM x.kind):=by
 obtain ⟨k,p,a,b⟩:=x
 simp only at h1 h2 ⊢
 rcases (by omega:k=1∨k=2∨k=3∨k=4∨k=5∨k=6∨k=7∨k=8∨k=9∨k=10) with rfl|rfl|rfl|rfl|rfl|rfl|rfl|rfl|rfl|rfl
 all_goals
  simp[usedS,madeS,loopsF,fU,fM]
theorem fUM_le (k:Nat):fU k≤3∧fM k≤3:=by
 constructor
 ·unfold fU;split<;>decide
 ·unfold fM;split<;>decide
abbrev stiV (x:Sti):V:= .agg [.sc (.int .u8 x.kind),.sc (.bool x.purl),.sc (.int .i64 x.a),.sc (.int .i64 x.b)]
theorem tn0:Int.toNat 0=0:=rfl
theorem tn1:Int.toNat 1=1:=rfl
theorem tn2:Int.toNat 2=2:=rfl
section
variable (w:World) (n:Nat)
theorem forms_p (k:Nat) (hk:1≤k) (hk2:k≤10):VSpec (EN w (n+1)) 70 [.sc (.int .u8 k)] (.tup [.agg ((formV k).map V.sc),.sc (.bool true)]) ⟨[],0,0⟩:=by
 refine vspec_flat rfl rfl (fun _ _=>rfl) (Nat.le_of_ble_eq_true rfl) (oldVals w) rfl fun C hC h0=>?_
 have hld:=formsD_at k hk hk2
 have hw:IntKind.u8.wrap ((k:Int) - 1)=((k - 1:Nat):Int):=by rw[wrap_u8 _ (by omega) (by omega)];omega
 unfold formV at hld ⊢
 simp (disch:=first|omega|assumption|exact bd (by with_unfolding_all rfl)|exact Or.inl rfl|(simp only[VVlen]<;>omega)|fail) only[O1,WA,Nat.reduceEqDiff,Nat.reduceLT,Nat.reduceAdd,↓reduceIte,reduceCtorEq,List.replicate,c70,put8,↓row8]
 rw[hw]
 simp (disch:=first|omega|assumption|exact bd (by with_unfolding_all rfl)|exact Or.inl rfl|(simp only[VVlen]<;>omega)|fail) only[O1,WA,Nat.reduceEqDiff,Nat.reduceLT,↓reduceIte,reduceCtorEq,hld]
 exact weak_flat rfl h0 rfl
theorem forms0_p (k:Nat) (hk:¬ (1≤k∧k≤10)) (hb:k<256):VSpec (EN w (n+1)) 70 [.sc (.int .u8 k)] (.tup [.agg [.sc (.string ⟨#[]⟩),.sc (.int .i64 0),.sc (.int .i64 0),.sc (.int .i64 0),.sc (.int .i64 0),.sc (.bool false),.sc (.int .i64 0),.sc (.int .i64 0)],.sc (.bool false)]) ⟨[],0,0⟩:=by
 have hne:¬ (k:Int)<1→10<(k:Int):=by omega
 by_cases h1:(k:Int)<1
 all_goals
  refine vspec_flat rfl rfl (fun _ _=>rfl) (Nat.le_of_ble_eq_true rfl) (oldVals w) rfl fun C hC h0=>?_
  repeat' (first|(simp (disch:=first|omega|assumption|exact bd (by with_unfolding_all rfl)|exact Or.inl rfl|(simp only[VVlen]<;>omega)|fail) only[O1,WA,Nat.reduceEqDiff,Nat.reduceLT,Nat.reduceAdd,↓reduceIte,reduceCtorEq,List.replicate,c70,put8,↓row8])|apply gC_drawW|((first|apply gI_dec|apply gG_dec|apply gPG_dec|apply gI_var|apply gG_var|apply gPG_var)<;>intro _))
  all_goals try (exfalso;omega)
  exact weak_flat rfl h0 rfl
theorem within_p (v lo hi:Int):VSpec (EN w (n+1)) 71 [.sc (.int .i64 v),.agg [.sc (.int .i64 lo),.sc (.int .i64 hi)]] (.sc (.bool (decide (lo≤v∧v≤hi)))) ⟨[],0,0⟩:=by
 refine vspec_flat rfl rfl (fun _ _=>rfl) (Nat.le_of_ble_eq_true rfl) (oldVals w) rfl fun C hC h0=>?_
 by_cases h1:lo≤v
 ·by_cases h2:v≤hi
  ·rw[decide_eq_true ⟨h1,h2⟩]
   simp (disch:=first|omega|assumption|exact bd (by with_unfolding_all rfl)|exact Or.inl rfl|(simp only[VVlen]<;>omega)|fail) only[O1,WA,Nat.reduceEqDiff,Nat.reduceLT,↓reduceIte,reduceCtorEq,c71,tn0,tn1]
   all_goals try (exfalso;omega)
   exact weak_flat rfl h0 rfl
  ·rw[decide_eq_false (fun h=>h2 h.2)]
   simp (disch:=first|omega|assumption|exact bd (by with_unfolding_all rfl)|exact Or.inl rfl|(simp only[VVlen]<;>omega)|fail) only[O1,WA,Nat.reduceEqDiff,Nat.reduceLT,↓reduceIte,reduceCtorEq,c71,tn0,tn1]
   all_goals try (exfalso;omega)
   exact weak_flat rfl h0 rfl
 ·rw[decide_eq_false (fun h=>h1 h.1)]
  simp (disch:=first|omega|assumption|exact bd (by with_unfolding_all rfl)|exact Or.inl rfl|(simp only[VVlen]<;>omega)|fail) only[O1,WA,Nat.reduceEqDiff,Nat.reduceLT,↓reduceIte,reduceCtorEq,c71,tn0,tn1]
  all_goals try (exfalso;omega)
  exact weak_flat rfl h0 rfl
end
end Go.Proofs.YtimmmnanllcfoaaDoor
namespace Go.Proofs.YtimmmnanllcfoaaDoor
open Go Go.Itp
set_option maxRecDepth 100000
set_option maxHeartbeats 400000
set_option linter.unusedSimpArgs false
set_option linter.unusedVariables false
def stiD (L:List Sti):List D:=L.flatMap fun x=> [.sc (.int .u8 x.kind),.sc (.bool x.purl),.sc (.int .i64 x.a),.sc (.int .i64 x.b)]
theorem stiD_len (L:List Sti):(stiD L).length=L.length*4:=by
 induction L with
 |nil=>rfl
 |cons p L ih=>
  have e:stiD (p::L)= [.sc (.int .u8 p.kind),.sc (.bool p.purl),.sc (.int .i64 p.a),.sc (.int .i64 p.b)]++stiD L:=by simp[stiD]
  rw[e,List.length_append,ih];simp;omega
theorem stiD_agg (L:List Sti) (k:Nat) (hk:k<L.length):dload (stiD L) (k*4) (some 4)=some (stiV L[k]!):=by
 have:=dload_flat (fun x:Sti=> [D.sc (.int .u8 x.kind),.sc (.bool x.purl),.sc (.int .i64 x.a),.sc (.int .i64 x.b)]) 4 L (fun _=>rfl) (by decide) k hk
 unfold stiD
 rw[this]
 rfl
theorem ix0 (a b c d:V):idxVV 4 1 none (.agg [a,b,c,d]) (.sc (.int .i64 ((0:Nat):Int)))=some a:=(rfl)
theorem ix1 (a b c d:V):idxVV 4 1 none (.agg [a,b,c,d]) (.sc (.int .i64 ((1:Nat):Int)))=some b:=(rfl)
theorem ix2 (a b c d:V):idxVV 4 1 none (.agg [a,b,c,d]) (.sc (.int .i64 ((2:Nat):Int)))=some c:=(rfl)
theorem ix3 (a b c d:V):idxVV 4 1 none (.agg [a,b,c,d]) (.sc (.int .i64 ((3:Nat):Int)))=some d:=(rfl)
section
variable (w:World) (n:Nat)
theorem scheck_p (x:Sti) (hk:x.kind<256):VSpec (EN w (n+2)) 49 [stiV x] (.sc (.int .i64 (if stiOK x=true then 0 else 8))) ⟨[],0,0⟩:=by
 by_cases hr:1≤x.kind∧x.kind≤10
 ·have hf:=forms_p w n x.kind hr.1 hr.2
  have w1:=within_p w n x.a (fA0 x.kind) (fA1 x.kind)
  have w2:=within_p w n x.b (fB0 x.kind) (fB1 x.kind)
  have he:stiOK x=(decide (fA0 x.kind≤x.a∧x.a≤fA1 x.kind) && (decide (fB0 x.kind≤x.b∧x.b≤fB1 x.kind) && (!x.purl||fS x.kind))):=by
   have h1:=stiP_form hr.1 hr.2
   rw[Bool.eq_iff_iff,stiOK_iff,h1]
   cases x.purl<;>simp
  rw[he]
  unfold formV at hf
  generalize decide (fA0 x.kind≤x.a∧x.a≤fA1 x.kind)=A at*
  generalize decide (fB0 x.kind≤x.b∧x.b≤fB1 x.kind)=B at*
  generalize fS x.kind=S at*
  obtain ⟨k,p,a,b⟩:=x
  simp only at hf w1 w2 ⊢
  have go:∀ e:Int,(A=false∧e=8)∨(A=true∧B=false∧e=8)∨(A=true∧B=true∧p=false∧e=0)∨(A=true∧B=true∧p=true∧S=false∧e=8)∨(A=true∧B=true∧p=true∧S=true∧e=0)→VSpec (EN w (n+2)) 49 [stiV ⟨k,p,a,b⟩] (.sc (.int .i64 e)) ⟨[],0,0⟩:=by
   rintro e (⟨rfl,rfl⟩|⟨rfl,rfl,rfl⟩|⟨rfl,rfl,rfl,rfl⟩|⟨rfl,rfl,rfl,rfl,rfl⟩|⟨rfl,rfl,rfl,rfl,rfl⟩)
   all_goals
    refine vspec_flat rfl rfl (fun _ _=>rfl) (Nat.le_of_ble_eq_true rfl) (oldVals w) rfl fun C hC h0=>?_
    repeat' (first|(simp (disch:=first|omega|assumption|exact bd (by with_unfolding_all rfl)|exact Or.inl rfl|(simp only[VVlen]<;>omega)|fail) only[O1,WA,Nat.reduceEqDiff,Nat.reduceLT,↓reduceIte,reduceCtorEq,c49]))
    refine callV_flat (by rw[hC];exact hf.flat rfl rfl) ?_
    repeat' (first|(simp (disch:=first|omega|assumption|exact bd (by with_unfolding_all rfl)|exact Or.inl rfl|(simp only[VVlen]<;>omega)|fail) only[O1,WA,Nat.reduceEqDiff,Nat.reduceLT,Nat.reduceAdd,↓reduceIte,reduceCtorEq,List.replicate]))
    refine callV_flat (by rw[hC];exact w1.flat rfl rfl) ?_
    repeat' (first|(simp (disch:=first|omega|assumption|exact bd (by with_unfolding_all rfl)|exact Or.inl rfl|(simp only[VVlen]<;>omega)|fail) only[O1,WA,Nat.reduceEqDiff,Nat.reduceLT,↓reduceIte,reduceCtorEq]))
   ·exact weak_flat rfl h0 rfl
   all_goals
    refine callV_flat (by rw[hC];exact w2.flat rfl rfl) ?_
    repeat' (first|(simp (disch:=first|omega|assumption|exact bd (by with_unfolding_all rfl)|exact Or.inl rfl|(simp only[VVlen]<;>omega)|fail) only[O1,WA,Nat.reduceEqDiff,Nat.reduceLT,↓reduceIte,reduceCtorEq]))
    exact weak_flat rfl h0 rfl
  refine go _ ?_
  cases A<;>cases B<;>cases p<;>cases S<;>simp
 ·have hf:=forms0_p w n x.kind hr hk
  rw[stiP_kind hr]
  obtain ⟨k,p,a,b⟩:=x
  refine vspec_flat rfl rfl (fun _ _=>rfl) (Nat.le_of_ble_eq_true rfl) (oldVals w) rfl fun C hC h0=>?_
  simp (disch:=first|omega|assumption|exact bd (by with_unfolding_all rfl)|exact Or.inl rfl|(simp only[VVlen]<;>omega)|fail) only[O1,WA,Nat.reduceEqDiff,Nat.reduceLT,↓reduceIte,reduceCtorEq,c49]
  refine callV_flat (by rw[hC];exact hf.flat rfl rfl) ?_
  simp (disch:=first|omega|assumption|exact bd (by with_unfolding_all rfl)|exact Or.inl rfl|(simp only[VVlen]<;>omega)|fail) only[O1,WA,Nat.reduceEqDiff,Nat.reduceLT,Nat.reduceAdd,↓reduceIte,List.replicate]
  exact weak_flat rfl h0 rfl
theorem loops_p (x:Sti) (h:Nat) (hh:h≤3) (ha: -1000000≤x.a∧x.a≤1000000) (hb: -1000000≤x.b∧x.b≤1000000):VSpec (EN w (n+1)) 72 [stiV x,.sc (.int .i64 h)] (.sc (.int .i64 (loopsF x h))) ⟨[],0,0⟩:=by
 obtain ⟨k,p,a,b⟩:=x
 simp only at ha hb
 rcases (by omega:h=0∨h=1∨h=2∨h=3) with rfl|rfl|rfl|rfl
 all_goals
  refine vspec_flat rfl rfl (fun _ _=>rfl) (Nat.le_of_ble_eq_true rfl) (oldVals w) rfl fun C hC h0=>?_
  repeat' (first|(simp (disch:=first|omega|assumption|exact bd (by with_unfolding_all rfl)|exact Or.inl rfl|(simp only[VVlen]<;>omega)|fail) only[O1,WA,Nat.reduceEqDiff,Nat.reduceLT,↓reduceIte,reduceCtorEq,c72,ix0,ix1,ix2,ix3]))
  all_goals try (exfalso;omega)
  exact weak_flat rfl h0 rfl
theorem sum_bound {f:Sti→Int} {L:List Sti} (h:∀ x ∈ L,0≤f x∧f x≤1000):0≤sumS f L∧sumS f L≤1000*L.length:=by
 induction L with
 |nil=>simp[sumS]
 |cons x L ih=>
  have h1:=h x (by simp)
  have h2:=ih fun y hy=>h y (List.mem_cons_of_mem _ hy)
  simp only[sumS,List.length_cons]
  omega
theorem sumS_take {f:Sti→Int} {L:List Sti} {k:Nat} (hk:k<L.length):sumS f (L.take (k+1))=sumS f (L.take k)+f L[k]! :=by
 have app:∀ A B:List Sti,sumS f (A++B)=sumS f A+sumS f B:=by
  intro A B
  induction A with
  |nil=>simp[sumS]
  |cons x A ih=>simp only[List.cons_append,sumS,ih];omega
 rw[List.take_succ_eq_append_getElem hk,app,getElem!_pos _ k hk]
 simp[sumS]
theorem used_bound {x:Sti} (h:StiP x):(0≤usedS x∧usedS x≤1000)∧0≤madeS x∧madeS x≤1000:=by
 have hb:=h.bounds
 unfold usedS madeS
 constructor
 ·split
  ·omega
  split
  ·omega
  split<;>omega
 ·split
  ·omega
  split
  ·omega
  split<;>omega
theorem ssum_p (s:Nat) (L:List Sti) (hL:L.length≤200) (hok:L.all stiOK=true):VSpec (EN w (n+2)) 50 [.sl s L.length (stiD L)] (.tup [.sc (.int .i64 (sumS usedS L)),.sc (.int .i64 (sumS madeS L))]) ⟨[],0,0⟩:=by
 refine vspec_flat rfl rfl (fun _ _=>rfl) (Nat.le_of_ble_eq_true rfl) (oldVals w) rfl fun C hC h0=>?_
 have hrn:C.E.rounds=many:=by rw[hC,callP_rounds]
 have hil:=stiD_len L
 simp (disch:=first|omega|assumption|exact bd (by with_unfolding_all rfl)|exact Or.inl rfl|(simp only[VVlen]<;>omega)|fail) only[O1,WA,Nat.reduceEqDiff,Nat.reduceLT,↓reduceIte,reduceCtorEq,c50]
 all_goals try (exfalso;omega)
 refine g_while (fun m fr st=>∃ (k:Nat),m=L.length - k∧k≤L.length∧fr= [(2,.sc (.int .i64 (sumS usedS (L.take k)))),(3,.sc (.int .i64 (sumS madeS (L.take k)))),(8,.sl s L.length (stiD L)),(9,.sc (.int .i64 L.length)),(10,.sc (.int .i64 k))]∧st=⟨[],0,0⟩) L.length ?_ ⟨_,_,.refl _ _,0,by omega,Nat.zero_le _,rfl,rfl⟩ ?_
 ·rw[hrn];unfold many;omega
 rintro m fr st ⟨k,rfl,hk,rfl,rfl⟩
 by_cases hlt:k<L.length
 case neg=>
  have:k=L.length:=by omega
  subst this
  rw[List.take_length]
  simp (disch:=first|omega|assumption|exact bd (by with_unfolding_all rfl)|exact Or.inl rfl|(simp only[VVlen]<;>omega)|fail) only[O1,WA,Nat.reduceEqDiff,Nat.reduceLT,↓reduceIte,c50l0]
  all_goals try (exfalso;omega)
  exact weak_flat rfl h0 rfl
 have hag:=stiD_agg L k hlt
 have u1:=sumS_take (f:=usedS) hlt
 have u2:=sumS_take (f:=madeS) hlt
 have htk:∀ x ∈ L.take k,StiP x:=fun x hx=>stiOK_iff.1 (List.all_eq_true.1 hok x (List.mem_of_mem_take hx))
 have b1:=sum_bound (f:=usedS) fun x hx=>(used_bound (htk x hx)).1
 have b2:=sum_bound (f:=madeS) fun x hx=>(used_bound (htk x hx)).2
 have hl2:(L.take k).length≤200:=by rw[List.length_take];omega
 have hx:StiP L[k]! :=stiOK_iff.1 (List.all_eq_true.1 hok _ (by rw[getElem!_pos _ k hlt];exact List.getElem_mem hlt))
 generalize L[k]! =X at*
 have hb:=hx.bounds
 have c1:=used_bound hx
 have hf:=forms_p w n X.kind hb.1 hb.2.1
 have l1:=loops_p w n X (fU X.kind) (fUM_le _).1 (by omega) (by omega)
 have l2:=loops_p w n X (fM X.kind) (fUM_le _).2 (by omega) (by omega)
 have e:=usedS_form hb.1 hb.2.1
 rw[← e.1] at l1
 rw[← e.2] at l2
 unfold formV at hf
 generalize sumS usedS (L.take k)=U at*
 generalize sumS madeS (L.take k)=M at*
 generalize usedS X=uu at*
 generalize madeS X=mm at*
 obtain ⟨xk,xp,xa,xb⟩:=X
 simp (disch:=first|omega|assumption|exact bd (by with_unfolding_all rfl)|exact Or.inl rfl|(simp only[VVlen]<;>omega)|fail) only[O1,WA,Nat.reduceEqDiff,Nat.reduceLT,↓reduceIte,List.replicate,c50l0,hag]
 all_goals try (exfalso;omega)
 refine callV_flat (by rw[hC];exact hf.flat rfl rfl) ?_
 simp (disch:=first|omega|assumption|exact bd (by with_unfolding_all rfl)|exact Or.inl rfl|(simp only[VVlen]<;>omega)|fail) only[O1,WA,Nat.reduceEqDiff,Nat.reduceLT,Nat.reduceAdd,↓reduceIte,reduceCtorEq,List.replicate]
 refine callV_flat (by rw[hC];exact l1.flat rfl rfl) ?_
 simp (disch:=first|omega|assumption|exact bd (by with_unfolding_all rfl)|exact Or.inl rfl|(simp only[VVlen]<;>omega)|fail) only[O1,WA,Nat.reduceEqDiff,Nat.reduceLT,↓reduceIte,reduceCtorEq]
 refine callV_flat (by rw[hC];exact l2.flat rfl rfl) ?_
 simp (disch:=first|omega|assumption|exact bd (by with_unfolding_all rfl)|exact Or.inl rfl|(simp only[VVlen]<;>omega)|fail) only[O1,WA,Nat.reduceEqDiff,Nat.reduceLT,↓reduceIte]
 all_goals try (exfalso;omega)
 refine ⟨L.length - (k+1),_,_,by omega,weak_to [] 0 h0 rfl rfl rfl rfl,k+1,rfl,by omega,?_,rfl⟩
 rw[u1,u2]
 rfl
end
abbrev KOK (L:List Sti):Prop:=∀ x ∈ L,x.kind<256
theorem KOK.at {L:List Sti} (h:KOK L) {k:Nat} (hk:k<L.length):L[k]!.kind<256:=h _ (by rw[getElem!_pos _ k hk];exact List.getElem_mem hk)
theorem stis_take {L:List Sti} {k:Nat} (hk:k<L.length) (h:(L.take k).all stiOK=true) (h2:stiOK L[k]! =true):(L.take (k+1)).all stiOK=true:=by
 rw[List.take_succ_eq_append_getElem hk,List.all_append,h]
 rw[getElem!_pos _ k hk] at h2
 simp[h2]
theorem stis_bad {L:List Sti} {k:Nat} (hk:k<L.length) (h2:stiOK L[k]! =false):¬ L.all stiOK=true:=fun h=>by
 rw[getElem!_pos _ k hk] at h2
 have:=List.all_eq_true.1 h _ (List.getElem_mem hk)
 rw[this] at h2;cases h2
section
variable (w:World) (n:Nat)
theorem sall1_p (x:Sti) (hk:x.kind<256):VSpec (EN w (n+3)) 48 [stiV x] (.sc (.bool (!stiOK x))) ⟨[],0,0⟩:=by
 have hc:=scheck_p w n x hk
 cases he:stiOK x with
 |true=>
  rw[he,if_pos rfl] at hc
  obtain ⟨xk,xp,xa,xb⟩:=x
  refine vspec_flat rfl rfl (fun _ _=>rfl) (Nat.le_of_ble_eq_true rfl) (oldVals w) rfl fun C hC h0=>?_
  simp (disch:=first|omega|assumption|exact bd (by with_unfolding_all rfl)|exact Or.inl rfl|(simp only[VVlen]<;>omega)|fail) only[O1,WA,Nat.reduceEqDiff,Nat.reduceLT,↓reduceIte,reduceCtorEq,c48]
  refine callV_flat (by rw[hC];exact hc.flat rfl rfl) ?_
  simp (disch:=first|omega|assumption|exact bd (by with_unfolding_all rfl)|exact Or.inl rfl|(simp only[VVlen]<;>omega)|fail) only[O1,WA,Nat.reduceEqDiff,Nat.reduceLT,↓reduceIte]
  exact weak_flat rfl h0 rfl
 |false=>
  rw[he,if_neg (by decide)] at hc
  obtain ⟨xk,xp,xa,xb⟩:=x
  refine vspec_flat rfl rfl (fun _ _=>rfl) (Nat.le_of_ble_eq_true rfl) (oldVals w) rfl fun C hC h0=>?_
  simp (disch:=first|omega|assumption|exact bd (by with_unfolding_all rfl)|exact Or.inl rfl|(simp only[VVlen]<;>omega)|fail) only[O1,WA,Nat.reduceEqDiff,Nat.reduceLT,↓reduceIte,reduceCtorEq,c48]
  refine callV_flat (by rw[hC];exact hc.flat rfl rfl) ?_
  simp (disch:=first|omega|assumption|exact bd (by with_unfolding_all rfl)|exact Or.inl rfl|(simp only[VVlen]<;>omega)|fail) only[O1,WA,Nat.reduceEqDiff,Nat.reduceLT,Int.reduceEq,↓reduceIte]
  exact weak_flat rfl h0 rfl
theorem sindex_p (s:Nat) (L:List Sti) (hL:L.length≤200) (hK:KOK L):∃ r:Int,(L.all stiOK=true→r= -1)∧(¬ L.all stiOK=true→0≤r)∧
  VSpec (EN w (n+4)) 69 [.sl s L.length (stiD L),.sc (.func (.func 48) #[] #[])] (.sc (.int .i64 r)) ⟨[],0,0⟩:=by
 have main:∀ (j:Nat),j≤L.length→(L.take j).all stiOK=true→(j<L.length→stiOK L[j]! =false)→VSpec (EN w (n+4)) 69 [.sl s L.length (stiD L),.sc (.func (.func 48) #[] #[])] (.sc (.int .i64 (if j<L.length then (j:Int) else -1))) ⟨[],0,0⟩:=by
  intro j hj hall hbad
  refine vspec_flat rfl rfl (fun _ _=>rfl) (Nat.le_of_ble_eq_true rfl) (oldVals w) rfl fun C hC h0=>?_
  have hrn:C.E.rounds=many:=by rw[hC,callP_rounds]
  have hil:=stiD_len L
  simp (disch:=first|omega|assumption|exact bd (by with_unfolding_all rfl)|exact Or.inl rfl|(simp only[VVlen]<;>omega)|fail) only[O1,WA,Nat.reduceEqDiff,Nat.reduceLT,Int.reduceNeg,↓reduceIte,reduceCtorEq,c69]
  all_goals try (exfalso;omega)
  refine g_while (fun m fr st=>∃ (k:Nat),m=L.length - k∧k≤j∧fr= [(0,.sl s L.length (stiD L)),(1,.sc (.func (.func 48) #[] #[])),(7,.sc (.int .i64 L.length)),(8,.sc (.int .i64 k))]∧st=⟨[],0,0⟩) L.length ?_ ⟨_,_,.refl _ _,0,by omega,Nat.zero_le _,rfl,rfl⟩ ?_
  ·rw[hrn];unfold many;omega
  rintro m fr st ⟨k,rfl,hk,rfl,rfl⟩
  by_cases hlt:k<L.length
  case neg=>
   rw[if_neg (by omega)]
   simp (disch:=first|omega|assumption|exact bd (by with_unfolding_all rfl)|exact Or.inl rfl|(simp only[VVlen]<;>omega)|fail) only[O1,WA,Nat.reduceEqDiff,Nat.reduceLT,Int.reduceNeg,↓reduceIte,reduceCtorEq,c69l0]
   all_goals try (exfalso;omega)
   exact weak_flat rfl h0 rfl
  have hag:=stiD_agg L k hlt
  have h1:=sall1_p w n L[k]! (hK.at hlt)
  by_cases hkj:k=j
  ·subst hkj
   rw[hbad hlt] at h1
   rw[if_pos hlt]
   generalize L[k]! =X at*
   obtain ⟨xk,xp,xa,xb⟩:=X
   simp (disch:=first|omega|assumption|exact bd (by with_unfolding_all rfl)|exact Or.inl rfl|(simp only[VVlen]<;>omega)|fail) only[O1,WA,Nat.reduceEqDiff,Nat.reduceLT,Int.reduceNeg,↓reduceIte,reduceCtorEq,c69l0,hag]
   all_goals try (exfalso;omega)
   refine callV_flat (by rw[hC];exact h1.flat rfl rfl) ?_
   simp (disch:=first|omega|assumption|exact bd (by with_unfolding_all rfl)|exact Or.inl rfl|(simp only[VVlen]<;>omega)|fail) only[O1,WA,Nat.reduceEqDiff,Nat.reduceLT,Int.reduceNeg,↓reduceIte,reduceCtorEq]
   exact weak_flat rfl h0 rfl
  ·have ho:stiOK L[k]! =true:=List.all_eq_true.1 hall _ (by
    rw[getElem!_pos _ k hlt]
    exact List.mem_iff_getElem.2 ⟨k,by rw[List.length_take];omega,List.getElem_take⟩)
   rw[ho] at h1
   generalize L[k]! =X at*
   obtain ⟨xk,xp,xa,xb⟩:=X
   simp (disch:=first|omega|assumption|exact bd (by with_unfolding_all rfl)|exact Or.inl rfl|(simp only[VVlen]<;>omega)|fail) only[O1,WA,Nat.reduceEqDiff,Nat.reduceLT,Int.reduceNeg,↓reduceIte,reduceCtorEq,c69l0,hag]
   all_goals try (exfalso;omega)
   refine callV_flat (by rw[hC];exact h1.flat rfl rfl) ?_
   simp (disch:=first|omega|assumption|exact bd (by with_unfolding_all rfl)|exact Or.inl rfl|(simp only[VVlen]<;>omega)|fail) only[O1,WA,Nat.reduceEqDiff,Nat.reduceLT,Int.reduceNeg,↓reduceIte,reduceCtorEq]
   exact ⟨L.length - (k+1),_,_,by omega,.refl _ _,k+1,rfl,by omega,rfl,rfl⟩
 have hex:∃ j,j≤L.length∧(L.take j).all stiOK=true∧(j<L.length→stiOK L[j]! =false):=by
  have:∀ m,m≤L.length→(L.take m).all stiOK=true∨∃ j,j<m∧(L.take j).all stiOK=true∧stiOK L[j]! =false:=by
   intro m
   induction m with
   |zero=>intro _;exact .inl rfl
   |succ m ih=>
    intro hm
    rcases ih (by omega) with h|⟨j,h1,h2,h3⟩
    ·cases hc:stiOK L[m]! with
     |true=>exact .inl (stis_take (by omega) h hc)
     |false=>exact .inr ⟨m,by omega,h,hc⟩
    ·exact .inr ⟨j,by omega,h2,h3⟩
  rcases this L.length (Nat.le_refl _) with h|⟨j,h1,h2,h3⟩
  ·exact ⟨L.length,Nat.le_refl _,h,fun h=>absurd h (Nat.lt_irrefl _)⟩
  ·exact ⟨j,by omega,h2,fun _=>h3⟩
 obtain ⟨j,h1,h2,h3⟩:=hex
 refine ⟨_,fun hall=>?_,fun hall=>?_,main j h1 h2 h3⟩
 ·rw[if_neg fun h=>stis_bad h (h3 h) hall]
 ·by_cases h:j<L.length
  ·rw[if_pos h];omega
  ·have:j=L.length:=by omega
   subst this
   rw[List.take_length] at h2
   exact absurd h2 hall
theorem scontains_p (s:Nat) (L:List Sti) (hL:L.length≤200) (hK:KOK L):VSpec (EN w (n+5)) 47 [.sl s L.length (stiD L),.sc (.func (.func 48) #[] #[])] (.sc (.bool (!(L.all stiOK)))) ⟨[],0,0⟩:=by
 obtain ⟨r,h1,h2,hr⟩:=sindex_p w n s L hL hK
 cases ha:L.all stiOK with
 |true=>
  have e:=h1 ha
  subst e
  refine vspec_flat rfl rfl (fun _ _=>rfl) (Nat.le_of_ble_eq_true rfl) (oldVals w) rfl fun C hC h0=>?_
  simp (disch:=first|omega|assumption|exact bd (by with_unfolding_all rfl)|exact Or.inl rfl|(simp only[VVlen]<;>omega)|fail) only[O1,WA,Nat.reduceEqDiff,Nat.reduceLT,↓reduceIte,reduceCtorEq,c47]
  refine callV_flat (by rw[hC];exact hr.flat rfl rfl) ?_
  simp (disch:=first|omega|assumption|exact bd (by with_unfolding_all rfl)|exact Or.inl rfl|(simp only[VVlen]<;>omega)|fail) only[O1,WA,Nat.reduceEqDiff,Nat.reduceLT,Int.reduceLE,Int.reduceNeg,↓reduceIte,reduceCtorEq]
  exact weak_flat rfl h0 rfl
 |false=>
  have e:=h2 (by rw[ha];decide)
  refine vspec_flat rfl rfl (fun _ _=>rfl) (Nat.le_of_ble_eq_true rfl) (oldVals w) rfl fun C hC h0=>?_
  simp (disch:=first|omega|assumption|exact bd (by with_unfolding_all rfl)|exact Or.inl rfl|(simp only[VVlen]<;>omega)|fail) only[O1,WA,Nat.reduceEqDiff,Nat.reduceLT,↓reduceIte,reduceCtorEq,c47]
  refine callV_flat (by rw[hC];exact hr.flat rfl rfl) ?_
  simp (disch:=first|omega|assumption|exact bd (by with_unfolding_all rfl)|exact Or.inl rfl|(simp only[VVlen]<;>omega)|fail) only[O1,WA,Nat.reduceEqDiff,Nat.reduceLT,↓reduceIte,reduceCtorEq]
  all_goals try (exfalso;omega)
  exact weak_flat rfl h0 rfl
theorem sall_p (s:Nat) (L:List Sti) (hL:L.length≤140737488351232) (hK:KOK L):VSpec (EN w (n+6)) 27 [.sl s L.length (stiD L)] (.sc (.int .i64 (allF L))) ⟨[],0,0⟩:=by
 have hil:=stiD_len L
 unfold allF
 by_cases h2:200<L.length
 ·rw[if_pos h2]
  refine vspec_flat rfl rfl (fun _ _=>rfl) (Nat.le_of_ble_eq_true rfl) (oldVals w) rfl fun C hC h0=>?_
  simp (disch:=first|omega|assumption|exact bd (by with_unfolding_all rfl)|exact Or.inl rfl|(simp only[VVlen]<;>omega)|fail) only[O1,WA,Nat.reduceEqDiff,Nat.reduceLT,↓reduceIte,reduceCtorEq,c27]
  all_goals try (exfalso;omega)
  exact weak_flat rfl h0 rfl
 rw[if_neg h2]
 have hc:=scontains_p w n s L (by omega) hK
 cases ha:L.all stiOK with
 |false=>
  rw[ha] at hc
  rw[if_neg (by decide)]
  refine vspec_flat rfl rfl (fun _ _=>rfl) (Nat.le_of_ble_eq_true rfl) (oldVals w) rfl fun C hC h0=>?_
  simp (disch:=first|omega|assumption|exact bd (by with_unfolding_all rfl)|exact Or.inl rfl|(simp only[VVlen]<;>omega)|fail) only[O1,WA,Nat.reduceEqDiff,Nat.reduceLT,↓reduceIte,reduceCtorEq,c27]
  all_goals try (exfalso;omega)
  refine callV_flat (by rw[hC];exact hc.flat rfl rfl) ?_
  simp (disch:=first|omega|assumption|exact bd (by with_unfolding_all rfl)|exact Or.inl rfl|(simp only[VVlen]<;>omega)|fail) only[O1,WA,Nat.reduceEqDiff,Nat.reduceLT,↓reduceIte,reduceCtorEq]
  exact weak_flat rfl h0 rfl
 |true=>
  rw[ha] at hc
  rw[if_pos rfl]
  have hs:=ssum_p w (n+3) s L (by omega) ha
  generalize sumS usedS L=U at*
  generalize sumS madeS L=M at*
  by_cases hm:200<U∨200<M
  ·rw[if_pos hm]
   have hmx:200<max U M:=by omega
   generalize hX:max U M=X at*
   refine vspec_flat rfl rfl (fun _ _=>rfl) (Nat.le_of_ble_eq_true rfl) (oldVals w) rfl fun C hC h0=>?_
   simp (disch:=first|omega|assumption|exact bd (by with_unfolding_all rfl)|exact Or.inl rfl|(simp only[VVlen]<;>omega)|fail) only[O1,WA,Nat.reduceEqDiff,Nat.reduceLT,↓reduceIte,reduceCtorEq,c27]
   all_goals try (exfalso;omega)
   refine callV_flat (by rw[hC];exact hc.flat rfl rfl) ?_
   simp (disch:=first|omega|assumption|exact bd (by with_unfolding_all rfl)|exact Or.inl rfl|(simp only[VVlen]<;>omega)|fail) only[O1,WA,Nat.reduceEqDiff,Nat.reduceLT,↓reduceIte,reduceCtorEq]
   refine callV_flat (by rw[hC];exact hs.flat rfl rfl) ?_
   simp (disch:=first|omega|assumption|exact bd (by with_unfolding_all rfl)|exact Or.inl rfl|(simp only[VVlen]<;>omega)|fail) only[O1,WA,Nat.reduceEqDiff,Nat.reduceLT,↓reduceIte,reduceCtorEq,mmV_max,hX]
   all_goals try (exfalso;omega)
   exact weak_flat rfl h0 rfl
  ·rw[if_neg hm]
   have hmx:max U M≤200:=by omega
   generalize hX:max U M=X at*
   refine vspec_flat rfl rfl (fun _ _=>rfl) (Nat.le_of_ble_eq_true rfl) (oldVals w) rfl fun C hC h0=>?_
   simp (disch:=first|omega|assumption|exact bd (by with_unfolding_all rfl)|exact Or.inl rfl|(simp only[VVlen]<;>omega)|fail) only[O1,WA,Nat.reduceEqDiff,Nat.reduceLT,↓reduceIte,reduceCtorEq,c27]
   all_goals try (exfalso;omega)
   refine callV_flat (by rw[hC];exact hc.flat rfl rfl) ?_
   simp (disch:=first|omega|assumption|exact bd (by with_unfolding_all rfl)|exact Or.inl rfl|(simp only[VVlen]<;>omega)|fail) only[O1,WA,Nat.reduceEqDiff,Nat.reduceLT,↓reduceIte,reduceCtorEq]
   refine callV_flat (by rw[hC];exact hs.flat rfl rfl) ?_
   simp (disch:=first|omega|assumption|exact bd (by with_unfolding_all rfl)|exact Or.inl rfl|(simp only[VVlen]<;>omega)|fail) only[O1,WA,Nat.reduceEqDiff,Nat.reduceLT,↓reduceIte,reduceCtorEq,mmV_max,hX]
   all_goals try (exfalso;omega)
   exact weak_flat rfl h0 rfl
end
end Go.Proofs.YtimmmnanllcfoaaDoor
namespace Go.Itp
set_option linter.unusedVariables false
set_option linter.unusedSimpArgs false
set_option maxRecDepth 10000
theorem index_at1 {c:UInt8}:∀ (p r:List UInt8),c ∉ p→Lib.index (p++c::r) [c]=p.length
 | [],r,_=>by
  rw[List.nil_append,Lib.index]
  simp[List.isPrefixOf]
 |b::p,r,h=>by
  have hb:(c==b)=false:=by simpa using fun e=>h (by rw[e];simp)
  rw[List.cons_append,Lib.index,index_at1 p r fun e=>h (List.mem_cons_of_mem _ e)]
  simp only[List.isPrefixOf,hb,Bool.false_and,Bool.false_eq_true,if_false,List.length_cons]
  rw[if_neg (by simp only[beq_iff_eq];omega)]
  omega
theorem index_no1 {c:UInt8}:∀ (s:List UInt8),c ∉ s→Lib.index s [c]= -1
 | [],_=>rfl
 |b::p,h=>by
  have hb:(c==b)=false:=by simpa using fun e=>h (by rw[e];simp)
  rw[Lib.index,index_no1 p fun e=>h (List.mem_cons_of_mem _ e)]
  simp[List.isPrefixOf,hb]
theorem repl_one {c:UInt8} {p r u:List UInt8} (h:c ∉ p) (hu:u ≠ [c]):Lib.replace (p++c::r) [c] u 1=p++u++r:=by
 have hi:=index_at1 p r h
 have hc:=Lib.count_hit (s:=p++c::r) (sub:= [c]) (i:=p.length) (by simp) hi
 have hn:Lib.replaceNum (p++c::r) [c] 1=1:=by
  unfold Lib.replaceNum
  rw[if_neg (by omega)]
  rfl
 unfold Lib.replace
 rw[if_neg (by simpa using Ne.symm hu),hn,Lib.replaceK_hit _ _ _ _ _ hi,Lib.replaceK]
 simp
theorem repl_no {c:UInt8} {s u:List UInt8} (h:c ∉ s):Lib.replace s [c] u 1=s:=by
 unfold Lib.replace Lib.replaceNum
 rw[Lib.count_miss (index_no1 s h)]
 split
 ·rfl
 ·rw[if_pos (by omega),Lib.replaceK]
theorem itoa_ne35 {z:Int} (h:0≤z):Lib.itoa z ≠ [35]:=itoa_ne_of h (by decide)
theorem phr_repl {x:Sti} {n:Int} (hx:StiP x) (h0:1≤n):phraseS x n=if countB x.kind=true then Lib.replace (formB x.kind x.purl) [35] (Lib.itoa n) 1 else Lib.replace (Lib.replace (formB x.kind x.purl) [35] (Lib.itoa x.a) 1) [35] (Lib.itoa x.b) 1++timesB x n:=by
 rw[phraseS_fill n hx]
 have hno:=fParts_no x.kind x.purl
 have hb:=hx.bounds
 have i1:=itoa_ne35 (z:=n) (by omega)
 have i2:=itoa_ne35 (z:=x.a) (by omega)
 have i3:=itoa_ne35 (z:=x.b) (by omega)
 have j2:(35:UInt8) ∉ Lib.itoa x.a:=itoa_no (by omega) _ (by decide)
 have two:∀ (p q:List UInt8) (v:Int),(35:UInt8) ∉ p→Lib.itoa v ≠ [35]→Lib.replace (join 35 [p,q]) [35] (Lib.itoa v) 1=fill [p,q] [v]:=fun p q v h1 h2=>by
  rw[join,join,repl_one h1 h2,fill]
  ·simp[fill]
  ·simp
 have two':∀ (p q:List UInt8) (v u:Int),(35:UInt8) ∉ p→(35:UInt8) ∉ q→(35:UInt8) ∉ Lib.itoa v→Lib.itoa v ≠ [35]→Lib.replace (Lib.replace (join 35 [p,q]) [35] (Lib.itoa v) 1) [35] (Lib.itoa u) 1=fill [p,q] [v,u]:=fun p q v u h1 h3 h4 h2=>by
  rw[join,join,repl_one h1 h2,repl_no (by simp[h1,h3,h4]),fill]
  ·simp[fill]
  ·simp
 have three:∀ (p q r:List UInt8) (v u:Int),(35:UInt8) ∉ p→(35:UInt8) ∉ q→(35:UInt8) ∉ Lib.itoa v→Lib.itoa v ≠ [35]→Lib.itoa u ≠ [35]→Lib.replace (Lib.replace (join 35 [p,q,r]) [35] (Lib.itoa v) 1) [35] (Lib.itoa u) 1=fill [p,q,r] [v,u]:=fun p q r v u h1 h3 h4 h2 h5=>by
  rw[join,join,join,repl_one h1 h2,← List.append_assoc,repl_one (by simp[h1,h3,h4]) h5,fill]
  ·rw[fill]
   ·simp[fill]
   ·simp
  ·simp
 obtain ⟨k,p,a,b⟩:=x
 unfold StiP at hx
 simp only at hx hno i2 i3 j2 ⊢
 unfold formB
 rcases hx with ⟨rfl|rfl,rfl,rfl⟩|⟨rfl,rfl,rfl,rfl⟩|⟨rfl|rfl|rfl,h2,h3,rfl⟩|⟨rfl|rfl,h2,h3⟩|⟨rfl,rfl,h2,h3,rfl⟩|⟨rfl,h2,h3,rfl⟩
 ·rw[if_pos (by decide),show timesB ⟨1,p,0,0⟩ n= [] from by unfold timesB;rw[if_neg (by simp)],List.append_nil]
  exact (two _ _ n (hno _ (by simp[fParts])) i1).symm
 ·rw[if_pos (by decide),show timesB ⟨8,p,0,0⟩ n= [] from by unfold timesB;rw[if_neg (by simp)],List.append_nil]
  exact (two _ _ n (hno _ (by simp[fParts])) i1).symm
 ·rw[if_neg (by decide)]
  congr 1
  have h35:(35:UInt8) ∉ join 35 (fParts 2 false):=hno _ (by simp[fParts,join])
  rw[repl_no h35,repl_no h35]
  rfl
 ·rw[if_neg (by decide)]
  congr 1
  exact (two' _ _ a 0 (hno _ (by simp[fParts])) (hno _ (by simp[fParts])) j2 i2).symm
 ·rw[if_neg (by decide)]
  congr 1
  exact (two' _ _ a 0 (hno _ (by simp[fParts])) (hno _ (by simp[fParts])) j2 i2).symm
 ·rw[if_neg (by decide)]
  congr 1
  exact (two' _ _ a 0 (hno _ (by simp[fParts])) (hno _ (by simp[fParts])) j2 i2).symm
 ·rw[if_neg (by decide)]
  congr 1
  exact (three _ _ _ a b (hno _ (by simp[fParts])) (hno _ (by simp[fParts])) j2 i2 i3).symm
 ·rw[if_neg (by decide)]
  congr 1
  exact (three _ _ _ a b (hno _ (by simp[fParts])) (hno _ (by simp[fParts])) j2 i2 i3).symm
 ·rw[if_neg (by decide)]
  congr 1
  exact (two' _ _ a 0 (hno _ (by simp[fParts])) (hno _ (by simp[fParts])) j2 i2).symm
 ·rw[if_neg (by decide)]
  congr 1
  exact (two' _ _ a 0 (hno _ (by simp[fParts])) (hno _ (by simp[fParts])) j2 i2).symm
theorem idx2_cases:∀ s:List UInt8,(Lib.index s [44,32]= -1∧splitC s= [s])∨∃ x r,s=x++44::32::r∧Lib.index s [44,32]=x.length∧splitC s=x::splitC r
 | []=> .inl ⟨rfl,rfl⟩
 | [c]=> .inl ⟨by simp[Lib.index,List.isPrefixOf],rfl⟩
 |c::d::r=>by
  by_cases h:c=44∧d=32
  ·obtain ⟨rfl,rfl⟩:=h
   refine .inr ⟨[],r,rfl,?_,by rw[splitC,if_pos ⟨rfl,rfl⟩]⟩
   rw[Lib.index]
   simp[List.isPrefixOf]
  ·have hp:List.isPrefixOf [44,32] (c::d::r)=false:=by
    simp only[List.isPrefixOf,Bool.and_true]
    rw[← Bool.not_eq_true]
    intro e
    simp only[Bool.and_eq_true,beq_iff_eq] at e
    exact h ⟨e.1.symm,e.2.symm⟩
   rcases idx2_cases (d::r) with ⟨h1,h2⟩|⟨x,q,h1,h2,h3⟩
   ·refine .inl ⟨?_,by rw[splitC_step h,h2];rfl⟩
    rw[Lib.index,hp,h1]
    rfl
   ·refine .inr ⟨c::x,q,by rw[h1];rfl,?_,by rw[splitC_step h,h3];rfl⟩
    rw[Lib.index,hp,h2]
    rw[if_neg (by decide),if_neg (by simp only[beq_iff_eq];omega)]
    simp
theorem cnt2:∀ (m:Nat) (s:List UInt8),s.length≤m→(splitC s).length=Lib.countB ⟨s.toArray⟩ ⟨#[44,32]⟩+1
 |m,s,hm=>by
  show (splitC s).length=Lib.count s [44,32]+1
  rcases idx2_cases s with ⟨h1,h2⟩|⟨x,r,rfl,h2,h3⟩
  ·rw[h2,Lib.count_miss h1];rfl
  ·cases m with
   |zero=>simp at hm
   |succ m=>
    have ih:=cnt2 m r (by simp at hm;omega)
    rw[h3,Lib.count_hit (by simp) h2,List.length_cons,ih]
    have e:(x++44::32::r).drop (x.length+([44,32]:List UInt8).length)=r:=by
     rw[show x++44::32::r=(x++ [44,32])++r from by simp,List.drop_left' (by simp)]
    rw[e]
    show Lib.count r [44,32]+1+1=_
    omega
theorem splitC_len:∀ (s:List UInt8),(splitC s).length≤s.length+1
 | []=>Nat.le_refl _
 | [c]=>by simp[splitC]
 |c::d::r=>by
  rw[splitC]
  split
  ·have:=splitC_len r;simp;omega
  ·have:=splitC_len (d::r)
   cases h:splitC (d::r) with
   |nil=>simp[consH]
   |cons a b=>rw[h] at this;simp[consH] at this ⊢;omega
theorem splitC_mem:∀ (s:List UInt8),∀ w ∈ splitC s,w.length≤s.length
 | [],w,h=>by simp[splitC] at h;simp[h]
 | [c],w,h=>by simp[splitC] at h;simp[h]
 |c::d::r,w,h=>by
  rw[splitC] at h
  split at h
  ·rcases List.mem_cons.1 h with rfl|h
   ·simp
   ·have:=splitC_mem r w h;simp;omega
  ·have ih:=splitC_mem (d::r)
   cases hs:splitC (d::r) with
   |nil=>rw[hs] at h;simp[consH] at h;subst h;simp
   |cons a b=>
    rw[hs] at h ih
    simp only[consH] at h
    rcases List.mem_cons.1 h with rfl|h
    ·have:=ih a (by simp);simp at this ⊢;omega
    ·have:=ih w (List.mem_cons_of_mem _ h);simp at this ⊢;omega
end Go.Itp
namespace Go.Proofs.YtimmmnanllcfoaaDoor
open Go Go.Itp
set_option maxRecDepth 100000
set_option maxHeartbeats 400000
set_option linter.unusedSimpArgs false
set_option linter.unusedVariables false
theorem countB_len (l:List UInt8) (c:UInt8):Lib.countB ⟨l.toArray⟩ ⟨[c].toArray⟩≤l.length:=by
 have:=Lib.countB_le ⟨[c].toArray⟩ (Nat.le_refl 1) l.length ⟨l.toArray⟩ (by rw[mk_size];exact Nat.le_refl _)
 rwa [mk_size] at this
theorem formB_len:∀ k p,(formB k p).length≤60:=by
 intro k p
 unfold formB fParts
 split<;>cases p<;>decide
theorem repl_len1 (l u:List UInt8) (c:UInt8) (k:Int) (h1:l.length≤1000) (h2:u.length≤1000):l.length+Lib.countB ⟨l.toArray⟩ ⟨[c].toArray⟩*u.length≤140737488355328:=by
 have:=Nat.mul_le_mul (countB_len l c) h2
 have h3:l.length*1000≤1000*1000:=Nat.mul_le_mul_right _ h1
 omega
theorem eqAgg_sti (g:Bool) (k k':Nat) (p p':Bool) (a b a' b':Int):eqAggV g [(0,0),(1,2),(2,0),(3,0)] (.agg [.sc (.int .u8 k),.sc (.bool p),.sc (.int .i64 a),.sc (.int .i64 b)]) (.agg [.sc (.int .u8 k'),.sc (.bool p'),.sc (.int .i64 a'),.sc (.int .i64 b')])=some (.sc (.bool (negB g (decide ((⟨k,p,a,b⟩:Sti)=⟨k',p',a',b'⟩))))):=by
 rw[eqAggV_agg]
 have e:eqCellsV [(0,0),(1,2),(2,0),(3,0)] [V.sc (.int .u8 k),.sc (.bool p),.sc (.int .i64 a),.sc (.int .i64 b)] [V.sc (.int .u8 k'),.sc (.bool p'),.sc (.int .i64 a'),.sc (.int .i64 b')]=some (decide ((k:Int)=k') && ((p==p') && (decide (a=a') && decide (b=b')))):=by
  simp only[eqCellsV_cons,eqCellsV_nil,eqCellV_int,eqCellV_bool,andC_some,Bool.and_true,lget,Option.bind_some]
 rw[e]
 simp only[Option.map_some]
 congr 4
 rw[Bool.eq_iff_iff]
 simp only[Bool.and_eq_true,beq_iff_eq,decide_eq_true_eq,Sti.mk.injEq]
 constructor
 ·rintro ⟨h1,h2,h3,h4⟩;exact ⟨by omega,h2,h3,h4⟩
 ·rintro ⟨h1,h2,h3,h4⟩;exact ⟨by omega,h2,h3,h4⟩
section
variable (w:World) (n:Nat)
theorem side_p (p:Bool):VSpec (EN w (n+1)) 82 [.sc (.bool p)] (strV (sideB p)) ⟨[],0,0⟩:=by
 cases p
 all_goals
  refine vspec_flat rfl rfl (fun _ _=>rfl) (Nat.le_of_ble_eq_true rfl) (oldVals w) rfl fun C hC h0=>?_
  repeat' (first|(simp (disch:=first|omega|assumption|exact bd (by with_unfolding_all rfl)|exact Or.inl rfl|(simp only[VVlen]<;>omega)|fail) only[O1,WA,Nat.reduceEqDiff,Nat.reduceLT,↓reduceIte,reduceCtorEq,c82]))
  exact weak_flat rfl h0 rfl
theorem form_p (k:Nat) (p:Bool) (h1:1≤k) (h2:k≤10):VSpec (EN w (n+2)) 57 [.sc (.int .u8 k),.sc (.bool p)] (.tup [strV (formB k p),.sc (.bool (countB k))]) ⟨[],0,0⟩:=by
 have hs:=side_p w n p
 unfold sideB at hs
 cases p
 all_goals
  rcases (by omega:k=1∨k=3∨k=4∨k=2∨k=5∨k=6∨k=7∨k=8∨k=9∨k=10) with rfl|rfl|rfl|rfl|rfl|rfl|rfl|rfl|rfl|rfl
  iterate 3
   ·refine vspec_flat rfl rfl (fun _ _=>rfl) (Nat.le_of_ble_eq_true rfl) (oldVals w) rfl fun C hC h0=>?_
    repeat' (first|(simp (disch:=first|omega|assumption|exact bd (by with_unfolding_all rfl)|exact Or.inl rfl|(simp only[VVlen]<;>omega)|fail) only[O1,WA,Nat.reduceEqDiff,Nat.reduceLT,↓reduceIte,reduceCtorEq,c57]))
    refine callV_flat (by rw[hC];exact hs.flat rfl rfl) ?_
    repeat' (first|(simp (disch:=first|omega|assumption|exact bd (by with_unfolding_all rfl)|exact Or.inl rfl|(simp only[VVlen]<;>omega)|fail) only[O1,WA,Nat.reduceEqDiff,Nat.reduceLT,↓reduceIte,cat_l]))
    exact weak_flat rfl h0 rfl
  all_goals
   refine vspec_flat rfl rfl (fun _ _=>rfl) (Nat.le_of_ble_eq_true rfl) (oldVals w) rfl fun C hC h0=>?_
   repeat' (first|(simp (disch:=first|omega|assumption|exact bd (by with_unfolding_all rfl)|exact Or.inl rfl|(simp only[VVlen]<;>omega)|fail) only[O1,WA,Nat.reduceEqDiff,Nat.reduceLT,↓reduceIte,reduceCtorEq,c57,cat_l]))
   exact weak_flat rfl h0 rfl
theorem phrase_p (x:Sti) (hx:StiP x) (m:Int) (h0:1≤m) (h1:m≤1000):VSpec (EN w (n+3)) 51 [stiV x,.sc (.int .i64 m)] (strV (phraseS x m)) ⟨[],0,0⟩:=by
 have hb:=hx.bounds
 have hf:=form_p w n x.kind x.purl hb.1 hb.2.1
 have hfl:=formB_len x.kind x.purl
 have hr:=phr_repl hx h0
 have im:=itoa_s w (n+1)
 have l1:=itoa_len4 (z:=m) (by omega) (by omega)
 have l2:=itoa_len4 (z:=x.a) (by omega) (by omega)
 have l3:=itoa_len4 (z:=x.b) (by omega) (by omega)
 have r1:=fun st=>repl_s w (n+1) st (formB x.kind x.purl) [35] (Lib.itoa m) 1 (by omega) (Nat.le_refl 1) (repl_len1 _ _ 35 1 (by omega) (by omega))
 have r2:=fun st=>repl_s w (n+1) st (formB x.kind x.purl) [35] (Lib.itoa x.a) 1 (by omega) (Nat.le_refl 1) (repl_len1 _ _ 35 1 (by omega) (by omega))
 have hlen2:(Lib.replace (formB x.kind x.purl) [35] (Lib.itoa x.a) 1).length≤70:=by
  rcases byte_split 35 (formB x.kind x.purl) with h|⟨p,q,e,h⟩
  ·rw[repl_no h];omega
  ·rw[e,repl_one h (itoa_ne35 (by omega))]
   have:=congrArg List.length e
   simp only[List.length_append,List.length_cons] at this ⊢
   omega
 have r3:=fun st=>repl_s w (n+1) st (Lib.replace (formB x.kind x.purl) [35] (Lib.itoa x.a) 1) [35] (Lib.itoa x.b) 1 (by omega) (Nat.le_refl 1) (repl_len1 _ _ 35 1 (by omega) (by omega))
 have hlen3:(Lib.replace (Lib.replace (formB x.kind x.purl) [35] (Lib.itoa x.a) 1) [35] (Lib.itoa x.b) 1).length≤80:=by
  rcases byte_split 35 (Lib.replace (formB x.kind x.purl) [35] (Lib.itoa x.a) 1) with h|⟨p,q,e,h⟩
  ·rw[repl_no h];omega
  ·rw[e,repl_one h (itoa_ne35 (by omega))]
   have:=congrArg List.length e
   simp only[List.length_append,List.length_cons] at this ⊢
   omega
 rw[hr]
 have hk:countB x.kind=true↔x.kind=1∨x.kind=8:=by unfold countB;exact decide_eq_true_iff
 cases hc:countB x.kind with
 |true=>
  rw[hc] at hf
  rw[if_pos rfl]
  generalize formB x.kind x.purl=F at*
  clear r2 r3 hlen2 hlen3 hr
  obtain ⟨xk,xp,xa,xb⟩:=x
  refine vspec_flat rfl rfl (fun _ _=>rfl) (Nat.le_of_ble_eq_true rfl) (oldVals w) rfl fun C hC h0=>?_
  simp (disch:=first|omega|assumption|exact bd (by with_unfolding_all rfl)|exact Or.inl rfl|(simp only[VVlen]<;>omega)|fail) only[O1,WA,Nat.reduceEqDiff,Nat.reduceLT,↓reduceIte,reduceCtorEq,c51]
  refine callV_flat (by rw[hC];exact hf.flat rfl rfl) ?_
  simp (disch:=first|omega|assumption|exact bd (by with_unfolding_all rfl)|exact Or.inl rfl|(simp only[VVlen]<;>omega)|fail) only[O1,WA,Nat.reduceEqDiff,Nat.reduceLT,↓reduceIte]
  refine callV_flat (by rw[hC];exact im _ m (by omega) (by omega)) ?_
  repeat' (first|(simp (disch:=first|omega|assumption|exact bd (by with_unfolding_all rfl)|exact Or.inl rfl|(simp only[VVlen]<;>omega)|fail) only[O1,WA,slotsL,opdsA,Nat.reduceEqDiff,Nat.reduceLT,Nat.reduceAdd,Nat.reduceBEq,Int.reduceAdd,Int.reduceSub,Int.reduceLT,Int.reduceLE,Int.reduceEq,Int.reduceNeg,↓reduceIte,reduceCtorEq,List.replicate])|apply gC_drawW|((first|apply gI_dec|apply gG_dec|apply gPG_dec|apply gI_var|apply gG_var|apply gPG_var)<;>intro _))
  refine callV_flat (by rw[hC];exact r1 _) ?_
  repeat' (first|(simp (disch:=first|omega|assumption|exact bd (by with_unfolding_all rfl)|exact Or.inl rfl|(simp only[VVlen]<;>omega)|fail) only[O1,WA,slotsL,opdsA,Nat.reduceEqDiff,Nat.reduceLT,Nat.reduceAdd,Nat.reduceBEq,Int.reduceAdd,Int.reduceSub,Int.reduceLT,Int.reduceLE,Int.reduceEq,Int.reduceNeg,↓reduceIte,reduceCtorEq,List.replicate])|apply gC_drawW|((first|apply gI_dec|apply gG_dec|apply gPG_dec|apply gI_var|apply gG_var|apply gPG_var)<;>intro _))
  exact weak_flat rfl h0 rfl
 |false=>
  rw[hc] at hf
  rw[if_neg (by decide)]
  have hkk:x.kind ≠ 1∧x.kind ≠ 8:=by
   rw[← Bool.not_eq_true,hk] at hc
   omega
  have ht:timesB x m=if 1<m then 32::(Lib.itoa m++timesE) else []:=by
   unfold timesB
   by_cases h:1<m
   ·rw[if_pos h,if_pos ⟨h,hkk⟩];rfl
   ·rw[if_neg h,if_neg fun hh=>h hh.1]
  rw[ht]
  generalize Lib.replace (Lib.replace (formB x.kind x.purl) [35] (Lib.itoa x.a) 1) [35] (Lib.itoa x.b) 1=R3 at*
  generalize Lib.replace (formB x.kind x.purl) [35] (Lib.itoa x.a) 1=R2 at*
  generalize formB x.kind x.purl=F at*
  obtain ⟨xk,xp,xa,xb⟩:=x
  simp only at*
  by_cases hm:1<m
  ·rw[if_pos hm]
   refine vspec_flat rfl rfl (fun _ _=>rfl) (Nat.le_of_ble_eq_true rfl) (oldVals w) rfl fun C hC h0=>?_
   simp (disch:=first|omega|assumption|exact bd (by with_unfolding_all rfl)|exact Or.inl rfl|(simp only[VVlen]<;>omega)|fail) only[O1,WA,Nat.reduceEqDiff,Nat.reduceLT,↓reduceIte,reduceCtorEq,c51]
   refine callV_flat (by rw[hC];exact hf.flat rfl rfl) ?_
   simp (disch:=first|omega|assumption|exact bd (by with_unfolding_all rfl)|exact Or.inl rfl|(simp only[VVlen]<;>omega)|fail) only[O1,WA,Nat.reduceEqDiff,Nat.reduceLT,↓reduceIte]
   refine callV_flat (by rw[hC];exact im _ xa (by omega) (by omega)) ?_
   repeat' (first|(simp (disch:=first|omega|assumption|exact bd (by with_unfolding_all rfl)|exact Or.inl rfl|(simp only[VVlen]<;>omega)|fail) only[O1,WA,slotsL,opdsA,Nat.reduceEqDiff,Nat.reduceLT,Nat.reduceAdd,Nat.reduceBEq,Int.reduceAdd,Int.reduceSub,Int.reduceLT,Int.reduceLE,Int.reduceEq,Int.reduceNeg,↓reduceIte,reduceCtorEq,List.replicate])|apply gC_drawW|((first|apply gI_dec|apply gG_dec|apply gPG_dec|apply gI_var|apply gG_var|apply gPG_var)<;>intro _))
   refine callV_flat (by rw[hC];exact r2 _) ?_
   simp (disch:=first|omega|assumption|exact bd (by with_unfolding_all rfl)|exact Or.inl rfl|(simp only[VVlen]<;>omega)|fail) only[O1,WA,Nat.reduceEqDiff,Nat.reduceLT,↓reduceIte]
   refine callV_flat (by rw[hC];exact im _ xb (by omega) (by omega)) ?_
   repeat' (first|(simp (disch:=first|omega|assumption|exact bd (by with_unfolding_all rfl)|exact Or.inl rfl|(simp only[VVlen]<;>omega)|fail) only[O1,WA,slotsL,opdsA,Nat.reduceEqDiff,Nat.reduceLT,Nat.reduceAdd,Nat.reduceBEq,Int.reduceAdd,Int.reduceSub,Int.reduceLT,Int.reduceLE,Int.reduceEq,Int.reduceNeg,↓reduceIte,reduceCtorEq,List.replicate])|apply gC_drawW|((first|apply gI_dec|apply gG_dec|apply gPG_dec|apply gI_var|apply gG_var|apply gPG_var)<;>intro _))
   refine callV_flat (by rw[hC];exact r3 _) ?_
   repeat' (first|(simp (disch:=first|omega|assumption|exact bd (by with_unfolding_all rfl)|exact Or.inl rfl|(simp only[VVlen]<;>omega)|fail) only[O1,WA,slotsL,opdsA,Nat.reduceEqDiff,Nat.reduceLT,Nat.reduceAdd,Nat.reduceBEq,Int.reduceAdd,Int.reduceSub,Int.reduceLT,Int.reduceLE,Int.reduceEq,Int.reduceNeg,↓reduceIte,reduceCtorEq,List.replicate])|apply gC_drawW|((first|apply gI_dec|apply gG_dec|apply gPG_dec|apply gI_var|apply gG_var|apply gPG_var)<;>intro _))
   all_goals try (exfalso;omega)
   refine callV_flat (by rw[hC];exact im _ m (by omega) (by omega)) ?_
   simp (disch:=first|omega|assumption|exact bd (by with_unfolding_all rfl)|exact Or.inl rfl|(simp only[VVlen]<;>omega)|fail) only[O1,WA,Nat.reduceEqDiff,Nat.reduceLT,↓reduceIte,cat_l,List.append_assoc]
   all_goals try (exfalso;omega)
   exact weak_flat rfl h0 rfl
  ·rw[if_neg hm,List.append_nil]
   refine vspec_flat rfl rfl (fun _ _=>rfl) (Nat.le_of_ble_eq_true rfl) (oldVals w) rfl fun C hC h0=>?_
   simp (disch:=first|omega|assumption|exact bd (by with_unfolding_all rfl)|exact Or.inl rfl|(simp only[VVlen]<;>omega)|fail) only[O1,WA,Nat.reduceEqDiff,Nat.reduceLT,↓reduceIte,reduceCtorEq,c51]
   refine callV_flat (by rw[hC];exact hf.flat rfl rfl) ?_
   simp (disch:=first|omega|assumption|exact bd (by with_unfolding_all rfl)|exact Or.inl rfl|(simp only[VVlen]<;>omega)|fail) only[O1,WA,Nat.reduceEqDiff,Nat.reduceLT,↓reduceIte]
   refine callV_flat (by rw[hC];exact im _ xa (by omega) (by omega)) ?_
   repeat' (first|(simp (disch:=first|omega|assumption|exact bd (by with_unfolding_all rfl)|exact Or.inl rfl|(simp only[VVlen]<;>omega)|fail) only[O1,WA,slotsL,opdsA,Nat.reduceEqDiff,Nat.reduceLT,Nat.reduceAdd,Nat.reduceBEq,Int.reduceAdd,Int.reduceSub,Int.reduceLT,Int.reduceLE,Int.reduceEq,Int.reduceNeg,↓reduceIte,reduceCtorEq,List.replicate])|apply gC_drawW|((first|apply gI_dec|apply gG_dec|apply gPG_dec|apply gI_var|apply gG_var|apply gPG_var)<;>intro _))
   refine callV_flat (by rw[hC];exact r2 _) ?_
   simp (disch:=first|omega|assumption|exact bd (by with_unfolding_all rfl)|exact Or.inl rfl|(simp only[VVlen]<;>omega)|fail) only[O1,WA,Nat.reduceEqDiff,Nat.reduceLT,↓reduceIte]
   refine callV_flat (by rw[hC];exact im _ xb (by omega) (by omega)) ?_
   repeat' (first|(simp (disch:=first|omega|assumption|exact bd (by with_unfolding_all rfl)|exact Or.inl rfl|(simp only[VVlen]<;>omega)|fail) only[O1,WA,slotsL,opdsA,Nat.reduceEqDiff,Nat.reduceLT,Nat.reduceAdd,Nat.reduceBEq,Int.reduceAdd,Int.reduceSub,Int.reduceLT,Int.reduceLE,Int.reduceEq,Int.reduceNeg,↓reduceIte,reduceCtorEq,List.replicate])|apply gC_drawW|((first|apply gI_dec|apply gG_dec|apply gPG_dec|apply gI_var|apply gG_var|apply gPG_var)<;>intro _))
   refine callV_flat (by rw[hC];exact r3 _) ?_
   repeat' (first|(simp (disch:=first|omega|assumption|exact bd (by with_unfolding_all rfl)|exact Or.inl rfl|(simp only[VVlen]<;>omega)|fail) only[O1,WA,slotsL,opdsA,Nat.reduceEqDiff,Nat.reduceLT,Nat.reduceAdd,Nat.reduceBEq,Int.reduceAdd,Int.reduceSub,Int.reduceLT,Int.reduceLE,Int.reduceEq,Int.reduceNeg,↓reduceIte,reduceCtorEq,List.replicate])|apply gC_drawW|((first|apply gI_dec|apply gG_dec|apply gPG_dec|apply gI_var|apply gG_var|apply gPG_var)<;>intro _))
   all_goals try (exfalso;omega)
   exact weak_flat rfl h0 rfl
end
theorem runsS_step (x:Sti):∀ l:List Sti,∃ t,t≤l.length∧(∀ i,i<t→l[i]! =x)∧(t<l.length→l[t]! ≠ x)∧runsS (x::l)=(x,t+1)::runsS (l.drop t)
 | []=>⟨0,Nat.le_refl _,fun i h=>absurd h (Nat.not_lt_zero _),fun h=>absurd h (Nat.not_lt_zero _),rfl⟩
 |y::l=>by
  by_cases hy:y=x
  ·subst hy
   obtain ⟨t,h1,h2,h3,h4⟩:=runsS_step y l
   refine ⟨t+1,by simp;omega,fun i hi=>?_,fun h=>?_,?_⟩
   ·cases i with
    |zero=>rfl
    |succ i=>simpa using h2 i (by omega)
   ·have:=h3 (by simpa using h)
    simpa using this
   ·rw[runsS,h4]
    simp
  ·refine ⟨0,Nat.zero_le _,fun i h=>absurd h (Nat.not_lt_zero _),fun _=>hy,?_⟩
   rw[runsS]
   cases hr:runsS (y::l) with
   |nil=>exact absurd hr (runsS_ne (by simp))
   |cons z r=>
    obtain ⟨z,m⟩:=z
    have hz:z=y:=by
     have:=runsS_flat (y::l)
     have hp:=runsS_pos (y::l) (z,m) (by rw[hr];simp)
     rw[hr,flatR_cons] at this
     obtain ⟨q,rfl⟩:∃ q,m=q+1:=⟨m - 1,by simp only at hp;omega⟩
     simp only[List.replicate_succ,List.cons_append] at this
     exact (List.cons.inj this).1
    rw[hz]
    simp only
    rw[if_neg hy,List.drop_zero,hr,hz]
theorem drop_cons! {L:List Sti} {j:Nat} (h:j<L.length):L.drop j=L[j]! ::L.drop (j+1):=by
 rw[List.drop_eq_getElem_cons h,getElem!_pos _ j h]
theorem drop_at! {L:List Sti} {j i:Nat} (h:j+i<L.length):(L.drop j)[i]! =L[j+i]! :=by
 rw[getElem!_pos _ i (by rw[List.length_drop];omega),List.getElem_drop,getElem!_pos _ (j+i) h]
theorem row1V_str (nx t:Nat) (b:ByteArray):mkRowV nx t 1 1 [.string ⟨#[]⟩] [(0,1,.sc (.string b))]=some (.ref nx 0 1 1,some (.row t 1 false false [.sc (.string b)]),[]):=(rfl)
theorem phraseS_len {x:Sti} {m:Int} (hx:StiP x) (h0:1≤m) (h1:m≤1000):(phraseS x m).length≤100:=by
 have hb:=hx.bounds
 have hfl:=formB_len x.kind x.purl
 have l1:=itoa_len4 (z:=m) (by omega) (by omega)
 have l2:=itoa_len4 (z:=x.a) (by omega) (by omega)
 have l3:=itoa_len4 (z:=x.b) (by omega) (by omega)
 have aux:∀ (F u:List UInt8),u ≠ [35]→(Lib.replace F [35] u 1).length≤F.length+u.length:=fun F u hu=>by
  rcases byte_split 35 F with h|⟨p,q,e,h⟩
  ·rw[repl_no h];omega
  ·rw[e,repl_one h hu];simp;omega
 rw[phr_repl hx h0]
 split
 ·have:=aux (formB x.kind x.purl) (Lib.itoa m) (itoa_ne35 (by omega))
  omega
 ·have a1:=aux (formB x.kind x.purl) (Lib.itoa x.a) (itoa_ne35 (by omega))
  have a2:=aux (Lib.replace (formB x.kind x.purl) [35] (Lib.itoa x.a) 1) (Lib.itoa x.b) (itoa_ne35 (by omega))
  have ht:(timesB x m).length≤11:=by
   unfold timesB
   split
   ·have:wTimes.length=5:=rfl
    simp only[List.length_cons,List.length_append,this];omega
   ·simp
  rw[List.length_append]
  omega
theorem jnC_len:∀ (ws:List (List UInt8)) (b:Nat),(∀ w ∈ ws,w.length≤b)→(jnC ws).length≤ws.length*(b+2)
 | [],b,_=>by simp[jnC]
 |w::ws,b,h=>by
  have ih:=jnC_len ws b fun x hx=>h x (List.mem_cons_of_mem _ hx)
  have hw:=h w (by simp)
  have e:(ws.length+1)*(b+2)=ws.length*(b+2)+(b+2):=Nat.succ_mul _ _
  cases ws with
  |nil=>simp[jnC];omega
  |cons v r=>
   rw[jnC_cons w (by simp)]
   simp only[List.length_append,List.length_cons] at ih e ⊢
   omega
theorem runsS_len:∀ L:List Sti,(runsS L).length≤L.length
 | []=>Nat.le_refl _
 |x::l=>by
  have ih:=runsS_len l
  rw[runsS]
  cases h:runsS l with
  |nil=>simp
  |cons y r=>
   obtain ⟨y,m⟩:=y
   rw[h] at ih
   simp only[List.length_cons] at ih ⊢
   split<;>simp<;>omega
section
variable (w:World) (n:Nat)
theorem write_inner {C:Ctx} (hC:C.E=EN w (n+3)) (s:Nat) (L:List Sti) (hL:L.length≤200) (j t:Nat) (hj:j+1+t≤L.length) (ht:∀ i,i<t→(L.drop (j+1))[i]! =L[j]!) (hn:t<(L.drop (j+1)).length→(L.drop (j+1))[t]! ≠ L[j]!) (q:Nat) (st:VSt) {K:List KF} {P:VPost}
  (hgo:gK C K (.exit 2) [(0,.sl s L.length (stiD L)),(3,.gr 2 0 q),(4,.sc (.int .i64 j)),(5,.sc (.int .i64 ((j+1+t:Nat):Int))),(29,.sc (.bool false))] st P) (hst0:st.own.length=st.own.length):
  gL C [0,3,4,5] c28l0 K [(0,.sl s L.length (stiD L)),(3,.gr 2 0 q),(4,.sc (.int .i64 j)),(5,.sc (.int .i64 ((j+1:Nat):Int)))] st P:=by
 have hrn:C.E.rounds=many:=by rw[hC,callP_rounds]
 have hil:=stiD_len L
 have hdl:(L.drop (j+1)).length=L.length - (j+1):=List.length_drop
 refine g_while (fun m fr st'=>∃ k:Nat,m=t - k∧k≤t∧fr= [(0,.sl s L.length (stiD L)),(3,.gr 2 0 q),(4,.sc (.int .i64 j)),(5,.sc (.int .i64 ((j+1+k:Nat):Int)))]∧st'=st) t ?_ ⟨_,_,.refl _ _,0,by omega,Nat.zero_le _,rfl,rfl⟩ ?_
 ·rw[hrn];unfold many;omega
 rintro m fr st' ⟨k,rfl,hk,rfl,rfl⟩
 have hagj:=stiD_agg L j (by omega)
 by_cases hlt:j+1+k<L.length
 ·have hag:=stiD_agg L (j+1+k) hlt
  have hdk:=drop_at! (L:=L) (j:=j+1) (i:=k) hlt
  by_cases hkt:k<t
  ·have he:=ht k hkt
   rw[hdk] at he
   rw[he] at hag
   generalize L[j]! =X at*
   obtain ⟨xk,xp,xa,xb⟩:=X
   simp (disch:=first|omega|assumption|exact bd (by with_unfolding_all rfl)|exact Or.inl rfl|(simp only[VVlen]<;>omega)|fail) only[O1,WA,slotsL,opdsA,Nat.reduceEqDiff,Nat.reduceLT,↓reduceIte,reduceCtorEq,c28l0,hag,hagj,↓eqAgg_sti]
   exact ⟨t - (k+1),_,_,by omega,.refl _ _,k+1,rfl,by omega,by rw[show ((j+1+k:Nat):Int)+1=((j+1+(k+1):Nat):Int) from by omega],rfl⟩
  ·have:k=t:=by omega
   subst this
   have he:=hn (by omega)
   rw[hdk] at he
   have hd:=decide_eq_false he
   generalize L[j]! =X at*
   generalize L[j+1+k]! =Y at*
   obtain ⟨xk,xp,xa,xb⟩:=X
   obtain ⟨yk,yp,ya,yb⟩:=Y
   simp (disch:=first|omega|assumption|exact bd (by with_unfolding_all rfl)|exact Or.inl rfl|(simp only[VVlen]<;>omega)|fail) only[O1,WA,slotsL,opdsA,Nat.reduceEqDiff,Nat.reduceLT,↓reduceIte,reduceCtorEq,c28l0,hag,hagj,↓eqAgg_sti,hd]
   exact hgo
 ·have:k=t:=by omega
  subst this
  simp (disch:=first|omega|assumption|exact bd (by with_unfolding_all rfl)|exact Or.inl rfl|(simp only[VVlen]<;>omega)|fail) only[O1,WA,slotsL,opdsA,Nat.reduceEqDiff,Nat.reduceLT,↓reduceIte,reduceCtorEq,c28l0]
  exact hgo
theorem write_p (s:Nat) (L:List Sti) (hL:L.length≤200) (hok:L.all stiOK=true):VSpec (EN w (n+4)) 28 [.sl s L.length (stiD L)] (strV (wordsS L)) ⟨[],0,0⟩:=by
 have hil:=stiD_len L
 have hrl:=runsS_len L
 have hP:∀ x ∈ L,StiP x:=fun x hx=>stiOK_iff.1 (List.all_eq_true.1 hok x hx)
 unfold wordsS
 by_cases hn:L= []
 ·subst hn
  rw[if_pos rfl]
  refine vspec_flat rfl rfl (fun _ _=>rfl) (Nat.le_of_ble_eq_true rfl) (oldVals w) rfl fun C hC h0=>?_
  simp (disch:=first|omega|assumption|exact bd (by with_unfolding_all rfl)|exact Or.inl rfl|(simp only[VVlen]<;>omega)|fail) only[O1,WA,Nat.reduceEqDiff,Nat.reduceLT,↓reduceIte,reduceCtorEq,c28]
  exact weak_flat rfl h0 rfl
 rw[if_neg hn]
 have hln:0<L.length:=List.length_pos_iff.2 hn
 refine vspec_flat rfl rfl (fun _ _=>rfl) (Nat.le_of_ble_eq_true rfl) (oldVals w) rfl fun C hC h0=>?_
 have hrn:C.E.rounds=many:=by rw[hC,callP_rounds]
 simp (disch:=first|omega|assumption|exact bd (by with_unfolding_all rfl)|exact Or.inl rfl|(simp only[VVlen]<;>omega)|fail) only[O1,WA,Nat.reduceEqDiff,Nat.reduceLT,↓reduceIte,reduceCtorEq,c28]
 all_goals try (exfalso;omega)
 refine g_while (fun m fr st=>∃ (j:Nat) (R:List (Sti × Nat)),m=L.length - j∧j≤L.length∧runsS L=R++runsS (L.drop j)∧fr= [(0,.sl s L.length (stiD L)),(3,.gr 2 0 R.length),(4,.sc (.int .i64 j))]∧st=⟨[(0,.gro 9 1 false ((R.map phr).map sD))],1,0⟩) L.length ?_ ⟨_,_,weak_nilSlot 3 9 1 rfl,0,[],by omega,Nat.zero_le _,rfl,rfl,rfl⟩ ?_
 ·rw[hrn];unfold many;omega
 rintro m fr st ⟨j,R,rfl,hj,hR,rfl,rfl⟩
 have hRl:R.length≤200:=by
  have:=congrArg List.length hR
  rw[List.length_append] at this
  omega
 by_cases hlt:j<L.length
 ·obtain ⟨t,h1,h2,h3,h4⟩:=runsS_step L[j]! (L.drop (j+1))
  rw[← drop_cons! hlt] at h4
  have hdl:(L.drop (j+1)).length=L.length - (j+1):=List.length_drop
  rw[hdl] at h1
  have hXP:StiP L[j]! :=hP _ (by rw[getElem!_pos _ j hlt];exact List.getElem_mem hlt)
  have hph:=phrase_p w n L[j]! hXP ((t+1:Nat):Int) (by omega) (by omega)
  have hag:=stiD_agg L j hlt
  rw[List.drop_drop] at h4
  have hR2:runsS L=(R++ [(L[j]!,t+1)])++runsS (L.drop (j+1+t)):=by rw[hR,h4];simp
  simp (disch:=first|omega|assumption|exact bd (by with_unfolding_all rfl)|exact Or.inl rfl|(simp only[VVlen]<;>omega)|fail) only[O1,WA,Nat.reduceEqDiff,Nat.reduceLT,↓reduceIte,reduceCtorEq,c28l1]
  all_goals try (exfalso;omega)
  rw[show (j:Int)+1=((j+1:Nat):Int) from rfl]
  refine write_inner w n hC s L hL j t (by omega) h2 h3 _ _ ?_ rfl
  have hdiff:((j+1+t:Nat):Int) - j=((t+1:Nat):Int):=by omega
  generalize L[j]! =X at*
  obtain ⟨xk,xp,xa,xb⟩:=X
  simp (disch:=first|omega|assumption|exact bd (by with_unfolding_all rfl)|exact Or.inl rfl|(simp only[VVlen]<;>omega)|fail) only[O1,WA,Nat.reduceEqDiff,Nat.reduceLT,↓reduceIte,reduceCtorEq,hag,hdiff]
  refine callV_flat (by rw[hC];exact hph.flat rfl rfl) ?_
  simp (disch:=first|omega|assumption|exact bd (by with_unfolding_all rfl)|exact Or.inl rfl|(simp only[VVlen]<;>omega)|fail) only[O1,WA,Nat.reduceEqDiff,Nat.reduceLT,Nat.reduceAdd,↓reduceIte,reduceCtorEq,row1V_str]
  all_goals try (exfalso;omega)
  refine ⟨L.length - (j+1+t),_,_,by omega,weak_to [(2,0)] 1 h0 rfl rfl rfl rfl,j+1+t,R++ [(⟨xk,xp,xa,xb⟩,t+1)],rfl,by omega,hR2,?_,?_⟩
  ·rw[List.length_append];rfl
  ·simp only[List.map_append];rfl
 ·have:j=L.length:=by omega
  subst this
  rw[List.drop_length,runsS,List.append_nil] at hR
  have hlen:=jnC_len (R.map phr) 100 fun w hw=>by
   obtain ⟨r,hr,rfl⟩:=List.mem_map.1 hw
   have:=runsS_pos L r (by rw[hR];exact hr)
   exact phraseS_len (hP _ this.2.2) (by omega) (by omega)
  rw[List.length_map] at hlen
  have hj:=join_s w (n+2) ⟨[],0,0⟩ 2 (by decide) (R.map phr) [44,32] (by rw[List.length_map];omega) (by rw[← jnC_eq];omega)
  rw[← jnC_eq] at hj
  rw[hR]
  have h1:∀ st:VSt,aget st.own 0=some (.gro 9 1 false ((R.map phr).map sD))→snapL st.own [.gr 2 0 R.length,.sc (.string ⟨#[44,32]⟩)]=some [.sl 2 (R.map phr).length ((R.map phr).map sD),.sc (.string ⟨#[44,32]⟩)]:=fun st h=>by
   have e:snapV st.own (.gr 2 0 R.length)=some (.sl 2 R.length ((R.map phr).map sD)):=by
    simp only[snapV,toD,h,List.length_map,Nat.mul_one]
    rw[if_pos (by simp)]
    rfl
   rw[List.length_map]
   show (snapV st.own (.gr 2 0 R.length)).bind _=_
   rw[e]
   rfl
  simp (disch:=first|omega|assumption|exact bd (by with_unfolding_all rfl)|exact Or.inl rfl|(simp only[VVlen]<;>omega)|fail) only[O1,WA,Nat.reduceEqDiff,Nat.reduceLT,↓reduceIte,reduceCtorEq,c28l1]
  all_goals try (exfalso;omega)
  refine callV_flat (by rw[hC];exact (VSpec.ofO hj).flat rfl (h1 _ rfl)) ?_
  repeat' (first|(simp (disch:=first|omega|assumption|exact bd (by with_unfolding_all rfl)|exact Or.inl rfl|(simp only[VVlen]<;>omega)|fail) only[O1,WA,slotsL,opdsA,Nat.reduceEqDiff,Nat.reduceLT,Nat.reduceAdd,Nat.reduceBEq,Int.reduceAdd,Int.reduceSub,Int.reduceLT,Int.reduceLE,Int.reduceEq,Int.reduceNeg,↓reduceIte,reduceCtorEq,List.replicate])|apply gC_drawW|((first|apply gI_dec|apply gG_dec|apply gPG_dec|apply gI_var|apply gG_var|apply gPG_var)<;>intro _))
  exact weak_flat rfl h0 rfl
end
set_option maxHeartbeats 1000000
theorem cnt1 (c:UInt8):∀ (m:Nat) (s:List UInt8),s.length≤m→(words c s).length=Lib.countB ⟨s.toArray⟩ ⟨[c].toArray⟩+1
 |m,s,hm=>by
  show (words c s).length=Lib.count s [c]+1
  rcases byte_split c s with h1|⟨x,r,rfl,h1⟩
  ·rw[words_free h1,Lib.count_miss (index_no1 s h1)];rfl
  ·cases m with
   |zero=>simp at hm
   |succ m=>
    have ih:=cnt1 c m r (by simp at hm;omega)
    rw[words_app r h1,Lib.count_hit (by simp) (index_at1 x r h1),List.length_cons,ih]
    have e:(x++c::r).drop (x.length+ [c].length)=r:=by
     rw[show x++c::r=(x++ [c])++r from by simp,List.drop_left' (by simp)]
    rw[e]
    show Lib.count r [c]+1+1=_
    omega
theorem retOK_fin0 {n:Nat} {l:List D}:RetOK [] (.sl 3 n l):=retOK_nil rfl
theorem weak_fin0 {C:Ctx} {st:VSt} {v:V} {s n:Nat} {l:List D} (hs:snapV st.own v=some (.sl s n l)) (hrow:rowsB st.ro st.own (fzS v)=true) (hk:s ≠ 1∨n ≠ 0) (h0:C.w0.nx=0) (hro:st.ro=0):Weak C [(0,v)] st [(0,.sl 3 n l)] ⟨[],0,0⟩:=
 (weak_snap (t:=0) (v:=v) rfl hs hrow).trans ((weak_slot (t:=0) (v:= .sl s n l) (v':= .sl 3 n l) rfl (same_sl3 hk)).trans (weak_to [] 0 h0 hro rfl rfl rfl))
theorem vslc_hiR (e o k n c:Nat) (j:IntKind) (b:Int) (h0:0≤b) (h1:b≤c) (hc:c<1000000000000) (hc0:c ≠ 0):vslc e none (some (.int j b)) none (.ref o k n c)=some (.ref o k b.toNat c):=by
 have h2:Nat.blt c big=true:=by rw[Nat.blt_eq];unfold big;omega
 have h3:Nat.beq c 0=false:=nbf.2 hc0
 have h4:slcN n c none (some (.int j b)) none=some (0,b.toNat,c,false):=by
  simp only[slcN,knownCap,h2,if_true,bndNat]
  rw[if_pos ⟨h0,h1⟩]
  simp[h3,h2]
 simp only[vslc,h4,Option.map_some]
 simp
def fillS (dn:List (List UInt8)) (N:Nat):List D:=dn.map sD++List.replicate (N - dn.length) (sD [])
theorem fillS_len (dn:List (List UInt8)) (N:Nat) (h:dn.length≤N):(fillS dn N).length=N:=by simp[fillS];omega
theorem fillS_set (dn:List (List UInt8)) (x:List UInt8) (N:Nat) (h:dn.length<N):(fillS dn N).set dn.length (sD x)=fillS (dn++ [x]) N:=by
 unfold fillS
 rw[List.set_append_right _ _ (by simp),List.length_map,Nat.sub_self,show N - dn.length=(N - (dn.length+1))+1 by omega,List.replicate_succ,List.length_append]
 simp
theorem fillS_all (dn:List (List UInt8)) (N:Nat) (h:dn.length=N):fillS dn N=dn.map sD:=by simp[fillS,h]
section
variable (w:World) (n:Nat)
theorem gsplit_p (l:List UInt8) (c:UInt8) (hl:l.length≤1000000):VSpec (EN w (n+5)) 56 [strV l,strV [c],.sc (.int .i64 0),.sc (.int .i64 (-1))] (.sl 3 (words c l).length ((words c l).map sD)) ⟨[],0,0⟩:=by
 refine vspec_g rfl rfl (fun _ _=>rfl) (Nat.le_of_ble_eq_true rfl) (oldVals w) retOK_fin0 rfl fun C hC h0=>?_
 have h1:(ByteArray.mk [c].toArray).size=1:=rfl
 have hne:¬ (ByteArray.mk [c].toArray=ByteArray.mk #[]):=fun h=>by
  have:=congrArg (fun b:ByteArray=>b.data.toList) h
  simp at this
 have hsz:=mk_size l
 have hcw:=cnt1 c l.length l (Nat.le_refl _)
 have hwl:=(Go.Itp.words_len (c:=c) l.length (s:=l) (Nat.le_refl _)).1
 simp (disch:=first|omega|assumption|exact bd (by with_unfolding_all rfl)|exact Or.inl rfl|(simp only[VVlen]<;>omega)|fail) only[O1,WA,Nat.reduceEqDiff,Nat.reduceLT,Nat.reduceAdd,Int.reduceLT,Int.reduceNeg,↓reduceIte,reduceCtorEq,c56,hne]
 refine callV_flat (by rw[hC];exact count_s w (n+3) _ l [c] (by omega) (Nat.le_refl 1)) ?_
 generalize hN:Lib.countB ⟨l.toArray⟩ ⟨[c].toArray⟩=N at*
 have hmin:min ((N:Int)+1) (((ByteArray.mk l.toArray).size:Int)+1)=((N+1:Nat):Int):=by rw[hsz];omega
 have hNs:((N+1:Nat):Int) - 1=(N:Int):=by omega
 have hN1:(((N+1:Nat):Int)).toNat=N+1:=by omega
 have hr0:D.sc (Value.string ⟨#[]⟩)::List.replicate N (D.sc (Value.string ⟨#[]⟩))=fillS [] (N+1):=by simp[fillS,sD,List.replicate_succ]
 simp (disch:=first|omega|assumption|exact bd (by with_unfolding_all rfl)|exact Or.inl rfl|(simp only[VVlen]<;>omega)|fail) only[O1,WA,Nat.reduceEqDiff,Nat.reduceLT,Int.reduceNeg,↓reduceIte,reduceCtorEq,List.replicate,mmV_min,hmin,hN1,hNs]
 rw[hr0]
 refine g_while (fun m fr st=>∃ (dn:List (List UInt8)) (r:List UInt8),m=r.length∧r.length≤1000000∧words c l=dn++words c r∧fr= [(0,strV r),(1,strV [c]),(2,.sc (.int .i64 0)),(3,.sc (.int .i64 N)),(9,.ref 0 0 (N+1) (N+1)),(10,.sc (.int .i64 dn.length))]∧st=⟨[(0,.row 9 1 false false (fillS dn (N+1)))],1,0⟩) l.length ?_ ⟨_,_,.refl _ _,[],l,rfl,hl,rfl,?_,rfl⟩ ?_
 ·rw[hC,callP_rounds];unfold many;omega
 ·simp
 rintro m fr st ⟨dn,r,rfl,hrl,hw,rfl,rfl⟩
 have hdl:dn.length+(words c r).length=N+1:=by rw[← hcw,hw,List.length_append]
 have hfl:=fillS_len dn (N+1) (by omega)
 have hfs:=fillS_set dn r (N+1) (by have:=List.length_pos_iff.2 (words_ne c r);omega)
 rcases byte_split c r with hf|⟨x,r',rfl,hf⟩
 ·have hwr:=words_free hf
  rw[hwr] at hw hdl
  have hd:dn.length=N:=by simpa using hdl
  have hcw':(dn++ [r]).length=N+1:=by simp[hd]
  simp (disch:=first|omega|assumption|exact bd (by with_unfolding_all rfl)|exact Or.inl rfl|(simp only[VVlen]<;>omega)|fail) only[O1,WA,Nat.reduceEqDiff,Nat.reduceLT,↓reduceIte,reduceCtorEq,c56l0]
  all_goals try (exfalso;omega)
  have hv:=vslc_hiR 1 0 0 (N+1) (N+1) .i64 ((dn.length:Int)+1) (by omega) (by omega) (by omega) (by omega)
  have hvN:((dn.length:Int)+1).toNat=N+1:=by omega
  rw[hvN] at hv
  simp (disch:=first|omega|assumption|exact bd (by with_unfolding_all rfl)|exact Or.inl rfl|(simp only[VVlen]<;>omega)|fail) only[O1,WA,Nat.reduceEqDiff,Nat.reduceLT,↓reduceIte,hv]
  refine weak_fin0 (s:=0) ?_ rfl (.inl (by decide)) h0 rfl
  rw[show D.sc (Value.string ⟨r.toArray⟩)=sD r from rfl,hfs,fillS_all _ _ (by simp;omega),hw,hcw']
  exact snap_refD rfl (by simp[hd])
 ·have hi:=index_at1 x r' hf
  have hwr:=words_app r' hf
  have hlen:(x++c::r').length=x.length+r'.length+1:=by simp;omega
  have hwp:=List.length_pos_iff.2 (words_ne c r')
  have hdN:dn.length<N:=by rw[hwr] at hdl;simp at hdl;omega
  have e1:=slcS_hi (x++c::r') .i64 x.length (by omega) (by rw[hlen];omega)
  have e2:=slcS_lo (x++c::r') .i64 ((x.length:Int)+1) (by omega) (by rw[hlen];omega)
  rw[Int.toNat_natCast,List.take_left] at e1
  rw[show ((x.length:Int)+1).toNat=x.length+1 by omega,show (x++c::r').drop (x.length+1)=r' by rw[← List.drop_drop];simp] at e2
  have h1i:((1:Nat):Int)=1:=rfl
  have hfx:=fillS_set dn x (N+1) (by omega)
  simp (disch:=first|omega|assumption|exact bd (by with_unfolding_all rfl)|exact Or.inl rfl|(simp only[VVlen]<;>omega)|fail) only[O1,WA,Nat.reduceEqDiff,Nat.reduceLT,↓reduceIte,reduceCtorEq,c56l0]
  refine callV_flat (by rw[hC];exact index_s w (n+3) _ _ [c] (by omega)) ?_
  rw[hi]
  simp (disch:=first|omega|assumption|exact bd (by with_unfolding_all rfl)|exact Or.inl rfl|(simp only[VVlen]<;>omega)|fail) only[O1,WA,Nat.reduceEqDiff,Nat.reduceLT,↓reduceIte,reduceCtorEq,h1,h1i,e1,e2,Int.add_zero]
  all_goals try (exfalso;omega)
  refine ⟨_,_,_,?_,.refl _ _,dn++ [x],r',rfl,by omega,?_,?_,?_⟩
  ·rw[hlen];omega
  ·rw[hw,hwr];simp
  ·simp
  ·rw[← hfx];rfl
theorem split_p (l:List UInt8) (c:UInt8) (hl:l.length≤1000000):VSpec (EN w (n+6)) 31 [strV l,strV [c]] (.sl 3 (words c l).length ((words c l).map sD)) ⟨[],0,0⟩:=by
 refine vspec_g rfl rfl (fun _ _=>rfl) (Nat.le_of_ble_eq_true rfl) (oldVals w) retOK_fin0 rfl fun C hC h0=>?_
 simp (disch:=first|omega|assumption|exact bd (by with_unfolding_all rfl)|exact Or.inl rfl|(simp only[VVlen]<;>omega)|fail) only[O1,WA,Nat.reduceEqDiff,Nat.reduceLT,Int.reduceNeg,↓reduceIte,reduceCtorEq,c31]
 refine callV_fin (by rw[hC];exact gsplit_p w n l c hl) rfl rfl (fun _=>rfl) ?_
 repeat' (first|(simp (disch:=first|omega|assumption|exact bd (by with_unfolding_all rfl)|exact Or.inl rfl|(simp only[VVlen]<;>omega)|fail) only[O1,WA,slotsL,opdsA,Nat.reduceEqDiff,Nat.reduceLT,Nat.reduceAdd,Nat.reduceBEq,Int.reduceAdd,Int.reduceSub,Int.reduceLT,Int.reduceLE,Int.reduceEq,Int.reduceNeg,↓reduceIte,reduceCtorEq,List.replicate])|apply gC_drawW|((first|apply gI_dec|apply gG_dec|apply gPG_dec|apply gI_var|apply gG_var|apply gPG_var)<;>intro _))
 exact weak_to [] 0 h0 rfl rfl rfl rfl
theorem gsplit2_p (l:List UInt8) (hl:l.length≤1000000):VSpec (EN w (n+5)) 56 [strV l,strV [44,32],.sc (.int .i64 0),.sc (.int .i64 (-1))] (.sl 3 (splitC l).length ((splitC l).map sD)) ⟨[],0,0⟩:=by
 refine vspec_g rfl rfl (fun _ _=>rfl) (Nat.le_of_ble_eq_true rfl) (oldVals w) retOK_fin0 rfl fun C hC h0=>?_
 have h1:(ByteArray.mk #[44,32]).size=2:=rfl
 have hne:¬ (ByteArray.mk #[44,32]=ByteArray.mk #[]):=fun h=>by
  have:=congrArg (fun b:ByteArray=>b.data.toList) h
  simp at this
 have hsz:=mk_size l
 have hcw:=cnt2 l.length l (Nat.le_refl _)
 have hwl:=splitC_len l
 simp (disch:=first|omega|assumption|exact bd (by with_unfolding_all rfl)|exact Or.inl rfl|(simp only[VVlen]<;>omega)|fail) only[O1,WA,Nat.reduceEqDiff,Nat.reduceLT,Nat.reduceAdd,Int.reduceLT,Int.reduceNeg,↓reduceIte,reduceCtorEq,c56,hne]
 refine callV_flat (by rw[hC];exact count_s w (n+3) _ l [44,32] (by omega) (by decide)) ?_
 generalize hN:Lib.countB ⟨l.toArray⟩ ⟨#[44,32]⟩=N at*
 have hmin:min ((N:Int)+1) (((ByteArray.mk l.toArray).size:Int)+1)=((N+1:Nat):Int):=by rw[hsz];omega
 have hNs:((N+1:Nat):Int) - 1=(N:Int):=by omega
 have hN1:(((N+1:Nat):Int)).toNat=N+1:=by omega
 have hr0:D.sc (Value.string ⟨#[]⟩)::List.replicate N (D.sc (Value.string ⟨#[]⟩))=fillS [] (N+1):=by simp[fillS,sD,List.replicate_succ]
 simp (disch:=first|omega|assumption|exact bd (by with_unfolding_all rfl)|exact Or.inl rfl|(simp only[VVlen]<;>omega)|fail) only[O1,WA,Nat.reduceEqDiff,Nat.reduceLT,Int.reduceNeg,↓reduceIte,reduceCtorEq,List.replicate,mmV_min,hmin,hN1,hNs]
 rw[hr0]
 refine g_while (fun m fr st=>∃ (dn:List (List UInt8)) (r:List UInt8),m=r.length∧r.length≤1000000∧splitC l=dn++splitC r∧fr= [(0,strV r),(1,strV [44,32]),(2,.sc (.int .i64 0)),(3,.sc (.int .i64 N)),(9,.ref 0 0 (N+1) (N+1)),(10,.sc (.int .i64 dn.length))]∧st=⟨[(0,.row 9 1 false false (fillS dn (N+1)))],1,0⟩) l.length ?_ ⟨_,_,.refl _ _,[],l,rfl,hl,rfl,?_,rfl⟩ ?_
 ·rw[hC,callP_rounds];unfold many;omega
 ·simp
 rintro m fr st ⟨dn,r,rfl,hrl,hw,rfl,rfl⟩
 have hdl:dn.length+(splitC r).length=N+1:=by rw[← hcw,hw,List.length_append]
 have hfl:=fillS_len dn (N+1) (by omega)
 have hfs:=fillS_set dn r (N+1) (by have:=List.length_pos_iff.2 (splitC_ne r);omega)
 rcases idx2_cases r with ⟨hi0,hwr⟩|⟨x,r',rfl,hi,hwr⟩
 ·rw[hwr] at hw hdl
  have hd:dn.length=N:=by simpa using hdl
  have hcw':(dn++ [r]).length=N+1:=by simp[hd]
  simp (disch:=first|omega|assumption|exact bd (by with_unfolding_all rfl)|exact Or.inl rfl|(simp only[VVlen]<;>omega)|fail) only[O1,WA,Nat.reduceEqDiff,Nat.reduceLT,↓reduceIte,reduceCtorEq,c56l0]
  all_goals try (exfalso;omega)
  have hv:=vslc_hiR 1 0 0 (N+1) (N+1) .i64 ((dn.length:Int)+1) (by omega) (by omega) (by omega) (by omega)
  have hvN:((dn.length:Int)+1).toNat=N+1:=by omega
  rw[hvN] at hv
  simp (disch:=first|omega|assumption|exact bd (by with_unfolding_all rfl)|exact Or.inl rfl|(simp only[VVlen]<;>omega)|fail) only[O1,WA,Nat.reduceEqDiff,Nat.reduceLT,↓reduceIte,hv]
  refine weak_fin0 (s:=0) ?_ rfl (.inl (by decide)) h0 rfl
  rw[show D.sc (Value.string ⟨r.toArray⟩)=sD r from rfl,hfs,fillS_all _ _ (by simp;omega),hw,hcw']
  exact snap_refD rfl (by simp[hd])
 ·have hlen:(x++44::32::r').length=x.length+r'.length+2:=by simp;omega
  have hwp:=List.length_pos_iff.2 (splitC_ne r')
  have hdN:dn.length<N:=by rw[hwr] at hdl;simp at hdl;omega
  have e1:=slcS_hi (x++44::32::r') .i64 x.length (by omega) (by rw[hlen];omega)
  have e2:=slcS_lo (x++44::32::r') .i64 ((x.length:Int)+2) (by omega) (by rw[hlen];omega)
  rw[Int.toNat_natCast,List.take_left] at e1
  rw[show ((x.length:Int)+2).toNat=x.length+2 by omega,show (x++44::32::r').drop (x.length+2)=r' by rw[← List.drop_drop];simp] at e2
  have h1i:((2:Nat):Int)=2:=rfl
  have hfx:=fillS_set dn x (N+1) (by omega)
  simp (disch:=first|omega|assumption|exact bd (by with_unfolding_all rfl)|exact Or.inl rfl|(simp only[VVlen]<;>omega)|fail) only[O1,WA,Nat.reduceEqDiff,Nat.reduceLT,↓reduceIte,reduceCtorEq,c56l0]
  refine callV_flat (by rw[hC];exact index_s w (n+3) _ _ [44,32] (by omega)) ?_
  rw[hi]
  simp (disch:=first|omega|assumption|exact bd (by with_unfolding_all rfl)|exact Or.inl rfl|(simp only[VVlen]<;>omega)|fail) only[O1,WA,Nat.reduceEqDiff,Nat.reduceLT,↓reduceIte,reduceCtorEq,h1,h1i,e1,e2,Int.add_zero]
  all_goals try (exfalso;omega)
  refine ⟨_,_,_,?_,.refl _ _,dn++ [x],r',rfl,by omega,?_,?_,?_⟩
  ·rw[hlen];omega
  ·rw[hw,hwr];simp
  ·simp
  ·rw[← hfx];rfl
theorem split2_p (l:List UInt8) (hl:l.length≤1000000):VSpec (EN w (n+6)) 31 [strV l,strV [44,32]] (.sl 3 (splitC l).length ((splitC l).map sD)) ⟨[],0,0⟩:=by
 refine vspec_g rfl rfl (fun _ _=>rfl) (Nat.le_of_ble_eq_true rfl) (oldVals w) retOK_fin0 rfl fun C hC h0=>?_
 simp (disch:=first|omega|assumption|exact bd (by with_unfolding_all rfl)|exact Or.inl rfl|(simp only[VVlen]<;>omega)|fail) only[O1,WA,Nat.reduceEqDiff,Nat.reduceLT,Int.reduceNeg,↓reduceIte,reduceCtorEq,c31]
 refine callV_fin (by rw[hC];exact gsplit2_p w n l hl) rfl rfl (fun _=>rfl) ?_
 repeat' (first|(simp (disch:=first|omega|assumption|exact bd (by with_unfolding_all rfl)|exact Or.inl rfl|(simp only[VVlen]<;>omega)|fail) only[O1,WA,slotsL,opdsA,Nat.reduceEqDiff,Nat.reduceLT,Nat.reduceAdd,Nat.reduceBEq,Int.reduceAdd,Int.reduceSub,Int.reduceLT,Int.reduceLE,Int.reduceEq,Int.reduceNeg,↓reduceIte,reduceCtorEq,List.replicate])|apply gC_drawW|((first|apply gI_dec|apply gG_dec|apply gPG_dec|apply gI_var|apply gG_var|apply gPG_var)<;>intro _))
 exact weak_to [] 0 h0 rfl rfl rfl rfl
end
set_option maxHeartbeats 400000
section
variable (w:World) (n:Nat)
theorem hasPre_p (s p:List UInt8) (hs:s.length≤1000000):VSpec (EN w (n+1)) 88 [strV s,strV p] (.sc (.bool (cutPre p s).isSome)) ⟨[],0,0⟩:=by
 have h1:=mk_size s
 have h2:=mk_size p
 unfold cutPre
 by_cases hl:p.length≤s.length
 ·have e1:=slcS_hi s .i64 p.length (by omega) (by omega)
  rw[Int.toNat_natCast] at e1
  by_cases he:s.take p.length=p
  ·rw[if_pos ⟨hl,he⟩]
   rw[he] at e1
   refine vspec_flat rfl rfl (fun _ _=>rfl) (Nat.le_of_ble_eq_true rfl) (oldVals w) rfl fun C hC h0=>?_
   simp (disch:=first|omega|assumption|exact bd (by with_unfolding_all rfl)|exact Or.inl rfl|(simp only[VVlen]<;>omega)|fail) only[O1,WA,Nat.reduceEqDiff,Nat.reduceLT,↓reduceIte,reduceCtorEq,c88,h1,h2,e1]
   all_goals try (exfalso;omega)
   exact weak_flat rfl h0 rfl
  ·rw[if_neg fun h=>he h.2]
   have he2:¬ ((⟨(s.take p.length).toArray⟩:ByteArray)=⟨p.toArray⟩):=by rw[mk_inj];exact he
   generalize s.take p.length=T at*
   refine vspec_flat rfl rfl (fun _ _=>rfl) (Nat.le_of_ble_eq_true rfl) (oldVals w) rfl fun C hC h0=>?_
   simp (disch:=first|omega|assumption|exact bd (by with_unfolding_all rfl)|exact Or.inl rfl|(simp only[VVlen]<;>omega)|fail) only[O1,WA,Nat.reduceEqDiff,Nat.reduceLT,↓reduceIte,reduceCtorEq,c88,h1,h2,e1,he2]
   all_goals try (exfalso;omega)
   exact weak_flat rfl h0 rfl
 ·rw[if_neg fun h=>hl h.1]
  refine vspec_flat rfl rfl (fun _ _=>rfl) (Nat.le_of_ble_eq_true rfl) (oldVals w) rfl fun C hC h0=>?_
  simp (disch:=first|omega|assumption|exact bd (by with_unfolding_all rfl)|exact Or.inl rfl|(simp only[VVlen]<;>omega)|fail) only[O1,WA,Nat.reduceEqDiff,Nat.reduceLT,↓reduceIte,reduceCtorEq,c88,h1,h2]
  all_goals try (exfalso;omega)
  exact weak_flat rfl h0 rfl
theorem cutPre_le {p s t:List UInt8} (h:cutPre p s=some t):p.length≤s.length∧t=s.drop p.length:=by
 unfold cutPre at h
 split at h
 ·rename_i hc;cases h;exact ⟨hc.1,rfl⟩
 ·cases h
theorem cutSuf_le {p s t:List UInt8} (h:cutSuf p s=some t):p.length≤s.length∧t=s.take (s.length - p.length):=by
 unfold cutSuf at h
 split at h
 ·rename_i hc;cases h;exact ⟨hc.1,rfl⟩
 ·cases h
theorem cutPre0_p (s p:List UInt8) (hs:s.length≤1000000):VSpec (EN w (n+2)) 66 [strV s,strV p] (.tup [strV ((cutPre p s).getD s),.sc (.bool (cutPre p s).isSome)]) ⟨[],0,0⟩:=by
 have h1:=mk_size s
 have h2:=mk_size p
 have hh:=hasPre_p w n s p hs
 cases hc:cutPre p s with
 |none=>
  rw[hc] at hh
  refine vspec_flat rfl rfl (fun _ _=>rfl) (Nat.le_of_ble_eq_true rfl) (oldVals w) rfl fun C hC h0=>?_
  simp (disch:=first|omega|assumption|exact bd (by with_unfolding_all rfl)|exact Or.inl rfl|(simp only[VVlen]<;>omega)|fail) only[O1,WA,Nat.reduceEqDiff,Nat.reduceLT,↓reduceIte,reduceCtorEq,c66]
  refine callV_flat (by rw[hC];exact hh.flat rfl rfl) ?_
  simp (disch:=first|omega|assumption|exact bd (by with_unfolding_all rfl)|exact Or.inl rfl|(simp only[VVlen]<;>omega)|fail) only[O1,WA,Nat.reduceEqDiff,Nat.reduceLT,↓reduceIte,reduceCtorEq,Option.isSome_none]
  exact weak_flat rfl h0 rfl
 |some t=>
  rw[hc] at hh
  obtain ⟨hl,ht⟩:=cutPre_le hc
  have e1:=slcS_lo s .i64 p.length (by omega) (by omega)
  rw[Int.toNat_natCast,← ht] at e1
  refine vspec_flat rfl rfl (fun _ _=>rfl) (Nat.le_of_ble_eq_true rfl) (oldVals w) rfl fun C hC h0=>?_
  simp (disch:=first|omega|assumption|exact bd (by with_unfolding_all rfl)|exact Or.inl rfl|(simp only[VVlen]<;>omega)|fail) only[O1,WA,Nat.reduceEqDiff,Nat.reduceLT,↓reduceIte,reduceCtorEq,c66]
  refine callV_flat (by rw[hC];exact hh.flat rfl rfl) ?_
  simp (disch:=first|omega|assumption|exact bd (by with_unfolding_all rfl)|exact Or.inl rfl|(simp only[VVlen]<;>omega)|fail) only[O1,WA,Nat.reduceEqDiff,Nat.reduceLT,↓reduceIte,reduceCtorEq,Option.isSome_some,h2,e1]
  exact weak_flat rfl h0 rfl
theorem cutPre_p (s p:List UInt8) (hs:s.length≤1000000):VSpec (EN w (n+3)) 40 [strV s,strV p] (.tup [strV ((cutPre p s).getD s),.sc (.bool (cutPre p s).isSome)]) ⟨[],0,0⟩:=by
 have hh:=cutPre0_p w n s p hs
 generalize (cutPre p s).getD s=T at*
 generalize (cutPre p s).isSome=B at*
 refine vspec_flat rfl rfl (fun _ _=>rfl) (Nat.le_of_ble_eq_true rfl) (oldVals w) rfl fun C hC h0=>?_
 simp (disch:=first|omega|assumption|exact bd (by with_unfolding_all rfl)|exact Or.inl rfl|(simp only[VVlen]<;>omega)|fail) only[O1,WA,Nat.reduceEqDiff,Nat.reduceLT,↓reduceIte,reduceCtorEq,c40]
 refine callV_flat (by rw[hC];exact hh.flat rfl rfl) ?_
 simp (disch:=first|omega|assumption|exact bd (by with_unfolding_all rfl)|exact Or.inl rfl|(simp only[VVlen]<;>omega)|fail) only[O1,WA,Nat.reduceEqDiff,Nat.reduceLT,↓reduceIte,reduceCtorEq]
 exact weak_flat rfl h0 rfl
theorem trimPre0_p (s p:List UInt8) (hs:s.length≤1000000):VSpec (EN w (n+2)) 83 [strV s,strV p] (strV ((cutPre p s).getD s)) ⟨[],0,0⟩:=by
 have h1:=mk_size s
 have h2:=mk_size p
 have hh:=hasPre_p w n s p hs
 cases hc:cutPre p s with
 |none=>
  rw[hc] at hh
  refine vspec_flat rfl rfl (fun _ _=>rfl) (Nat.le_of_ble_eq_true rfl) (oldVals w) rfl fun C hC h0=>?_
  simp (disch:=first|omega|assumption|exact bd (by with_unfolding_all rfl)|exact Or.inl rfl|(simp only[VVlen]<;>omega)|fail) only[O1,WA,Nat.reduceEqDiff,Nat.reduceLT,↓reduceIte,reduceCtorEq,c83]
  refine callV_flat (by rw[hC];exact hh.flat rfl rfl) ?_
  simp (disch:=first|omega|assumption|exact bd (by with_unfolding_all rfl)|exact Or.inl rfl|(simp only[VVlen]<;>omega)|fail) only[O1,WA,Nat.reduceEqDiff,Nat.reduceLT,↓reduceIte,reduceCtorEq,Option.isSome_none]
  exact weak_flat rfl h0 rfl
 |some t=>
  rw[hc] at hh
  obtain ⟨hl,ht⟩:=cutPre_le hc
  have e1:=slcS_lo s .i64 p.length (by omega) (by omega)
  rw[Int.toNat_natCast,← ht] at e1
  refine vspec_flat rfl rfl (fun _ _=>rfl) (Nat.le_of_ble_eq_true rfl) (oldVals w) rfl fun C hC h0=>?_
  simp (disch:=first|omega|assumption|exact bd (by with_unfolding_all rfl)|exact Or.inl rfl|(simp only[VVlen]<;>omega)|fail) only[O1,WA,Nat.reduceEqDiff,Nat.reduceLT,↓reduceIte,reduceCtorEq,c83]
  refine callV_flat (by rw[hC];exact hh.flat rfl rfl) ?_
  simp (disch:=first|omega|assumption|exact bd (by with_unfolding_all rfl)|exact Or.inl rfl|(simp only[VVlen]<;>omega)|fail) only[O1,WA,Nat.reduceEqDiff,Nat.reduceLT,↓reduceIte,reduceCtorEq,Option.isSome_some,h2,e1]
  exact weak_flat rfl h0 rfl
theorem trimPre_p (s p:List UInt8) (hs:s.length≤1000000):VSpec (EN w (n+3)) 59 [strV s,strV p] (strV ((cutPre p s).getD s)) ⟨[],0,0⟩:=by
 have hh:=trimPre0_p w n s p hs
 generalize (cutPre p s).getD s=T at*
 refine vspec_flat rfl rfl (fun _ _=>rfl) (Nat.le_of_ble_eq_true rfl) (oldVals w) rfl fun C hC h0=>?_
 simp (disch:=first|omega|assumption|exact bd (by with_unfolding_all rfl)|exact Or.inl rfl|(simp only[VVlen]<;>omega)|fail) only[O1,WA,Nat.reduceEqDiff,Nat.reduceLT,↓reduceIte,reduceCtorEq,c59]
 refine callV_flat (by rw[hC];exact hh.flat rfl rfl) ?_
 repeat' (first|(simp (disch:=first|omega|assumption|exact bd (by with_unfolding_all rfl)|exact Or.inl rfl|(simp only[VVlen]<;>omega)|fail) only[O1,WA,slotsL,opdsA,Nat.reduceEqDiff,Nat.reduceLT,Nat.reduceAdd,Nat.reduceBEq,Int.reduceAdd,Int.reduceSub,Int.reduceLT,Int.reduceLE,Int.reduceEq,Int.reduceNeg,↓reduceIte,reduceCtorEq,List.replicate])|apply gC_drawW|((first|apply gI_dec|apply gG_dec|apply gPG_dec|apply gI_var|apply gG_var|apply gPG_var)<;>intro _))
 exact weak_flat rfl h0 rfl
theorem hasSuf_p (s p:List UInt8) (hs:s.length≤1000000):VSpec (EN w (n+1)) 87 [strV s,strV p] (.sc (.bool (cutSuf p s).isSome)) ⟨[],0,0⟩:=by
 have h1:=mk_size s
 have h2:=mk_size p
 unfold cutSuf
 by_cases hl:p.length≤s.length
 ·have e1:=slcS_lo s .i64 ((s.length:Int) - p.length) (by omega) (by omega)
  rw[show ((s.length:Int) - p.length).toNat=s.length - p.length from by omega] at e1
  by_cases he:s.drop (s.length - p.length)=p
  ·rw[if_pos ⟨hl,he⟩]
   rw[he] at e1
   refine vspec_flat rfl rfl (fun _ _=>rfl) (Nat.le_of_ble_eq_true rfl) (oldVals w) rfl fun C hC h0=>?_
   simp (disch:=first|omega|assumption|exact bd (by with_unfolding_all rfl)|exact Or.inl rfl|(simp only[VVlen]<;>omega)|fail) only[O1,WA,Nat.reduceEqDiff,Nat.reduceLT,↓reduceIte,reduceCtorEq,c87,h1,h2,e1]
   all_goals try (exfalso;omega)
   exact weak_flat rfl h0 rfl
  ·rw[if_neg fun h=>he h.2]
   have he2:¬ ((⟨(s.drop (s.length - p.length)).toArray⟩:ByteArray)=⟨p.toArray⟩):=by rw[mk_inj];exact he
   generalize s.drop (s.length - p.length)=T at*
   refine vspec_flat rfl rfl (fun _ _=>rfl) (Nat.le_of_ble_eq_true rfl) (oldVals w) rfl fun C hC h0=>?_
   simp (disch:=first|omega|assumption|exact bd (by with_unfolding_all rfl)|exact Or.inl rfl|(simp only[VVlen]<;>omega)|fail) only[O1,WA,Nat.reduceEqDiff,Nat.reduceLT,↓reduceIte,reduceCtorEq,c87,h1,h2,e1,he2]
   all_goals try (exfalso;omega)
   exact weak_flat rfl h0 rfl
 ·rw[if_neg fun h=>hl h.1]
  refine vspec_flat rfl rfl (fun _ _=>rfl) (Nat.le_of_ble_eq_true rfl) (oldVals w) rfl fun C hC h0=>?_
  simp (disch:=first|omega|assumption|exact bd (by with_unfolding_all rfl)|exact Or.inl rfl|(simp only[VVlen]<;>omega)|fail) only[O1,WA,Nat.reduceEqDiff,Nat.reduceLT,↓reduceIte,reduceCtorEq,c87,h1,h2]
  all_goals try (exfalso;omega)
  exact weak_flat rfl h0 rfl
theorem cutSuf0_p (s p:List UInt8) (hs:s.length≤1000000):VSpec (EN w (n+2)) 65 [strV s,strV p] (.tup [strV ((cutSuf p s).getD s),.sc (.bool (cutSuf p s).isSome)]) ⟨[],0,0⟩:=by
 have h1:=mk_size s
 have h2:=mk_size p
 have hh:=hasSuf_p w n s p hs
 cases hc:cutSuf p s with
 |none=>
  rw[hc] at hh
  refine vspec_flat rfl rfl (fun _ _=>rfl) (Nat.le_of_ble_eq_true rfl) (oldVals w) rfl fun C hC h0=>?_
  simp (disch:=first|omega|assumption|exact bd (by with_unfolding_all rfl)|exact Or.inl rfl|(simp only[VVlen]<;>omega)|fail) only[O1,WA,Nat.reduceEqDiff,Nat.reduceLT,↓reduceIte,reduceCtorEq,c65]
  refine callV_flat (by rw[hC];exact hh.flat rfl rfl) ?_
  simp (disch:=first|omega|assumption|exact bd (by with_unfolding_all rfl)|exact Or.inl rfl|(simp only[VVlen]<;>omega)|fail) only[O1,WA,Nat.reduceEqDiff,Nat.reduceLT,↓reduceIte,reduceCtorEq,Option.isSome_none]
  exact weak_flat rfl h0 rfl
 |some t=>
  rw[hc] at hh
  obtain ⟨hl,ht⟩:=cutSuf_le hc
  have e1:=slcS_hi s .i64 ((s.length:Int) - p.length) (by omega) (by omega)
  rw[show ((s.length:Int) - p.length).toNat=s.length - p.length from by omega,← ht] at e1
  refine vspec_flat rfl rfl (fun _ _=>rfl) (Nat.le_of_ble_eq_true rfl) (oldVals w) rfl fun C hC h0=>?_
  simp (disch:=first|omega|assumption|exact bd (by with_unfolding_all rfl)|exact Or.inl rfl|(simp only[VVlen]<;>omega)|fail) only[O1,WA,Nat.reduceEqDiff,Nat.reduceLT,↓reduceIte,reduceCtorEq,c65]
  refine callV_flat (by rw[hC];exact hh.flat rfl rfl) ?_
  simp (disch:=first|omega|assumption|exact bd (by with_unfolding_all rfl)|exact Or.inl rfl|(simp only[VVlen]<;>omega)|fail) only[O1,WA,Nat.reduceEqDiff,Nat.reduceLT,↓reduceIte,reduceCtorEq,Option.isSome_some,h1,h2,e1]
  exact weak_flat rfl h0 rfl
theorem cutSuf_p (s p:List UInt8) (hs:s.length≤1000000):VSpec (EN w (n+3)) 39 [strV s,strV p] (.tup [strV ((cutSuf p s).getD s),.sc (.bool (cutSuf p s).isSome)]) ⟨[],0,0⟩:=by
 have hh:=cutSuf0_p w n s p hs
 generalize (cutSuf p s).getD s=T at*
 generalize (cutSuf p s).isSome=B at*
 refine vspec_flat rfl rfl (fun _ _=>rfl) (Nat.le_of_ble_eq_true rfl) (oldVals w) rfl fun C hC h0=>?_
 simp (disch:=first|omega|assumption|exact bd (by with_unfolding_all rfl)|exact Or.inl rfl|(simp only[VVlen]<;>omega)|fail) only[O1,WA,Nat.reduceEqDiff,Nat.reduceLT,↓reduceIte,reduceCtorEq,c39]
 refine callV_flat (by rw[hC];exact hh.flat rfl rfl) ?_
 simp (disch:=first|omega|assumption|exact bd (by with_unfolding_all rfl)|exact Or.inl rfl|(simp only[VVlen]<;>omega)|fail) only[O1,WA,Nat.reduceEqDiff,Nat.reduceLT,↓reduceIte,reduceCtorEq]
 exact weak_flat rfl h0 rfl
theorem digsP_at (s:List UInt8):(digsP s).length≤4∧(digsP s).length≤s.length∧digsP s=s.take (digsP s).length∧(∀ i,i<(digsP s).length→isDig s[i]! =true)∧((digsP s).length<4→(digsP s).length<s.length→isDig s[(digsP s).length]! =false):=by
 have aux:∀ (m:Nat) (l:List UInt8),((l.take m).takeWhile isDig).length≤m∧((l.take m).takeWhile isDig).length≤l.length∧(l.take m).takeWhile isDig=l.take ((l.take m).takeWhile isDig).length∧(∀ i,i<((l.take m).takeWhile isDig).length→isDig l[i]! =true)∧(((l.take m).takeWhile isDig).length<m→((l.take m).takeWhile isDig).length<l.length→isDig l[((l.take m).takeWhile isDig).length]! =false):=by
  intro m
  induction m with
  |zero=>intro l;simp
  |succ m ih=>
   intro l
   cases l with
   |nil=>simp
   |cons c l=>
    obtain ⟨h1,h2,h3,h4,h5⟩:=ih l
    rw[List.take_succ_cons,List.takeWhile_cons]
    cases hc:isDig c with
    |false=>simp[hc]
    |true=>
     simp only[if_true,List.length_cons,List.take_succ_cons]
     refine ⟨by omega,by omega,by rw[← h3],fun i hi=>?_,fun a b=>?_⟩
     ·cases i with
      |zero=>simpa using hc
      |succ i=>simpa using h4 i (by omega)
     ·have:=h5 (by omega) (by omega)
      simpa using this
 exact aux 4 s
theorem valP_take {s:List UInt8} {k:Nat} (hk:k<s.length):valP (s.take (k+1))=10*valP (s.take k)+((s[k]!.toNat:Int) - 48):=by
 rw[List.take_succ_eq_append_getElem hk,valP_snoc,getElem!_pos s k hk]
theorem valP_bound:∀ (n:Nat) (l:List UInt8),l.length=n→(∀ c ∈ l,isDig c=true)→0≤valP l∧valP l<10 ^ l.length:=by
 intro n
 induction n with
 |zero=>
  intro l hl _
  have:=List.eq_nil_of_length_eq_zero hl
  subst this
  simp[valP]
 |succ n ih=>
  intro l hl h
  rcases List.eq_nil_or_concat l with rfl|⟨q,d,rfl⟩
  ·simp at hl
  ·have h1:=ih q (by simpa using hl) fun c hc=>h c (by simp[hc])
   have h2:=h d (by simp)
   simp only[isDig,Bool.and_eq_true,decide_eq_true_eq] at h2
   rw[List.concat_eq_append,valP_snoc,List.length_append,List.length_singleton,Int.pow_succ]
   omega
theorem valP4 {s:List UInt8} {k:Nat} (hk:k≤(digsP s).length):0≤valP (s.take k)∧valP (s.take k)<10000:=by
 obtain ⟨h1,h2,h3,h4,h5⟩:=digsP_at s
 have hb:=valP_bound _ (s.take k) rfl fun c hc=>by
  obtain ⟨i,hi,rfl⟩:=List.mem_iff_getElem.1 hc
  rw[List.length_take] at hi
  have:=h4 i (by omega)
  rw[getElem!_pos s i (by omega)] at this
  rw[List.getElem_take];exact this
 refine ⟨hb.1,Int.lt_of_lt_of_le hb.2 ?_⟩
 have hl:(s.take k).length≤4:=by rw[List.length_take];omega
 rcases (by omega:(s.take k).length=0∨(s.take k).length=1∨(s.take k).length=2∨(s.take k).length=3∨(s.take k).length=4) with h|h|h|h|h<;>rw[h]<;>decide
theorem number_p (s:List UInt8) (hs:s.length≤1000000):VSpec (EN w (n+1)) 58 [strV s] (.tup [.sc (.int .i64 (valP (digsP s))),strV (restP s),.sc (.bool (decide (digsP s ≠ [])))]) ⟨[],0,0⟩:=by
 refine vspec_flat rfl rfl (fun _ _=>rfl) (Nat.le_of_ble_eq_true rfl) (oldVals w) rfl fun C hC h0=>?_
 have hrn:C.E.rounds=many:=by rw[hC,callP_rounds]
 have hsz:=mk_size s
 obtain ⟨h1,h2,h3,h4,h5⟩:=digsP_at s
 have hv:=fun k (hk:k≤(digsP s).length)=>valP4 hk
 have hne:decide (digsP s ≠ [])=decide (0<(digsP s).length):=by
  rw[Bool.eq_iff_iff,decide_eq_true_iff,decide_eq_true_iff,List.length_pos_iff]
 rw[hne]
 unfold restP
 have hval:valP (digsP s)=valP (s.take (digsP s).length):=congrArg valP h3
 rw[hval]
 generalize (digsP s).length=d at*
 simp (disch:=first|omega|assumption|exact bd (by with_unfolding_all rfl)|exact Or.inl rfl|(simp only[VVlen]<;>omega)|fail) only[O1,WA,Nat.reduceEqDiff,Nat.reduceLT,↓reduceIte,reduceCtorEq,c58]
 refine g_while (fun m fr st=>∃ k:Nat,m=d - k∧k≤d∧fr= [(0,strV s),(2,.sc (.int .i64 (valP (s.take k)))),(5,.sc (.int .i64 k))]∧st=⟨[],0,0⟩) d ?_ ⟨_,_,.refl _ _,0,by omega,Nat.zero_le _,rfl,rfl⟩ ?_
 ·rw[hrn];unfold many;omega
 rintro m fr st ⟨k,rfl,hk,rfl,rfl⟩
 have hvk:=hv k hk
 by_cases hlt:k<d
 ·have hdg:=h4 k hlt
  have hb:=idxStr_l s .i64 k (by omega) (by omega)
  rw[Int.toNat_natCast] at hb
  have hst:=valP_take (s:=s) (k:=k) (by omega)
  have hvk1:=hv (k+1) hlt
  simp only[isDig,Bool.and_eq_true,decide_eq_true_eq] at hdg
  generalize s[k]!.toNat=b at*
  generalize valP (s.take k)=v at*
  have e1:IntKind.u8.wrap ((b:Int) - 48)=((b - 48:Nat):Int):=by rw[wrap_u8 _ (by omega) (by omega)];omega
  simp (disch:=first|omega|assumption|exact bd (by with_unfolding_all rfl)|exact Or.inl rfl|(simp only[VVlen]<;>omega)|fail) only[O1,WA,Nat.reduceEqDiff,Nat.reduceLT,↓reduceIte,reduceCtorEq,c58l0,hsz,hb,e1]
  all_goals try (exfalso;omega)
  refine ⟨_,_,_,by omega,.refl _ _,k+1,rfl,hlt,?_,rfl⟩
  rw[hst,show (b:Int) - 48=((b - 48:Nat):Int) from by omega]
  rfl
 ·have:k=d:=by omega
  subst this
  have e1:=slcS_lo s .i64 k (by omega) (by omega)
  rw[Int.toNat_natCast] at e1
  by_cases hb4:k<4∧k<s.length
  ·have hdg:=h5 hb4.1 hb4.2
   have hb:=idxStr_l s .i64 k (by omega) (by omega)
   rw[Int.toNat_natCast] at hb
   have hdg2:¬ (48≤s[k]!.toNat∧s[k]!.toNat≤57):=fun h=>by
    have:isDig s[k]! =true:=by simp only[isDig,Bool.and_eq_true,decide_eq_true_eq];exact h
    rw[hdg] at this;cases this
   generalize s[k]!.toNat=b at*
   generalize valP (s.take k)=v at*
   rcases (by omega:b<48∨57<b) with h|h
   all_goals
    repeat' (first|(simp (disch:=first|omega|assumption|exact bd (by with_unfolding_all rfl)|exact Or.inl rfl|(simp only[VVlen]<;>omega)|fail) only[O1,WA,slotsL,opdsA,Nat.reduceEqDiff,Nat.reduceLT,↓reduceIte,reduceCtorEq,c58l0,hsz,hb,e1])|apply gC_drawW|((first|apply gI_dec|apply gG_dec|apply gPG_dec|apply gI_var|apply gG_var|apply gPG_var)<;>intro _))
    all_goals try (exfalso;omega)
    rw[show decide ((0:Int)<k)=decide (0<k) from decide_eq_decide.2 (by omega)]
    exact weak_flat rfl h0 rfl
  ·generalize valP (s.take k)=v at*
   rcases (by omega:¬ k<s.length∨(k<s.length∧¬ k<4)) with h|h
   ·simp (disch:=first|omega|assumption|exact bd (by with_unfolding_all rfl)|exact Or.inl rfl|(simp only[VVlen]<;>omega)|fail) only[O1,WA,slotsL,opdsA,Nat.reduceEqDiff,Nat.reduceLT,↓reduceIte,reduceCtorEq,c58l0,hsz,e1]
    all_goals try (exfalso;omega)
    rw[show decide ((0:Int)<k)=decide (0<k) from decide_eq_decide.2 (by omega)]
    exact weak_flat rfl h0 rfl
   ·simp (disch:=first|omega|assumption|exact bd (by with_unfolding_all rfl)|exact Or.inl rfl|(simp only[VVlen]<;>omega)|fail) only[O1,WA,slotsL,opdsA,Nat.reduceEqDiff,Nat.reduceLT,↓reduceIte,reduceCtorEq,c58l0,hsz,e1]
    all_goals try (exfalso;omega)
    exact weak_flat rfl h0 rfl
end
def matchV:Option (List Int × List UInt8)→V
 |none=> .tup [.sl 3 0 [],strV [],.sc (.bool false)]
 |some (m,r)=> .tup [.sl 3 m.length (m.map iD),strV r,.sc (.bool true)]
theorem row1V_int (nx t:Nat) (z:Int):mkRowV nx t 1 1 [.int .i64 0] [(0,1,.sc (.int .i64 z))]=some (.ref nx 0 1 1,some (.row t 1 false false [.sc (.int .i64 z)]),[]):=(rfl)
theorem snap_gr1 {H:VHp} {o t n:Nat} {z:Bool} {l:List D} (h:aget H o=some (.gro t 1 z l)) (hl:l.length=n):snapV H (.gr 2 o n)=some (.sl 2 n l):=by
 simp only[snapV,toD,h,Nat.mul_one]
 rw[if_pos ⟨hl,by decide,by decide,by decide⟩]
 rfl
theorem restP_len (s:List UInt8):(restP s).length≤s.length:=by unfold restP;rw[List.length_drop];omega
section
variable (w:World) (n:Nat)
theorem match_p (s form:List UInt8) (hs:s.length≤100000) (hf:form.length≤1000):VSpec (EN w (n+7)) 38 [strV s,strV form] (matchV (matchF (words 35 form) s)) ⟨[],0,0⟩:=by
 have hsp:=split_p w n form 35 (by omega)
 have hwl:=(Go.Itp.words_len (c:=35) form.length (s:=form) (Nat.le_refl _))
 have hwn:=words_ne 35 form
 generalize words 35 form=f at*
 refine vspec_g rfl rfl (fun _ _=>rfl) (Nat.le_of_ble_eq_true rfl) (oldVals w) (by cases matchF f s<;>exact retOK_finP) rfl fun C hC h0=>?_
 have hrn:C.E.rounds=many:=by rw[hC,callP_rounds]
 simp (disch:=first|omega|assumption|exact bd (by with_unfolding_all rfl)|exact Or.inl rfl|(simp only[VVlen]<;>omega)|fail) only[O1,WA,Nat.reduceEqDiff,Nat.reduceLT,↓reduceIte,reduceCtorEq,c38]
 refine callV_fin (by rw[hC];exact hsp) rfl rfl (fun _=>rfl) ?_
 simp (disch:=first|omega|assumption|exact bd (by with_unfolding_all rfl)|exact Or.inl rfl|(simp only[VVlen]<;>omega)|fail) only[O1,WA,Nat.reduceEqDiff,Nat.reduceLT,↓reduceIte,reduceCtorEq]
 refine g_while (fun m fr st=>∃ (k:Nat) (t:List UInt8) (l:List Int),m=f.length - k∧k≤f.length∧t.length≤s.length∧l.length≤k∧(if k=0 then t=s∧l= [] else matchF f s=matchR (f.drop k) t l)∧fr= [(0,strV t),(4,.gr 2 0 l.length),(17,.sl 3 f.length (f.map sD)),(18,.sc (.int .i64 f.length)),(19,.sc (.int .i64 k))]∧st=⟨[(0,.gro 3 1 false (l.map iD))],1,0⟩) f.length ?_ ⟨_,_,weak_nilSlot 4 3 1 rfl,0,s,[],by omega,Nat.zero_le _,Nat.le_refl _,Nat.le_refl _,by rw[if_pos rfl];exact ⟨rfl,rfl⟩,rfl,rfl⟩ ?_
 ·rw[hrn];unfold many;omega
 rintro m fr st ⟨k,t,l,rfl,hk,htl,hll,hinv,rfl,rfl⟩
 by_cases hlt:k<f.length
 ·have hfk:f.drop k=f[k]! ::f.drop (k+1):=by rw[List.drop_eq_getElem_cons hlt,getElem!_pos f k hlt]
  have hpl:f[k]!.length≤1000:=by
   have:=hwl.2 f[k]! (by rw[getElem!_pos f k hlt];exact List.getElem_mem hlt)
   omega
  generalize hp:f[k]! =p at*
  by_cases hk0:k=0
  ·subst hk0
   rw[if_pos rfl] at hinv
   obtain ⟨rfl,rfl⟩:=hinv
   have hcp:=cutPre_p w (n+3) t p (by omega)
   rw[List.drop_zero] at hfk
   have hm:matchF f t=match cutPre p t with
     |none=>none
     |some t'=>matchR (f.drop 1) t' []:=by rw[hfk];rfl
   cases hc:cutPre p t with
   |none=>
    rw[hc] at hcp hm
    rw[hm]
    simp (disch:=first|omega|assumption|exact bd (by with_unfolding_all rfl)|exact Or.inl rfl|(simp only[VVlen]<;>omega)|fail) only[O1,WA,Nat.reduceEqDiff,Nat.reduceLT,↓reduceIte,reduceCtorEq,c38l0,hp]
    all_goals try (exfalso;omega)
    refine callV_flat (by rw[hC];exact hcp.flat rfl rfl) ?_
    simp (disch:=first|omega|assumption|exact bd (by with_unfolding_all rfl)|exact Or.inl rfl|(simp only[VVlen]<;>omega)|fail) only[O1,WA,Nat.reduceEqDiff,Nat.reduceLT,↓reduceIte,reduceCtorEq,Option.isSome_none]
    exact weak_finPNil h0 rfl
   |some t'=>
    rw[hc] at hcp hm
    have hle:=cutPre_le hc
    have htl':t'.length≤t.length:=by rw[hle.2,List.length_drop];omega
    simp (disch:=first|omega|assumption|exact bd (by with_unfolding_all rfl)|exact Or.inl rfl|(simp only[VVlen]<;>omega)|fail) only[O1,WA,Nat.reduceEqDiff,Nat.reduceLT,↓reduceIte,reduceCtorEq,c38l0,hp]
    all_goals try (exfalso;omega)
    refine callV_flat (by rw[hC];exact hcp.flat rfl rfl) ?_
    simp (disch:=first|omega|assumption|exact bd (by with_unfolding_all rfl)|exact Or.inl rfl|(simp only[VVlen]<;>omega)|fail) only[O1,WA,Nat.reduceEqDiff,Nat.reduceLT,↓reduceIte,reduceCtorEq,Option.isSome_some,Option.getD_some]
    exact ⟨f.length - 1,_,_,by omega,.refl _ _,1,t',[],rfl,by omega,htl',Nat.zero_le _,by rw[if_neg (by decide)];exact hm,rfl,rfl⟩
  ·rw[if_neg hk0] at hinv
   rw[hfk,matchR] at hinv
   have hnum:=number_p w (n+5) t (by omega)
   by_cases hd:digsP t= []
   ·rw[if_pos hd] at hinv
    rw[hinv]
    rw[hd,show decide (([]:List UInt8) ≠ [])=false from rfl] at hnum
    simp (disch:=first|omega|assumption|exact bd (by with_unfolding_all rfl)|exact Or.inl rfl|(simp only[VVlen]<;>omega)|fail) only[O1,WA,Nat.reduceEqDiff,Nat.reduceLT,↓reduceIte,reduceCtorEq,c38l0,hp]
    all_goals try (exfalso;omega)
    refine callV_flat (by rw[hC];exact hnum.flat rfl rfl) ?_
    simp (disch:=first|omega|assumption|exact bd (by with_unfolding_all rfl)|exact Or.inl rfl|(simp only[VVlen]<;>omega)|fail) only[O1,WA,Nat.reduceEqDiff,Nat.reduceLT,↓reduceIte,reduceCtorEq]
    exact weak_finPNil h0 rfl
   ·rw[if_neg hd] at hinv
    rw[decide_eq_true hd] at hnum
    have hrl:=restP_len t
    generalize valP (digsP t)=v at*
    generalize restP t=r at*
    have hcp:=cutPre_p w (n+3) r p (by omega)
    cases hc:cutPre p r with
    |none=>
     rw[hc] at hcp hinv
     rw[hinv]
     simp (disch:=first|omega|assumption|exact bd (by with_unfolding_all rfl)|exact Or.inl rfl|(simp only[VVlen]<;>omega)|fail) only[O1,WA,Nat.reduceEqDiff,Nat.reduceLT,↓reduceIte,reduceCtorEq,c38l0,hp]
     all_goals try (exfalso;omega)
     refine callV_flat (by rw[hC];exact hnum.flat rfl rfl) ?_
     simp (disch:=first|omega|assumption|exact bd (by with_unfolding_all rfl)|exact Or.inl rfl|(simp only[VVlen]<;>omega)|fail) only[O1,WA,Nat.reduceEqDiff,Nat.reduceLT,Nat.reduceAdd,↓reduceIte,reduceCtorEq,row1V_int]
     all_goals try (exfalso;omega)
     refine callV_flat (by rw[hC];exact hcp.flat rfl rfl) ?_
     simp (disch:=first|omega|assumption|exact bd (by with_unfolding_all rfl)|exact Or.inl rfl|(simp only[VVlen]<;>omega)|fail) only[O1,WA,Nat.reduceEqDiff,Nat.reduceLT,↓reduceIte,reduceCtorEq,Option.isSome_none]
     exact weak_finPNil h0 rfl
    |some t'=>
     rw[hc] at hcp hinv
     have hle:=cutPre_le hc
     have htl':t'.length≤r.length:=by rw[hle.2,List.length_drop];omega
     simp (disch:=first|omega|assumption|exact bd (by with_unfolding_all rfl)|exact Or.inl rfl|(simp only[VVlen]<;>omega)|fail) only[O1,WA,Nat.reduceEqDiff,Nat.reduceLT,↓reduceIte,reduceCtorEq,c38l0,hp]
     all_goals try (exfalso;omega)
     refine callV_flat (by rw[hC];exact hnum.flat rfl rfl) ?_
     simp (disch:=first|omega|assumption|exact bd (by with_unfolding_all rfl)|exact Or.inl rfl|(simp only[VVlen]<;>omega)|fail) only[O1,WA,Nat.reduceEqDiff,Nat.reduceLT,Nat.reduceAdd,↓reduceIte,reduceCtorEq,row1V_int]
     all_goals try (exfalso;omega)
     refine callV_flat (by rw[hC];exact hcp.flat rfl rfl) ?_
     simp (disch:=first|omega|assumption|exact bd (by with_unfolding_all rfl)|exact Or.inl rfl|(simp only[VVlen]<;>omega)|fail) only[O1,WA,Nat.reduceEqDiff,Nat.reduceLT,↓reduceIte,reduceCtorEq,Option.isSome_some,Option.getD_some]
     refine ⟨f.length - (k+1),_,_,by omega,weak_to [(2,0)] 1 h0 rfl rfl rfl rfl,k+1,t',l++ [v],rfl,by omega,by omega,by rw[List.length_append];simp;omega,by rw[if_neg (by omega)];exact hinv,by rw[List.length_append];rfl,by rw[List.map_append];rfl⟩
 ·have:k=f.length:=by omega
  subst this
  have hpos:=List.length_pos_iff.2 hwn
  rw[if_neg (by omega),List.drop_length,matchR] at hinv
  rw[hinv]
  unfold matchV
  simp (disch:=first|omega|assumption|exact bd (by with_unfolding_all rfl)|exact Or.inl rfl|(simp only[VVlen]<;>omega)|fail) only[O1,WA,Nat.reduceEqDiff,Nat.reduceLT,↓reduceIte,reduceCtorEq,c38l0]
  all_goals try (exfalso;omega)
  refine weak_finP (s:=2) (n:=l.length) (l:=l.map iD) ?_ rfl (.inl (by omega)) h0 rfl
  exact snap_gr1 rfl (by simp)
end
end Go.Proofs.YtimmmnanllcfoaaDoor
