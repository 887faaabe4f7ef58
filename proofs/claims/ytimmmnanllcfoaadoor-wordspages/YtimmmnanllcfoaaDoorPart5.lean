/- What is proved: the law WordsPages returns true for every input. Conditions: none beyond the card's own.
   Texts: C41VA, S41D, H41V, P41a, P41b, P41c, P41d, P41e, Q41a, Q41b, Q41c, P41f, Q41d, Q41e, Q41f, Q41g, Q41h, Q41i, Q41j.
-/
import Derived.Test.YtimmmnanllcfoaaDoorPart4
import Derived.Test.YtimmmnanllcfoaaDoorProg
import Derived.Shelf.Strings.Builder1
import Derived.Shelf.Strings.Builder2
import Derived.Shelf.Strings.OnBuilder
import Derived.Shelf.Utf8.RuneCount
import Derived.Shelf.Strconv.Itoa0
import Derived.Shelf.Strconv.Itoa1
import Derived.Shelf.LaysM
import Derived.Shelf.Strconv.Itoa2
import Derived.Shelf.Strconv.Itoa3
import Derived.Shelf.Strings.Search1
import Derived.Shelf.Strings.Search2
import Derived.Shelf.Strings.Search3
import Derived.Shelf.Strings.Count
import Derived.Shelf.Strings.Shaped
import Derived.Shelf.Strings.Split
import Derived.Shelf.Strings.Replace
import Derived.Shelf.Strings.SplitShaped
import Derived.Shelf.Unicode.Decode
import Derived.Shelf.Strings.RuneCount
import Derived.Shelf.Strings.Explode
import Derived.Shelf.Unicode.DecodeSlow
import Derived.Shelf.Unicode.DecodeAny
import Derived.KernelRfl
import Derived.Lib.Join
import Derived.Lib.Replace
import Derived.Lib.Bytealg
namespace Go.Proofs.YtimmmnanllcfoaaDoor
open Go Go.Itp
set_option maxRecDepth 100000
/- raddle/raddlelaw41.WordsPages -/
def aN3:AC:= .seq (.seq (.ops [a7 75 16,a7 76 13,b9 77 (.len true (.tmp 76)),n6 78 75 .lss (.tmp 77)] [3,7,13,15,16,78]) (.cond (.tmp 78) (.skip) (.exit 0))) (.seq (.block 1 (.seq (.ops [a7 81 13,a7 82 16,b9 83 (.idxStr (.tmp 81) (.tmp 82)),n6 84 83 .eql (H8 10)] [3,7,13,15,16,84]) (.cond (.tmp 84) (.ops [a7 85 15,n6 86 85 .add (n9 1),a7 15 86] [3,7,13,15,16]) (.skip)))) (.ops [a7 79 16,n6 80 79 .add (n9 1),a7 16 80] [3,7,13,15,16]))
def c7:p7:=⟨.seq (.ops [b9 3 (.box 52 (.tmp 0)),b9 4 (.box 36 (.tmp 1)),b9 6 (.mov (.const (.bool false)))] [2,3,4]) (.seq (.ops [b9 19 (.callF 24 []),a7 7 19] [2,3,4,7]) (.seq (.seq (.ops [b9 20 (.load (some 2) (.tmp 3)),P5 21 25 20,a7 22 21,z1 23 22 (.fldA 1 (.tmp 4)),z1 24 22 (.load none (.tmp 23)),z1 25 22 (.callF 9 [.tmp 24]),b9 26 (.pick (.tmp 22) (.const (.bool true)) (.tmp 25)),a7 27 26,z1 28 27 (.mov (.tmp 7)),z1 29 27 (.un .not (.tmp 28)),b9 30 (.pick (.tmp 27) (.const (.bool true)) (.tmp 29))] [2,3,4,7,30]) (.cond (.tmp 30) (.seq (.ops [a7 31 7,a7 6 31] [6]) (.ret)) (.skip))) (.seq (.ops [b9 33 (.load (some 2) (.tmp 4)),a7 34 2,b9 35 (.callF 15 [(.tmp 33),(.tmp 34)]),a7 32 35,G8 36 32 0,G8 37 32 1,a7 8 36,a7 9 37] [2,3,4,7,8,9]) (.seq (.seq (.ops [a7 38 9,n6 39 38 .eql (n9 0)] [2,3,4,7,8,39]) (.cond (.tmp 39) (.seq (.ops [a7 41 8,P5 42 17 41,a7 40 42,G8 43 40 0,G8 44 40 1,G8 45 40 2,b9 10 (.alloc 36 [(1,(.bool false)),(1,(.slice none 0 0))]),⟨none,none,.store 2 (.tmp 10) (.tmp 43)⟩,a7 11 44,a7 12 45] [2,3,4,7,10,11,12]) (.seq (.ops [a7 46 12,n6 47 46 .neq (n9 0),a7 48 47,z1 49 48 (.mov (.tmp 11)),z1 50 48 (.mov (.tmp 2)),z1 51 48 (.bin .neq (.tmp 49) (.tmp 50)),b9 52 (.pick (.tmp 48) (.const (.bool true)) (.tmp 51)),a7 53 52,z1 54 53 (.load (some 2) (.tmp 10)),z1 55 53 (.load (some 2) (.tmp 4)),z1 56 53 (.callF 19 [(.tmp 54),(.tmp 55)]),z1 57 53 (.un .not (.tmp 56)),b9 58 (.pick (.tmp 53) (.const (.bool true)) (.tmp 57))] [3,7,58]) (.cond (.tmp 58) (.seq (.ops [b9 6 (.mov (.const (.bool false)))] [6]) (.ret)) (.skip)))) (.skip))) (.seq (.ops [b9 60 (.load (some 2) (.tmp 3)),P5 61 22 60,a7 59 61,G8 62 59 0,G8 63 59 1,a7 13 62,a7 14 63] [3,7,13,14]) (.seq (.seq (.ops [a7 64 14,n6 65 64 .neq (n9 0)] [3,7,13,14,65]) (.cond (.tmp 65) (.seq (.ops [a7 66 7,a7 67 66,r9 68 67 (.mov (.tmp 14)),r9 69 67 (.bin .eql (.tmp 68) (n9 4)),r9 70 67 (.mov (.tmp 69)),z1 71 70 (.mov (.tmp 14)),z1 72 70 (.bin .eql (.tmp 71) (n9 8)),r9 73 67 (.pick (.tmp 70) (.const (.bool true)) (.tmp 72)),b9 74 (.pick (.tmp 67) (.tmp 73) (.const (.bool false))),a7 6 74] [6]) (.ret)) (.skip))) (.seq (.ops [C4 15 0] [3,7,13,15])
  (.seq (.seq (.ops [C4 16 0] [3,7,13,15,16]) (.block 0 (.loop [3,7,13,15,16] aN3))) (.seq (.ops [a7 88 13,P5 89 23 88,a7 87 89,G8 90 87 0,G8 91 87 1,b9 17 (.alloc 52 [(1,(.int .i64 0)),(1,(.slice none 0 0))]),⟨none,none,.store 2 (.tmp 17) (.tmp 90)⟩,a7 18 91] [3,7,15,17,18]) (.seq (.ops [a7 92 7,a7 93 92,r9 94 93 (.mov (.tmp 18)),r9 95 93 (.bin .eql (.tmp 94) (n9 0)),b9 96 (.pick (.tmp 93) (.tmp 95) (.const (.bool false))),a7 97 96,r9 98 97 (.load (some 2) (.tmp 17)),r9 99 97 (.load (some 2) (.tmp 3)),r9 100 97 (.callF 26 [(.tmp 98),(.tmp 99)]),b9 101 (.pick (.tmp 97) (.tmp 100) (.const (.bool false))),a7 102 101,r9 103 102 (.mov (.tmp 15)),r9 104 102 (.fldA 1 (.tmp 3)),r9 105 102 (.load none (.tmp 104)),r9 106 102 (.len false (.tmp 105)),r9 107 102 (.bin .add (.tmp 106) (n9 1)),r9 108 102 (.bin .eql (.tmp 103) (.tmp 107)),b9 109 (.pick (.tmp 102) (.tmp 108) (.const (.bool false))),a7 6 109] [6]) (.ret))))))))))),110,[(6,none)],true⟩
theorem ok7:p6 Tryd.prog 7 c7:= .code ⟨Tryd.f7,_,c7.code,Tryd.func7,rfl,by kernel_rfl,rfl,by kernel_rfl,by kernel_rfl⟩
/- raddle/raddleref25.Great -/
def c9:p7:=⟨.seq (.ops [b9 2 (.mov (.const (.bool false)))] [0]) (.seq (.ops [a7 3 0,b9 4 (.len false (.tmp 3)),n6 5 4 .gtr (n9 60),a7 6 5,r9 7 6 (.mov (.tmp 0)),r9 8 6 (.len false (.tmp 7)),r9 9 6 (.bin .leq (.tmp 8) (n9 200)),b9 10 (.pick (.tmp 6) (.tmp 9) (.const (.bool false))),a7 11 10,z1 12 11 (.mov (.tmp 0)),z1 13 11 (.len false (.tmp 12)),z1 14 11 (.bin .gtr (.tmp 13) (n9 300)),b9 15 (.pick (.tmp 11) (.const (.bool true)) (.tmp 14)),a7 2 15] [2]) (.ret)),16,[(2,none)],true⟩
theorem ok9:p6 Tryd.prog 9 c9:= .code ⟨Tryd.f9,_,c9.code,Tryd.func9,rfl,by kernel_rfl,rfl,by kernel_rfl,by kernel_rfl⟩
/- raddle/n4.Cells -/
def c10:p7:=⟨.seq (.ops [b9 2 (.mov (.const (.string ⟨#[]⟩))),C4 3 0] [0]) (.seq (.seq (.ops [a7 6 0,P5 7 27 6,a7 4 7] [0,4]) (.seq (.ops [a7 8 4,n6 9 8 .neq (n9 0)] [0,4,9]) (.cond (.tmp 9) (.seq (.ops [a7 10 4,b9 2 (.mov (.const (.string ⟨#[]⟩))),a7 3 10] [2,3]) (.ret)) (.skip)))) (.seq (.ops [a7 11 0,P5 12 28 11,a7 5 12] [5]) (.seq (.seq (.ops [a7 13 5,b9 14 (.len true (.tmp 13)),n6 15 14 .gtr (n9 2000)] [5,15]) (.cond (.tmp 15) (.seq (.ops [b9 2 (.mov (.const (.string ⟨#[]⟩))),C4 3 4] [2,3]) (.ret)) (.skip))) (.seq (.ops [a7 16 5,a7 2 16,C4 3 0] [2,3]) (.ret))))),17,[(2,none),(3,none)],true⟩
theorem cL3:p6 Tryd.prog 10 c10:= .code ⟨Tryd.f10,_,c10.code,Tryd.func10,rfl,by kernel_rfl,rfl,by kernel_rfl,by kernel_rfl⟩
/- raddle/n4.ParseCells -/
def WU:AC:= .seq (.ops [n6 39 38 .lss (.tmp 37)] [0,4,7,16,17,18,37,38,39]) (.seq (.cond (.tmp 39) (.skip) (.exit 2)) (.seq (.block 3 (.ops [a7 40 4,b9 41 (.load (some 4) (.tmp 7)),b9 42 (.mkRow 48 4 1 [(.int .u8 0),(.bool false),(.int .i64 0),(.int .i64 0)] [(0,4,(.tmp 41))]),b9 43 (.app 48 4 24 (.tmp 40) (.tmp 42)),a7 4 43] [0,4,7,16,17,18,37,38])) (.ops [n6 44 38 .add (n9 1),a7 38 44] [0,4,7,16,17,18,37,38])))
def vJ:AC:= .seq (.ops [n6 19 18 .lss (.tmp 17)] [0,4,16,17,18,19]) (.seq (.cond (.tmp 19) (.skip) (.exit 0)) (.seq (.block 1 (.seq (.ops [b9 20 (.idxS 1 (.tmp 16) (.tmp 18)),I1 21 20,a7 6 21] [0,4,6,16,17,18]) (.seq (.ops [a7 23 6,P5 24 32 23,a7 22 24,G8 25 22 0,G8 26 22 1,G8 27 22 2,b9 7 (.alloc 48 [(1,(.int .u8 0)),(1,(.bool false)),(2,(.int .i64 0))]),⟨none,none,.store 4 (.tmp 7) (.tmp 25)⟩,a7 8 26,a7 9 27] [0,4,7,8,9,16,17,18]) (.seq (.seq (.ops [a7 28 9,b9 29 (.un .not (.tmp 28)),a7 30 29,z1 31 30 (.mov (.tmp 4)),z1 32 30 (.len false (.tmp 31)),z1 33 30 (.mov (.tmp 8)),z1 34 30 (.bin .add (.tmp 32) (.tmp 33)),z1 35 30 (.bin .gtr (.tmp 34) (n9 200)),b9 36 (.pick (.tmp 30) (.const (.bool true)) (.tmp 35))] [0,4,7,8,16,17,18,36]) (.cond (.tmp 36) (.seq (.ops [b9 2 (.mov (.const (.slice none 0 0))),C4 3 12] [2,3]) (.ret)) (.skip))) (.seq (.ops [a7 37 8,C4 38 0] [0,4,7,16,17,18,37,38]) (.block 2 (.loop [0,4,7,16,17,18,37,38] WU))))))) (.ops [n6 45 18 .add (n9 1),a7 18 45] [0,4,16,17,18])))
def c12:p7:=⟨.seq (.ops [b9 2 (.mov (.const (.slice none 0 0))),C4 3 0] [0]) (.seq (.seq (.ops [a7 10 0,b9 11 (.len true (.tmp 10)),n6 12 11 .gtr (n9 2000)] [0,12]) (.cond (.tmp 12) (.seq (.ops [b9 2 (.mov (.const (.slice none 0 0))),C4 3 12] [2,3]) (.ret)) (.skip))) (.seq (.seq (.ops [a7 13 0,b9 14 (.bin .eql (.tmp 13) (.const (.string ⟨#[110,111,116,104,105,110,103]⟩)))] [0,14]) (.cond (.tmp 14) (.seq (.ops [b9 2 (.mov (.const (.slice none 0 0))),C4 3 0] [2,3]) (.ret)) (.skip))) (.seq (.ops [b9 4 (.mov (.const (.slice none 0 0)))] [0,4]) (.seq (.seq (.ops [a7 15 0,b9 16 (.callF 31 [(.tmp 15),(.const (.string ⟨#[44,32]⟩))]),b9 17 (.len false (.tmp 16)),C4 18 0] [0,4,16,17,18]) (.block 0 (.loop [0,4,16,17,18] vJ))) (.seq (.seq (.ops [a7 46 4,P5 47 27 46,n6 48 47 .neq (n9 0),a7 49 48,z1 50 49 (.mov (.tmp 4)),z1 51 49 (.callF 28 [.tmp 50]),z1 52 49 (.mov (.tmp 0)),z1 53 49 (.bin .neq (.tmp 51) (.tmp 52)),b9 54 (.pick (.tmp 49) (.const (.bool true)) (.tmp 53))] [4,54]) (.cond (.tmp 54) (.seq (.ops [b9 2 (.mov (.const (.slice none 0 0))),C4 3 12] [2,3]) (.ret)) (.skip))) (.seq (.ops [a7 55 4,a7 2 55,C4 3 0] [2,3]) (.ret))))))),56,[(2,none),(3,none)],true⟩
theorem cL4:p6 Tryd.prog 12 c12:= .code ⟨Tryd.f12,_,c12.code,Tryd.func12,rfl,by kernel_rfl,rfl,by kernel_rfl,by kernel_rfl⟩
/- raddle/raddleref25.Same -/
def WV:AC:= .seq (.seq (.ops [a7 11 5,a7 12 0,b9 13 (.len false (.tmp 12)),n6 14 11 .lss (.tmp 13)] [0,1,5,14]) (.cond (.tmp 14) (.skip) (.exit 0))) (.seq (.block 1 (.seq (.draw [a7 17 0,a7 18 5,b9 19 (.idxS 4 (.tmp 17) (.tmp 18)),b9 20 (.load (some 4) (.tmp 19)),a7 21 1,a7 22 5,b9 23 (.idxS 4 (.tmp 21) (.tmp 22)),b9 24 (.load (some 4) (.tmp 23))] [b9 25 (.eqAgg true [(0,0),(1,2),(2,0),(3,0)] (.tmp 20) (.tmp 24))] [[],[],[],[],[],[],[],[]] [0,1,5,25]) (.cond (.tmp 25) (.seq (.ops [b9 4 (.mov (.const (.bool false)))] [4]) (.ret)) (.skip)))) (.ops [a7 15 5,n6 16 15 .add (n9 1),a7 5 16] [0,1,5]))
def c14:p7:=⟨.seq (.ops [b9 4 (.mov (.const (.bool false)))] [0,1]) (.seq (.seq (.ops [a7 6 0,b9 7 (.len false (.tmp 6)),a7 8 1,b9 9 (.len false (.tmp 8)),n6 10 7 .neq (.tmp 9)] [0,1,10]) (.cond (.tmp 10) (.seq (.ops [b9 4 (.mov (.const (.bool false)))] [4]) (.ret)) (.skip))) (.seq (.seq (.ops [C4 5 0] [0,1,5]) (.block 0 (.loop [0,1,5] WV))) (.seq (.ops [b9 4 (.mov (.const (.bool true)))] [4]) (.ret)))),26,[(4,none)],true⟩
theorem cL5:p6 Tryd.prog 14 c14:= .code ⟨Tryd.f14,_,c14.code,Tryd.func14,rfl,by kernel_rfl,rfl,by kernel_rfl,by kernel_rfl⟩
/- raddle/n4.Row -/
def c15:p7:=⟨.seq (.ops [b9 2 (.box 36 (.tmp 0)),b9 4 (.mov (.const (.string ⟨#[]⟩))),C4 5 0] [1,2]) (.seq (.seq (.ops [K2 9 1 2,I1 10 9,P5 11 27 10,a7 6 11] [1,2,6]) (.seq (.ops [a7 12 6,n6 13 12 .neq (n9 0)] [1,2,6,13]) (.cond (.tmp 13) (.seq (.ops [a7 14 6,b9 4 (.mov (.const (.string ⟨#[]⟩))),a7 5 14] [4,5]) (.ret)) (.skip)))) (.seq (.seq (.ops [a7 15 1,n6 16 15 .lss (n9 1),a7 17 16,z1 18 17 (.mov (.tmp 1)),z1 19 17 (.bin .gtr (.tmp 18) (n9 100)),b9 20 (.pick (.tmp 17) (.const (.bool true)) (.tmp 19))] [1,2,20]) (.cond (.tmp 20) (.seq (.ops [b9 4 (.mov (.const (.string ⟨#[]⟩))),C4 5 2] [4,5]) (.ret)) (.skip))) (.seq (.ops [K2 22 1 2,I1 23 22,P5 24 10 23,a7 21 24,G8 25 21 0,G8 26 21 1,a7 7 25,a7 8 26] [1,2,7,8]) (.seq (.seq (.ops [a7 27 8,n6 28 27 .neq (n9 0)] [1,2,7,8,28]) (.cond (.tmp 28) (.seq (.ops [a7 29 8,b9 4 (.mov (.const (.string ⟨#[]⟩))),a7 5 29] [4,5]) (.ret)) (.skip))) (.seq (.draw [a7 30 1,P5 31 35 30,b9 32 (.bin .add (.const (.string ⟨#[114,111,119,32]⟩)) (.tmp 31)),b9 33 (.bin .add (.tmp 32) (.const (.string ⟨#[32,40]⟩))),K2 34 0 2,I1 35 34,P5 36 36 35,n6 37 33 .add (.tmp 36),b9 38 (.bin .add (.tmp 37) (.const (.string ⟨#[41,58,32]⟩))),a7 39 7] [n6 40 38 .add (.tmp 39),b9 41 (.bin .add (.tmp 40) (.const (.string ⟨#[46]⟩))),a7 4 41,C4 5 0] [[],[],[],[],[false,false,false,false],[true,false,false,false,false],[],[],[],[false,false,false,false,false,false,false,false,false]] [4,5]) (.ret)))))),42,[(4,none),(5,none)],true⟩
theorem cL6:p6 Tryd.prog 15 c15:= .code ⟨Tryd.f15,_,c15.code,Tryd.func15,rfl,by kernel_rfl,rfl,by kernel_rfl,by kernel_rfl⟩
/- raddle/n4.ParseRow -/
def sQ:AC:= .seq (.ops [n6 39 38 .lss (n9 2)] [0,2,5,8,37,38,39]) (.seq (.cond (.tmp 39) (.skip) (.exit 0)) (.seq (.block 1 (.seq (.ops [b9 40 (.idxV 2 1 none (.tmp 37) (.tmp 38)),a7 11 40] [0,2,5,8,11,37,38]) (.seq (.ops [a7 42 8,a7 43 11,P5 44 36 43,b9 45 (.bin .add (.tmp 44) (.const (.string ⟨#[41,58,32]⟩))),b9 46 (.callF 40 [(.tmp 42),(.tmp 45)]),a7 41 46,G8 47 41 0,G8 48 41 1,a7 12 47,a7 13 48] [0,2,5,8,11,12,13,37,38]) (.seq (.seq (.ops [a7 49 13,b9 50 (.un .not (.tmp 49))] [0,2,5,8,11,12,37,38,50]) (.cond (.tmp 50) (.exit 1) (.skip))) (.seq (.ops [a7 52 12,P5 53 12 52,a7 51 53,G8 54 51 0,G8 55 51 1,a7 14 54,a7 15 55] [0,2,5,8,11,14,15,37,38]) (.seq (.ops [a7 56 11,a7 57 14,b9 58 (.build [(.bool false),(.slice none 0 0)] [(0,1,(.tmp 56)),(1,1,(.tmp 57))]),b9 16 (.alloc 36 [(1,(.bool false)),(1,(.slice none 0 0))]),⟨none,none,.store 2 (.tmp 16) (.tmp 58)⟩] [0,2,5,8,15,16,37,38]) (.seq (.draw [b9 60 (.load (some 2) (.tmp 16)),a7 61 5,b9 62 (.idxS 1 (.tmp 61) (n9 0)),I1 63 62,b9 64 (.callF 15 [(.tmp 60),(.tmp 63)]),a7 59 64,G8 65 59 0,G8 66 59 1,a7 17 65] [a7 18 66] [[],[],[],[],[],[],[],[],[]] [0,2,5,8,15,16,17,18,37,38]) (.seq (.ops [a7 67 15,n6 68 67 .eql (n9 0),a7 69 68,r9 70 69 (.mov (.tmp 18)),r9 71 69 (.bin .eql (.tmp 70) (n9 0)),b9 72 (.pick (.tmp 69) (.tmp 71) (.const (.bool false))),a7 73 72,r9 74 73 (.mov (.tmp 17)),r9 75 73 (.mov (.tmp 0)),r9 76 73 (.bin .eql (.tmp 74) (.tmp 75)),b9 77 (.pick (.tmp 73) (.tmp 76) (.const (.bool false)))] [0,2,5,8,16,37,38,77]) (.cond (.tmp 77) (.seq (.drawW [⟨b9 78 (.load (some 2) (.tmp 16)),[],none⟩,⟨a7 79 5,[0],none⟩,⟨b9 80 (.idxS 1 (.tmp 79) (n9 0)),[0],none⟩,⟨I1 81 80,[0],none⟩,⟨⟨none,none,.store 2 (.tmp 2) (.tmp 78)⟩,[1,2,3],none⟩] [a7 3 81,C4 4 0] [2,3,4]) (.ret)) (.skip)))))))))) (.ops [n6 82 38 .add (n9 1),a7 38 82] [0,2,5,8,37,38])))
def c17:p7:=⟨.seq (.ops [b9 2 (.alloc 36 [(1,(.bool false)),(1,(.slice none 0 0))]),C4 3 0,C4 4 0] [0,2]) (.seq (.ops [a7 20 0,b9 21 (.callF 38 [(.tmp 20),(.const (.string ⟨#[114,111,119,32,35,32,40]⟩))]),a7 19 21,G8 22 19 0,G8 23 19 1,G8 24 19 2,a7 5 22,a7 6 23,a7 7 24] [0,2,5,6,7]) (.seq (.ops [a7 26 6,b9 27 (.callF 39 [(.tmp 26),(.const (.string ⟨#[46]⟩))]),a7 25 27,G8 28 25 0,G8 29 25 1,a7 8 28,a7 9 29] [0,2,5,7,8,9]) (.seq (.seq (.ops [a7 30 7,b9 31 (.un .not (.tmp 30)),a7 32 31,z1 33 32 (.mov (.tmp 9)),z1 34 32 (.un .not (.tmp 33)),b9 35 (.pick (.tmp 32) (.const (.bool true)) (.tmp 34))] [0,2,5,8,35]) (.cond (.tmp 35) (.seq (.ops [b9 36 (.build [(.bool false),(.slice none 0 0)] []),⟨none,none,.store 2 (.tmp 2) (.tmp 36)⟩,C4 3 0,C4 4 12] [2,3,4]) (.ret)) (.skip))) (.seq (.seq (.ops [b9 37 (.build [(.bool false),(.bool false)] [(0,1,(.const (.bool false))),(1,1,(.const (.bool true)))]),C4 38 0] [0,2,5,8,37,38]) (.block 0 (.loop [0,2,5,8,37,38] sQ))) (.seq (.ops [b9 83 (.build [(.bool false),(.slice none 0 0)] []),⟨none,none,.store 2 (.tmp 2) (.tmp 83)⟩,C4 3 0,C4 4 12] [2,3,4]) (.ret)))))),84,[(2,(some (some 2))),(3,none),(4,none)],true⟩
theorem cL7:p6 Tryd.prog 17 c17:= .code ⟨Tryd.f17,_,c17.code,Tryd.func17,rfl,by kernel_rfl,rfl,by kernel_rfl,by kernel_rfl⟩
/- raddle/raddleref41.SameRow -/
def c19:p7:=⟨.seq (.ops [b9 2 (.box 36 (.tmp 0)),b9 3 (.box 36 (.tmp 1)),b9 4 (.mov (.const (.bool false)))] [2,3]) (.seq (.ops [K2 5 0 2,I1 6 5,K2 7 0 3,I1 8 7,b9 9 (.eqB false (.tmp 6) (.tmp 8)),a7 10 9,r9 11 10 (.fldA 1 (.tmp 2)),r9 12 10 (.load none (.tmp 11)),r9 13 10 (.fldA 1 (.tmp 3)),r9 14 10 (.load none (.tmp 13)),r9 15 10 (.callF 14 [(.tmp 12),(.tmp 14)]),b9 16 (.pick (.tmp 10) (.tmp 15) (.const (.bool false))),a7 4 16] [4]) (.ret)),17,[(4,none)],true⟩
theorem cL8:p6 Tryd.prog 19 c19:= .code ⟨Tryd.f19,_,c19.code,Tryd.func19,rfl,by kernel_rfl,rfl,by kernel_rfl,by kernel_rfl⟩
/- raddle/raddlelaw41.refused -/
def c21:p7:=⟨.seq (.ops [b9 2 (.mov (.const (.bool false)))] [0]) (.seq (.ops [a7 6 0,P5 7 12 6,a7 5 7,G8 8 5 0,G8 9 5 1,a7 3 8,a7 4 9] [3,4]) (.seq (.ops [a7 10 4,n6 11 10 .eql (n9 12),a7 12 11,r9 13 12 (.mov (.tmp 3)),r9 14 12 (.len false (.tmp 13)),r9 15 12 (.bin .eql (.tmp 14) (n9 0)),b9 16 (.pick (.tmp 12) (.tmp 15) (.const (.bool false))),a7 2 16] [2]) (.ret))),17,[(2,none)],true⟩
theorem cL9:p6 Tryd.prog 21 c21:= .code ⟨Tryd.f21,_,c21.code,Tryd.func21,rfl,by kernel_rfl,rfl,by kernel_rfl,by kernel_rfl⟩
/- raddle/n4.Chart -/
def LK:AC:= .seq (.ops [n6 25 24 .lss (.tmp 23)] [5,22,23,24,25]) (.seq (.cond (.tmp 25) (.skip) (.exit 0)) (.seq (.block 1 (.seq (.ops [a7 26 24,b9 27 (.idxS 2 (.tmp 22) (.tmp 24)),b9 28 (.load (some 2) (.tmp 27)),b9 7 (.alloc 36 [(1,(.bool false)),(1,(.slice none 0 0))]),a7 6 26,⟨none,none,.store 2 (.tmp 7) (.tmp 28)⟩] [5,6,7,22,23,24]) (.seq (.ops [b9 30 (.load (some 2) (.tmp 7)),a7 31 6,n6 32 31 .add (n9 1),b9 33 (.callF 15 [(.tmp 30),(.tmp 32)]),a7 29 33,G8 34 29 0,G8 35 29 1,a7 8 34,a7 9 35] [5,8,9,22,23,24]) (.seq (.seq (.ops [a7 36 9,n6 37 36 .neq (n9 0)] [5,8,9,22,23,24,37]) (.cond (.tmp 37) (.seq (.ops [a7 38 9,b9 2 (.mov (.const (.string ⟨#[]⟩))),a7 3 38] [2,3]) (.ret)) (.skip))) (.ops [a7 39 8,b9 40 (.bin .add (.tmp 39) (.const (.string ⟨#[10]⟩))),b9 41 (.callF 44 [(.tmp 5),(.tmp 40)])] [5,22,23,24]))))) (.ops [n6 42 24 .add (n9 1),a7 24 42] [5,22,23,24])))
def c22:p7:=⟨.seq (.ops [b9 1 (.box 52 (.tmp 0)),b9 2 (.mov (.const (.string ⟨#[]⟩))),C4 3 0] [1]) (.seq (.seq (.ops [b9 10 (.load (some 2) (.tmp 1)),P5 11 43 10,a7 4 11] [1,4]) (.seq (.ops [a7 12 4,n6 13 12 .neq (n9 0)] [1,4,13]) (.cond (.tmp 13) (.seq (.ops [a7 14 4,b9 2 (.mov (.const (.string ⟨#[]⟩))),a7 3 14] [2,3]) (.ret)) (.skip)))) (.seq (.ops [b9 5 (.alloc 83 [(1,(.pointer none)),(1,(.slice none 0 0))])] [1,5]) (.seq (.ops [K2 15 0 1,I1 16 15,P5 17 35 16,b9 18 (.bin .add (.const (.string ⟨#[115,116,97,114,116,32,119,105,116,104,32]⟩)) (.tmp 17)),b9 19 (.bin .add (.tmp 18) (.const (.string ⟨#[32,115,116,105,116,99,104,101,115,46,10]⟩))),b9 20 (.callF 44 [(.tmp 5),(.tmp 19)])] [1,5]) (.seq (.seq (.ops [K2 21 1 1,I1 22 21,b9 23 (.len false (.tmp 22)),C4 24 0] [5,22,23,24]) (.block 0 (.loop [5,22,23,24] LK))) (.seq (.seq (.ops [P5 43 45 5,n6 44 43 .gtr (n9 60000)] [5,44]) (.cond (.tmp 44) (.seq (.ops [b9 2 (.mov (.const (.string ⟨#[]⟩))),C4 3 4] [2,3]) (.ret)) (.skip))) (.seq (.ops [P5 45 46 5,a7 2 45,C4 3 0] [2,3]) (.ret))))))),46,[(2,none),(3,none)],true⟩
theorem cM0:p6 Tryd.prog 22 c22:= .code ⟨Tryd.f22,_,c22.code,Tryd.func22,rfl,by kernel_rfl,rfl,by kernel_rfl,by kernel_rfl⟩
/- raddle/n4.Parse -/
def vK:AC:= .seq (.seq (.ops [a7 45 9,a7 46 4,b9 47 (.len false (.tmp 46)),n6 48 47 .sub (n9 1),n6 49 45 .lss (.tmp 48)] [0,2,4,8,9,49]) (.cond (.tmp 49) (.skip) (.exit 0))) (.seq (.block 1 (.seq (.ops [a7 53 4,a7 54 9,b9 55 (.idxS 1 (.tmp 53) (.tmp 54)),I1 56 55,P5 57 17 56,a7 52 57,G8 58 52 0,G8 59 52 1,G8 60 52 2,b9 10 (.alloc 36 [(1,(.bool false)),(1,(.slice none 0 0))]),⟨none,none,.store 2 (.tmp 10) (.tmp 58)⟩,a7 11 59,a7 12 60] [0,2,4,8,9,10,11,12]) (.seq (.seq (.ops [a7 61 12,n6 62 61 .neq (n9 0),a7 63 62,z1 64 63 (.mov (.tmp 11)),z1 65 63 (.mov (.tmp 9)),z1 66 63 (.bin .neq (.tmp 64) (.tmp 65)),b9 67 (.pick (.tmp 63) (.const (.bool true)) (.tmp 66))] [0,2,4,8,9,10,67]) (.cond (.tmp 67) (.seq (.ops [b9 68 (.build [(.int .i64 0),(.slice none 0 0)] []),⟨none,none,.store 2 (.tmp 2) (.tmp 68)⟩,C4 3 12] [2,3]) (.ret)) (.skip))) (.ops [K2 69 1 8,I1 70 69,b9 71 (.load (some 2) (.tmp 10)),b9 72 (.mkRow 36 2 1 [(.bool false),(.slice none 0 0)] [(0,2,(.tmp 71))]),b9 73 (.app 36 2 32 (.tmp 70) (.tmp 72)),K2 74 1 8,⟨none,none,.store 1 (.tmp 74) (.tmp 73)⟩] [0,2,4,8,9])))) (.ops [a7 50 9,n6 51 50 .add (n9 1),a7 9 51] [0,2,4,8,9]))
def c23:p7:=⟨.seq (.ops [b9 2 (.alloc 52 [(1,(.int .i64 0)),(1,(.slice none 0 0))]),C4 3 0] [0,2]) (.seq (.seq (.ops [a7 15 0,b9 16 (.len true (.tmp 15)),n6 17 16 .gtr (n9 60000)] [0,2,17]) (.cond (.tmp 17) (.seq (.ops [b9 18 (.build [(.int .i64 0),(.slice none 0 0)] []),⟨none,none,.store 2 (.tmp 2) (.tmp 18)⟩,C4 3 12] [2,3]) (.ret)) (.skip))) (.seq (.ops [a7 19 0,b9 20 (.callF 31 [(.tmp 19),(.const (.string ⟨#[10]⟩))]),a7 4 20] [0,2,4]) (.seq (.ops [a7 22 4,b9 23 (.idxS 1 (.tmp 22) (n9 0)),I1 24 23,b9 25 (.callF 38 [(.tmp 24),(.const (.string ⟨#[115,116,97,114,116,32,119,105,116,104,32,35,32,115,116,105,116,99,104,101,115,46]⟩))]),a7 21 25,G8 26 21 0,G8 27 21 1,G8 28 21 2,a7 5 26,a7 6 27,a7 7 28] [0,2,4,5,6,7]) (.seq (.seq (.ops [a7 29 7,b9 30 (.un .not (.tmp 29)),a7 31 30,z1 32 31 (.mov (.tmp 6)),z1 33 31 (.bin .neq (.tmp 32) (.const (.string ⟨#[]⟩))),b9 34 (.pick (.tmp 31) (.const (.bool true)) (.tmp 33)),a7 35 34,z1 36 35 (.mov (.tmp 4)),z1 37 35 (.len false (.tmp 36)),z1 38 35 (.bin .gtr (.tmp 37) (n9 102)),b9 39 (.pick (.tmp 35) (.const (.bool true)) (.tmp 38))] [0,2,4,5,39]) (.cond (.tmp 39) (.seq (.ops [b9 40 (.build [(.int .i64 0),(.slice none 0 0)] []),⟨none,none,.store 2 (.tmp 2) (.tmp 40)⟩,C4 3 12] [2,3]) (.ret)) (.skip))) (.seq (.ops [a7 41 5,b9 42 (.idxS 1 (.tmp 41) (n9 0)),I1 43 42,b9 44 (.build [(.int .i64 0),(.slice none 0 0)] [(0,1,(.tmp 43))]),b9 8 (.alloc 52 [(1,(.int .i64 0)),(1,(.slice none 0 0))]),⟨none,none,.store 2 (.tmp 8) (.tmp 44)⟩] [0,2,4,8]) (.seq (.seq (.ops [C4 9 1] [0,2,4,8,9]) (.block 0 (.loop [0,2,4,8,9] vK))) (.seq (.seq (.ops [b9 76 (.load (some 2) (.tmp 8)),P5 77 22 76,a7 75 77,G8 78 75 0,G8 79 75 1,a7 13 78,a7 14 79] [0,2,8,13,14]) (.seq (.ops [a7 80 14,n6 81 80 .neq (n9 0),a7 82 81,z1 83 82 (.mov (.tmp 13)),z1 84 82 (.mov (.tmp 0)),z1 85 82 (.bin .neq (.tmp 83) (.tmp 84)),b9 86 (.pick (.tmp 82) (.const (.bool true)) (.tmp 85))] [2,8,86]) (.cond (.tmp 86) (.seq (.ops [b9 87 (.build [(.int .i64 0),(.slice none 0 0)] []),⟨none,none,.store 2 (.tmp 2) (.tmp 87)⟩,C4 3 12] [2,3]) (.ret)) (.skip)))) (.seq (.ops [b9 88 (.load (some 2) (.tmp 8)),⟨none,none,.store 2 (.tmp 2) (.tmp 88)⟩,C4 3 0] [2,3]) (.ret))))))))),89,[(2,(some (some 2))),(3,none)],true⟩
theorem cM1:p6 Tryd.prog 23 c23:= .code ⟨Tryd.f23,_,c23.code,Tryd.func23,rfl,by kernel_rfl,rfl,by kernel_rfl,by kernel_rfl⟩
/- raddle/raddlelaw41.alive -/
def c24:p7:=⟨.seq (.ops [b9 0 (.mov (.const (.bool false)))] []) (.seq (.ops [b9 15 (.callF 42 [(.const (.string ⟨#[107,51,32,121,111,32,121,111,32,107,102,50,32,112]⟩))]),P5 16 10 15,a7 14 16,G8 17 14 0,G8 18 14 1,a7 1 17,a7 2 18] [1,2]) (.seq (.ops [b9 20 (.callF 42 [(.const (.string ⟨#[112,115,32,112,115,32,112,109,51,32,107,120,50,47,49]⟩))]),b9 21 (.build [(.bool false),(.slice none 0 0)] [(0,1,(.const (.bool true))),(1,1,(.tmp 20))]),b9 22 (.callF 15 [(.tmp 21),(n9 2)]),a7 19 22,G8 23 19 0,G8 24 19 1,a7 3 23,a7 4 24] [1,2,3,4]) (.seq (.ops [b9 26 (.callF 42 [(.const (.string ⟨#[107,53]⟩))]),b9 27 (.build [(.bool false),(.slice none 0 0)] [(1,1,(.tmp 26))]),b9 28 (.mkRow 36 2 1 [(.bool false),(.slice none 0 0)] [(0,2,(.tmp 27))]),b9 29 (.build [(.int .i64 0),(.slice none 0 0)] [(0,1,(n9 5)),(1,1,(.tmp 28))]),P5 30 22 29,a7 25 30,G8 31 25 0,G8 32 25 1,a7 5 31,a7 6 32] [1,2,3,4,5,6]) (.seq (.ops [b9 34 (.callF 12 [(.const (.string ⟨#[107,110,105,116,32,51,44,32,121,97,114,110,32,111,118,101,114,32,50,32,116,105,109,101,115,44,32,107,110,105,116,32,50,32,116,111,103,101,116,104,101,114,32,40,102,105,114,115,116,32,111,110,32,116,111,112,41,44,32,112,117,114,108,32,49]⟩))]),a7 33 34,G8 35 33 0,G8 36 33 1,a7 7 35,a7 8 36] [1,2,3,4,5,6,7,8]) (.seq (.ops [b9 38 (.callF 17 [(.const (.string ⟨#[114,111,119,32,50,32,40,98,97,99,107,41,58,32,115,108,105,112,32,50,32,119,105,116,104,32,121,97,114,110,32,105,110,32,102,114,111,110,116,44,32,109,97,107,101,32,51,32,111,117,116,32,111,102,32,49,32,112,117,114,108,119,105,115,101,44,32,99,114,111,115,115,32,50,32,105,110,32,102,114,111,110,116,32,111,102,32,49,46]⟩))]),a7 37 38,G8 39 37 0,G8 40 37 1,G8 41 37 2,b9 9 (.alloc 36 [(1,(.bool false)),(1,(.slice none 0 0))]),⟨none,none,.store 2 (.tmp 9) (.tmp 39)⟩,a7 10 40,a7 11 41] [1,2,3,4,5,6,7,8,9,10,11]) (.seq (.ops [b9 43 (.callF 23 [(.const (.string ⟨#[115,116,97,114,116,32,119,105,116,104,32,53,32,115,116,105,116,99,104,101,115,46,10,114,111,119,32,49,32,40,102,114,111,110,116,41,58,32,107,110,105,116,32,53,46,10]⟩))]),a7 42 43,G8 44 42 0,G8 45 42 1,b9 12 (.alloc 52 [(1,(.int .i64 0)),(1,(.slice none 0 0))]),⟨none,none,.store 2 (.tmp 12) (.tmp 44)⟩,a7 13 45] [1,2,3,4,5,6,7,8,9,10,11,12,13]) (.seq (.seq (.ops [a7 46 2,n6 47 46 .neq (n9 0),a7 48 47,z1 49 48 (.mov (.tmp 4)),z1 50 48 (.bin .neq (.tmp 49) (n9 0)),b9 51 (.pick (.tmp 48) (.const (.bool true)) (.tmp 50)),a7 52 51,
  z1 53 52 (.mov (.tmp 6)),z1 54 52 (.bin .neq (.tmp 53) (n9 0)),b9 55 (.pick (.tmp 52) (.const (.bool true)) (.tmp 54)),a7 56 55,z1 57 56 (.mov (.tmp 8)),z1 58 56 (.bin .neq (.tmp 57) (n9 0)),b9 59 (.pick (.tmp 56) (.const (.bool true)) (.tmp 58)),a7 60 59,z1 61 60 (.mov (.tmp 11)),z1 62 60 (.bin .neq (.tmp 61) (n9 0)),b9 63 (.pick (.tmp 60) (.const (.bool true)) (.tmp 62)),a7 64 63,z1 65 64 (.mov (.tmp 13)),z1 66 64 (.bin .neq (.tmp 65) (n9 0)),b9 67 (.pick (.tmp 64) (.const (.bool true)) (.tmp 66)),a7 68 67,z1 69 68 (.fldA 1 (.tmp 12)),z1 70 68 (.load none (.tmp 69)),z1 71 68 (.len false (.tmp 70)),z1 72 68 (.bin .neq (.tmp 71) (n9 1)),b9 73 (.pick (.tmp 68) (.const (.bool true)) (.tmp 72))] [1,3,5,7,9,10,12,73]) (.cond (.tmp 73) (.seq (.ops [b9 0 (.mov (.const (.bool false)))] [0]) (.ret)) (.skip))) (.seq (.draw [a7 74 1,b9 75 (.bin .eql (.tmp 74) (.const (.string ⟨#[107,110,105,116,32,51,44,32,121,97,114,110,32,111,118,101,114,32,50,32,116,105,109,101,115,44,32,107,110,105,116,32,50,32,116,111,103,101,116,104,101,114,32,40,102,105,114,115,116,32,111,110,32,116,111,112,41,44,32,112,117,114,108,32,49]⟩))),a7 76 75,r9 77 76 (.mov (.tmp 3)),r9 78 76 (.bin .eql (.tmp 77) (.const (.string ⟨#[114,111,119,32,50,32,40,98,97,99,107,41,58,32,115,108,105,112,32,50,32,119,105,116,104,32,121,97,114,110,32,105,110,32,102,114,111,110,116,44,32,109,97,107,101,32,51,32,111,117,116,32,111,102,32,49,32,112,117,114,108,119,105,115,101,44,32,99,114,111,115,115,32,50,32,105,110,32,102,114,111,110,116,32,111,102,32,49,46]⟩))),b9 79 (.pick (.tmp 76) (.tmp 78) (.const (.bool false))),a7 80 79,r9 81 80 (.mov (.tmp 5)),r9 82 80 (.bin .eql (.tmp 81) (.const (.string ⟨#[115,116,97,114,116,32,119,105,116,104,32,53,32,115,116,105,116,99,104,101,115,46,10,114,111,119,32,49,32,40,102,114,111,110,116,41,58,32,107,110,105,116,32,53,46,10]⟩))),b9 83 (.pick (.tmp 80) (.tmp 82) (.const (.bool false))),a7 84 83,r9 85 84 (.mov (.tmp 7)),r9 86 84 (.callF 42 [(.const (.string ⟨#[107,51,32,121,111,32,121,111,32,107,102,50,32,112]⟩))]),r9 87 84 (.callF 14 [(.tmp 85),(.tmp 86)]),b9 88 (.pick (.tmp 84) (.tmp 87) (.const (.bool false))),a7 89 88,r9 90 89 (.fldA 0 (.tmp 9)),r9 91 89 (.load none (.tmp 90)),b9 92 (.pick (.tmp 89) (.tmp 91) (.const (.bool false))),a7 93 92,r9 94 93 (.mov (.tmp 10)),r9 95 93 (.bin .eql (.tmp 94) (n9 2)),b9 96 (.pick (.tmp 93) (.tmp 95) (.const (.bool false))),a7 97 96,r9 98 97 (.fldA 1 (.tmp 9)),
  r9 99 97 (.load none (.tmp 98)),r9 100 97 (.callF 42 [(.const (.string ⟨#[112,115,32,112,115,32,112,109,51,32,107,120,50,47,49]⟩))]),r9 101 97 (.callF 14 [(.tmp 99),(.tmp 100)]),b9 102 (.pick (.tmp 97) (.tmp 101) (.const (.bool false))),a7 103 102,r9 104 103 (.fldA 0 (.tmp 12)),r9 105 103 (.load none (.tmp 104)),r9 106 103 (.bin .eql (.tmp 105) (n9 5)),b9 107 (.pick (.tmp 103) (.tmp 106) (.const (.bool false))),a7 108 107,r9 109 108 (.fldA 1 (.tmp 12)),r9 110 108 (.load none (.tmp 109)),r9 111 108 (.idxS 2 (.tmp 110) (n9 0)),r9 112 108 (.fldA 1 (.tmp 111)),r9 113 108 (.load none (.tmp 112)),r9 114 108 (.callF 42 [(.const (.string ⟨#[107,53]⟩))])] [r9 115 108 (.callF 14 [(.tmp 113),(.tmp 114)]),b9 116 (.pick (.tmp 108) (.tmp 115) (.const (.bool false))),a7 117 116,r9 118 117 (.callF 21 [(.const (.string ⟨#[107,110,105,116,32,51,44,32,107,110,105,116,32,49]⟩))]),b9 119 (.pick (.tmp 117) (.tmp 118) (.const (.bool false))),a7 120 119,r9 121 120 (.callF 21 [(.const (.string ⟨#[121,97,114,110,32,111,118,101,114,32,49,32,116,105,109,101,115]⟩))]),b9 122 (.pick (.tmp 120) (.tmp 121) (.const (.bool false))),a7 0 122] [[],[],[],[],[],[],[],[],[],[],[],[],[],[],[],[],[],[],[],[],[],[],[],[],[],[],[],[],[],[],[],[],[],[],[],[],[],[],[],[],[]] [0]) (.ret))))))))),123,[(0,none)],true⟩
theorem cM2:p6 Tryd.prog 24 c24:= .code ⟨Tryd.f24,_,c24.code,Tryd.func24,rfl,by kernel_rfl,rfl,by kernel_rfl,by kernel_rfl⟩
/- raddle/raddleref41.Great -/
def LM:AC:= .seq (.seq (.ops [a7 4 3,K2 5 1 1,I1 6 5,b9 7 (.len false (.tmp 6)),n6 8 4 .lss (.tmp 7)] [1,3,8]) (.cond (.tmp 8) (.skip) (.exit 0))) (.seq (.block 1 (.seq (.ops [K2 11 1 1,I1 12 11,a7 13 3,b9 14 (.idxS 2 (.tmp 12) (.tmp 13)),K2 15 1 14,I1 16 15,P5 17 9 16] [1,3,17]) (.cond (.tmp 17) (.seq (.ops [b9 2 (.mov (.const (.bool true)))] [2]) (.ret)) (.skip)))) (.ops [a7 9 3,n6 10 9 .add (n9 1),a7 3 10] [1,3]))
def c25:p7:=⟨.seq (.ops [b9 1 (.box 52 (.tmp 0)),b9 2 (.mov (.const (.bool false)))] [1]) (.seq (.seq (.ops [C4 3 0] [1,3]) (.block 0 (.loop [1,3] LM))) (.seq (.ops [K2 18 1 1,I1 19 18,b9 20 (.len false (.tmp 19)),n6 21 20 .gtr (n9 20),a7 22 21,r9 23 22 (.fldA 1 (.tmp 1)),r9 24 22 (.load none (.tmp 23)),r9 25 22 (.len false (.tmp 24)),r9 26 22 (.bin .leq (.tmp 25) (n9 100)),b9 27 (.pick (.tmp 22) (.tmp 26) (.const (.bool false))),a7 28 27,z1 29 28 (.fldA 1 (.tmp 1)),z1 30 28 (.load none (.tmp 29)),z1 31 28 (.len false (.tmp 30)),z1 32 28 (.bin .gtr (.tmp 31) (n9 110)),b9 33 (.pick (.tmp 28) (.const (.bool true)) (.tmp 32)),a7 2 33] [2]) (.ret))),34,[(2,none)],true⟩
theorem cM3:p6 Tryd.prog 25 c25:= .code ⟨Tryd.f25,_,c25.code,Tryd.func25,rfl,by kernel_rfl,rfl,by kernel_rfl,by kernel_rfl⟩
/- raddle/raddleref37.SameChart -/
def aM6:AC:= .seq (.seq (.ops [a7 20 5,K2 21 1 2,I1 22 21,b9 23 (.len false (.tmp 22)),n6 24 20 .lss (.tmp 23)] [2,3,5,24]) (.cond (.tmp 24) (.skip) (.exit 0))) (.seq (.block 1 (.seq (.draw [K2 27 1 2,I1 28 27,a7 29 5,b9 30 (.idxS 2 (.tmp 28) (.tmp 29)),K2 31 0 30,I1 32 31,K2 33 1 3,I1 34 33,a7 35 5,b9 36 (.idxS 2 (.tmp 34) (.tmp 35)),K2 37 0 36,I1 38 37,b9 39 (.eqB true (.tmp 32) (.tmp 38)),a7 40 39,z1 41 40 (.fldA 1 (.tmp 2)),z1 42 40 (.load none (.tmp 41)),z1 43 40 (.mov (.tmp 5)),z1 44 40 (.idxS 2 (.tmp 42) (.tmp 43)),z1 45 40 (.fldA 1 (.tmp 44)),z1 46 40 (.load none (.tmp 45)),z1 47 40 (.fldA 1 (.tmp 3)),z1 48 40 (.load none (.tmp 47)),z1 49 40 (.mov (.tmp 5)),z1 50 40 (.idxS 2 (.tmp 48) (.tmp 49)),z1 51 40 (.fldA 1 (.tmp 50)),z1 52 40 (.load none (.tmp 51))] [z1 53 40 (.callF 14 [(.tmp 46),(.tmp 52)]),z1 54 40 (.un .not (.tmp 53)),b9 55 (.pick (.tmp 40) (.const (.bool true)) (.tmp 54))] [[],[],[],[],[],[],[],[],[],[],[],[],[],[],[],[],[],[],[],[],[],[],[],[],[],[]] [2,3,5,55]) (.cond (.tmp 55) (.seq (.ops [b9 4 (.mov (.const (.bool false)))] [4]) (.ret)) (.skip)))) (.ops [a7 25 5,n6 26 25 .add (n9 1),a7 5 26] [2,3,5]))
def c26:p7:=⟨.seq (.ops [b9 2 (.box 52 (.tmp 0)),b9 3 (.box 52 (.tmp 1)),b9 4 (.mov (.const (.bool false)))] [2,3]) (.seq (.seq (.ops [K2 6 0 2,I1 7 6,K2 8 0 3,I1 9 8,n6 10 7 .neq (.tmp 9),a7 11 10,z1 12 11 (.fldA 1 (.tmp 2)),z1 13 11 (.load none (.tmp 12)),z1 14 11 (.len false (.tmp 13)),z1 15 11 (.fldA 1 (.tmp 3)),z1 16 11 (.load none (.tmp 15)),z1 17 11 (.len false (.tmp 16)),z1 18 11 (.bin .neq (.tmp 14) (.tmp 17)),b9 19 (.pick (.tmp 11) (.const (.bool true)) (.tmp 18))] [2,3,19]) (.cond (.tmp 19) (.seq (.ops [b9 4 (.mov (.const (.bool false)))] [4]) (.ret)) (.skip))) (.seq (.seq (.ops [C4 5 0] [2,3,5]) (.block 0 (.loop [2,3,5] aM6))) (.seq (.ops [b9 4 (.mov (.const (.bool true)))] [4]) (.ret)))),56,[(4,none)],true⟩
theorem cM4:p6 Tryd.prog 26 c26:= .code ⟨Tryd.f26,_,c26.code,Tryd.func26,rfl,by kernel_rfl,rfl,by kernel_rfl,by kernel_rfl⟩
/- raddle/stitch.All -/
def c27:p7:=⟨.seq (.ops [C4 2 0] [0]) (.seq (.seq (.ops [a7 5 0,b9 6 (.len false (.tmp 5)),n6 7 6 .gtr (n9 200)] [0,7]) (.cond (.tmp 7) (.seq (.ops [C4 2 4] [2]) (.ret)) (.skip))) (.seq (.seq (.ops [a7 8 0,b9 9 (.callF 47 [(.tmp 8),(.func 48)])] [0,9]) (.cond (.tmp 9) (.seq (.ops [C4 2 8] [2]) (.ret)) (.skip))) (.seq (.seq (.ops [a7 11 0,P5 12 50 11,a7 10 12,G8 13 10 0,G8 14 10 1,a7 3 13,a7 4 14] [3,4]) (.seq (.ops [a7 15 3,a7 16 4,b9 17 (.mm true (.tmp 15) (.tmp 16)),n6 18 17 .gtr (n9 200)] [18]) (.cond (.tmp 18) (.seq (.ops [C4 2 4] [2]) (.ret)) (.skip)))) (.seq (.ops [C4 2 0] [2]) (.ret))))),19,[(2,none)],true⟩
theorem cM5:p6 Tryd.prog 27 c27:= .code ⟨Tryd.f27,_,c27.code,Tryd.func27,rfl,by kernel_rfl,rfl,by kernel_rfl,by kernel_rfl⟩
/- raddle/n4.write -/
def LN:AC:= .seq (.seq (.draw [a7 15 5,a7 16 0,b9 17 (.len false (.tmp 16)),n6 18 15 .lss (.tmp 17),a7 19 18,r9 20 19 (.mov (.tmp 0)),r9 21 19 (.mov (.tmp 5)),r9 22 19 (.idxS 4 (.tmp 20) (.tmp 21)),r9 23 19 (.load (some 4) (.tmp 22)),r9 24 19 (.mov (.tmp 0)),r9 25 19 (.mov (.tmp 4)),r9 26 19 (.idxS 4 (.tmp 24) (.tmp 25)),r9 27 19 (.load (some 4) (.tmp 26))] [r9 28 19 (.eqAgg false [(0,0),(1,2),(2,0),(3,0)] (.tmp 23) (.tmp 27)),b9 29 (.pick (.tmp 19) (.tmp 28) (.const (.bool false)))] [[],[],[],[],[],[],[],[],[],[],[],[],[]] [0,3,4,5,29]) (.cond (.tmp 29) (.skip) (.exit 2))) (.block 3 (.ops [a7 30 5,n6 31 30 .add (n9 1),a7 5 31] [0,3,4,5]))
def aM7:AC:= .seq (.seq (.ops [a7 9 4,a7 10 0,b9 11 (.len false (.tmp 10)),n6 12 9 .lss (.tmp 11)] [0,3,4,12]) (.cond (.tmp 12) (.skip) (.exit 0))) (.block 1 (.seq (.ops [a7 13 4,n6 14 13 .add (n9 1),a7 5 14] [0,3,4,5]) (.seq (.block 2 (.loop [0,3,4,5] LN)) (.seq (.ops [a7 32 3,a7 33 0,a7 34 4,b9 35 (.idxS 4 (.tmp 33) (.tmp 34)),b9 36 (.load (some 4) (.tmp 35)),a7 37 5,a7 38 4,n6 39 37 .sub (.tmp 38),b9 40 (.callF 51 [(.tmp 36),(.tmp 39)]),b9 41 (.mkRow 9 1 1 [(.string ⟨#[]⟩)] [(0,1,(.tmp 40))]),b9 42 (.app 9 1 16 (.tmp 32) (.tmp 41)),a7 3 42] [0,3,5]) (.ops [a7 43 5,a7 4 43] [0,3,4])))))
def c28:p7:=⟨.seq (.ops [b9 2 (.mov (.const (.string ⟨#[]⟩)))] [0]) (.seq (.seq (.ops [a7 6 0,b9 7 (.len false (.tmp 6)),n6 8 7 .eql (n9 0)] [0,8]) (.cond (.tmp 8) (.seq (.ops [b9 2 (.mov (.const (.string ⟨#[110,111,116,104,105,110,103]⟩)))] [2]) (.ret)) (.skip))) (.seq (.ops [b9 3 (.mov (.const (.slice none 0 0)))] [0,3]) (.seq (.seq (.ops [C4 4 0] [0,3,4]) (.block 0 (.loop [0,3,4] aM7))) (.seq (.ops [a7 44 3,b9 45 (.callF 52 [(.tmp 44),(.const (.string ⟨#[44,32]⟩))]),a7 2 45] [2]) (.ret))))),46,[(2,none)],true⟩
theorem cM6:p6 Tryd.prog 28 c28:= .code ⟨Tryd.f28,_,c28.code,Tryd.func28,rfl,by kernel_rfl,rfl,by kernel_rfl,by kernel_rfl⟩
/- raddle/raddleref25.All -/
def LO:AC:= .seq (.seq (.ops [a7 9 3,a7 10 0,b9 11 (.len false (.tmp 10)),n6 12 9 .lss (.tmp 11)] [0,3,12]) (.cond (.tmp 12) (.skip) (.exit 0))) (.seq (.block 1 (.seq (.ops [a7 15 0,a7 16 3,b9 17 (.idxS 4 (.tmp 15) (.tmp 16)),b9 18 (.load (some 4) (.tmp 17)),P5 19 53 18,n6 20 19 .neq (n9 0)] [0,3,20]) (.cond (.tmp 20) (.seq (.ops [C4 2 8] [2]) (.ret)) (.skip)))) (.ops [a7 13 3,n6 14 13 .add (n9 1),a7 3 14] [0,3]))
def c29:p7:=⟨.seq (.ops [C4 2 0] [0]) (.seq (.seq (.ops [a7 6 0,b9 7 (.len false (.tmp 6)),n6 8 7 .gtr (n9 200)] [0,8]) (.cond (.tmp 8) (.seq (.ops [C4 2 4] [2]) (.ret)) (.skip))) (.seq (.seq (.ops [C4 3 0] [0,3]) (.block 0 (.loop [0,3] LO))) (.seq (.ops [a7 22 0,P5 23 54 22,a7 21 23,G8 24 21 0,G8 25 21 1,a7 4 24,a7 5 25] [4,5]) (.seq (.seq (.ops [a7 26 4,n6 27 26 .gtr (n9 200),a7 28 27,z1 29 28 (.mov (.tmp 5)),z1 30 28 (.bin .gtr (.tmp 29) (n9 200)),b9 31 (.pick (.tmp 28) (.const (.bool true)) (.tmp 30))] [31]) (.cond (.tmp 31) (.seq (.ops [C4 2 4] [2]) (.ret)) (.skip))) (.seq (.ops [C4 2 0] [2]) (.ret)))))),32,[(2,none)],true⟩
theorem cM7:p6 Tryd.prog 29 c29:= .code ⟨Tryd.f29,_,c29.code,Tryd.func29,rfl,by kernel_rfl,rfl,by kernel_rfl,by kernel_rfl⟩
/- strings.Split -/
def c31:p7:=⟨.seq (.ops [b9 4 (.mov (.const (.slice none 0 0)))] [0,1]) (.seq (.ops [a7 5 0,a7 6 1,b9 7 (.callF 56 [(.tmp 5),(.tmp 6),(n9 0),(n9 (-1))]),a7 4 7] [4]) (.ret)),8,[(4,none)],true⟩
theorem cM8:p6 Tryd.prog 31 c31:= .code ⟨Tryd.f31,_,c31.code,Tryd.func31,rfl,by kernel_rfl,rfl,by kernel_rfl,by kernel_rfl⟩
/- raddle/n4.read -/
def N4:AC:= .seq (.ops [n6 21 20 .lss (n9 2)] [0,2,5,20,21]) (.seq (.cond (.tmp 21) (.skip) (.exit 2)) (.seq (.block 3 (.seq (.ops [a7 22 20,a7 6 22] [0,2,5,6,20]) (.seq (.ops [a7 23 5,a7 24 6,n6 25 24 .eql (n9 1),b9 26 (.build [(.int .u8 0),(.bool false),(.int .i64 0),(.int .i64 0)] [(0,1,(.tmp 23)),(1,1,(.tmp 25))]),b9 7 (.alloc 48 [(1,(.int .u8 0)),(1,(.bool false)),(2,(.int .i64 0))]),⟨none,none,.store 4 (.tmp 7) (.tmp 26)⟩,C4 8 1] [0,2,5,7,8,20]) (.seq (.ops [a7 28 5,K2 29 1 7,I1 30 29,b9 31 (.callF 57 [(.tmp 28),(.tmp 30)]),a7 27 31,G8 32 27 0,G8 33 27 1,a7 9 32,a7 10 33] [0,2,5,7,8,9,10,20]) (.seq (.ops [a7 35 0,a7 36 9,b9 37 (.callF 38 [(.tmp 35),(.tmp 36)]),a7 34 37,G8 38 34 0,G8 39 34 1,G8 40 34 2,a7 11 38,a7 12 39,a7 13 40] [0,2,5,7,8,10,11,12,13,20]) (.seq (.seq (.ops [a7 41 13,b9 42 (.un .not (.tmp 41))] [0,2,5,7,8,10,11,12,20,42]) (.cond (.tmp 42) (.exit 3) (.skip))) (.seq (.block 4 (.seq (.ops [a7 44 10,a7 43 44] [0,2,5,7,8,10,11,12,20,43]) (.cond (.tmp 43) (.ops [a7 45 11,b9 46 (.idxS 1 (.tmp 45) (n9 0)),I1 47 46,a7 8 47] [0,2,5,7,8,10,12,20]) (.seq (.ops [a7 49 11,b9 50 (.len false (.tmp 49)),n6 51 50 .eql (n9 2),a7 48 51] [0,2,5,7,8,10,11,12,20,48]) (.cond (.tmp 48) (.drawW [⟨a7 52 11,[],none⟩,⟨b9 53 (.idxS 1 (.tmp 52) (n9 0)),[],none⟩,⟨I1 54 53,[],none⟩,⟨a7 55 11,[0,1,2],none⟩,⟨b9 56 (.idxS 1 (.tmp 55) (n9 1)),[0,1,2],none⟩,⟨I1 57 56,[0,1,2],none⟩,⟨K2 58 2 7,[3,4,5],none⟩,⟨⟨none,none,.store 1 (.tmp 58) (.tmp 54)⟩,[3,4,5],none⟩] [K2 59 3 7,⟨none,none,.store 1 (.tmp 59) (.tmp 57)⟩] [0,2,5,7,8,10,12,20]) (.seq (.ops [a7 61 11,b9 62 (.len false (.tmp 61)),n6 63 62 .eql (n9 1),a7 60 63] [0,2,5,7,8,10,11,12,20,60]) (.cond (.tmp 60) (.ops [a7 64 11,b9 65 (.idxS 1 (.tmp 64) (n9 0)),I1 66 65,K2 67 2 7,⟨none,none,.store 1 (.tmp 67) (.tmp 66)⟩] [0,2,5,7,8,10,12,20]) (.skip)))))))) (.seq (.seq (.ops [a7 69 12,b9 70 (.callF 39 [(.tmp 69),(.const (.string ⟨#[32,116,105,109,101,115]⟩))]),a7 68 70,G8 71 68 0,G8 72 68 1,a7 14 71,a7 15 72] [0,2,5,7,8,10,12,14,15,20]) (.seq (.ops [a7 73 15,a7 74 73,r9 75 74 (.mov (.tmp 10)),r9 76 74 (.un .not (.tmp 75)),
  b9 77 (.pick (.tmp 74) (.tmp 76) (.const (.bool false)))] [0,2,5,7,8,12,14,20,77]) (.cond (.tmp 77) (.ops [a7 79 14,b9 80 (.callF 59 [(.tmp 79),(.const (.string ⟨#[32]⟩))]),P5 81 58 80,a7 78 81,G8 82 78 0,G8 83 78 1,G8 84 78 2,a7 8 82,a7 12 83] [0,2,5,7,8,12,20]) (.skip)))) (.seq (.ops [a7 85 12,b9 86 (.bin .eql (.tmp 85) (.const (.string ⟨#[]⟩))),a7 87 86,r9 88 87 (.mov (.tmp 8)),r9 89 87 (.bin .geq (.tmp 88) (n9 1)),b9 90 (.pick (.tmp 87) (.tmp 89) (.const (.bool false))),a7 91 90,r9 92 91 (.mov (.tmp 8)),r9 93 91 (.bin .leq (.tmp 92) (n9 200)),b9 94 (.pick (.tmp 91) (.tmp 93) (.const (.bool false))),a7 95 94,r9 96 95 (.load (some 4) (.tmp 7)),r9 97 95 (.callF 49 [.tmp 96]),r9 98 95 (.bin .eql (.tmp 97) (n9 0)),b9 99 (.pick (.tmp 95) (.tmp 98) (.const (.bool false))),a7 100 99,r9 101 100 (.load (some 4) (.tmp 7)),r9 102 100 (.mov (.tmp 8)),r9 103 100 (.callF 51 [(.tmp 101),(.tmp 102)]),r9 104 100 (.mov (.tmp 0)),r9 105 100 (.bin .eql (.tmp 103) (.tmp 104)),b9 106 (.pick (.tmp 100) (.tmp 105) (.const (.bool false)))] [0,2,5,7,8,20,106]) (.cond (.tmp 106) (.seq (.ops [b9 107 (.load (some 4) (.tmp 7)),a7 108 8,⟨none,none,.store 4 (.tmp 2) (.tmp 107)⟩,a7 3 108,b9 4 (.mov (.const (.bool true)))] [2,3,4]) (.ret)) (.skip))))))))))) (.ops [n6 109 20 .add (n9 1),a7 20 109] [0,2,5,20])))
def aM8:AC:= .seq (.seq (.ops [a7 16 5,n6 17 16 .leq (H8 10)] [0,2,5,17]) (.cond (.tmp 17) (.skip) (.exit 0))) (.seq (.block 1 (.seq (.ops [C4 20 0] [0,2,5,20]) (.block 2 (.loop [0,2,5,20] N4)))) (.ops [a7 18 5,n6 19 18 .add (H8 1),a7 5 19] [0,2,5]))
def c32:p7:=⟨.seq (.ops [b9 2 (.alloc 48 [(1,(.int .u8 0)),(1,(.bool false)),(2,(.int .i64 0))]),C4 3 0,b9 4 (.mov (.const (.bool false)))] [0,2]) (.seq (.seq (.ops [b9 5 (.mov (H8 1))] [0,2,5]) (.block 0 (.loop [0,2,5] aM8))) (.seq (.ops [b9 110 (.build [(.int .u8 0),(.bool false),(.int .i64 0),(.int .i64 0)] []),⟨none,none,.store 4 (.tmp 2) (.tmp 110)⟩,C4 3 0,b9 4 (.mov (.const (.bool false)))] [2,3,4]) (.ret))),111,[(2,(some (some 4))),(3,none),(4,none)],true⟩
theorem cM9:p6 Tryd.prog 32 c32:= .code ⟨Tryd.f32,_,c32.code,Tryd.func32,rfl,by kernel_rfl,rfl,by kernel_rfl,by kernel_rfl⟩
/- raddle/n4.face -/
def c36:p7:=⟨.seq (.ops [b9 2 (.mov (.const (.string ⟨#[]⟩)))] [0]) (.seq (.seq (.ops [a7 3 0] [3]) (.cond (.tmp 3) (.seq (.ops [b9 2 (.mov (.const (.string ⟨#[98,97,99,107]⟩)))] [2]) (.ret)) (.skip))) (.seq (.ops [b9 2 (.mov (.const (.string ⟨#[102,114,111,110,116]⟩)))] [2]) (.ret))),4,[(2,none)],true⟩
theorem cN0:p6 Tryd.prog 36 c36:= .code ⟨Tryd.f36,_,c36.code,Tryd.func36,rfl,by kernel_rfl,rfl,by kernel_rfl,by kernel_rfl⟩
/- raddle/n4.match -/
def vL:AC:= .seq (.ops [n6 20 19 .lss (.tmp 18)] [0,4,17,18,19,20]) (.seq (.cond (.tmp 20) (.skip) (.exit 0)) (.seq (.block 1 (.seq (.ops [a7 21 19,b9 22 (.idxS 1 (.tmp 17) (.tmp 19)),I1 23 22,a7 8 21,a7 9 23] [0,4,8,9,17,18,19]) (.seq (.seq (.ops [a7 24 8,n6 25 24 .gtr (n9 0)] [0,4,9,17,18,19,25]) (.cond (.tmp 25) (.seq (.ops [a7 27 0,P5 28 58 27,a7 26 28,G8 29 26 0,G8 30 26 1,G8 31 26 2,a7 10 29,a7 11 30,a7 12 31] [4,9,10,11,12,17,18,19]) (.seq (.seq (.ops [a7 32 12,b9 33 (.un .not (.tmp 32))] [4,9,10,11,17,18,19,33]) (.cond (.tmp 33) (.seq (.ops [b9 4 (.mov (.const (.slice none 0 0))),b9 5 (.mov (.const (.string ⟨#[]⟩))),b9 6 (.mov (.const (.bool false)))] [4,5,6]) (.ret)) (.skip))) (.ops [a7 34 4,a7 35 10,b9 36 (.mkRow 3 1 1 [(.int .i64 0)] [(0,1,(.tmp 35))]),b9 37 (.app 3 1 8 (.tmp 34) (.tmp 36)),a7 38 11,a7 4 37,a7 0 38] [0,4,9,17,18,19]))) (.skip))) (.seq (.ops [a7 40 0,a7 41 9,b9 42 (.callF 40 [(.tmp 40),(.tmp 41)]),a7 39 42,G8 43 39 0,G8 44 39 1,a7 13 43,a7 14 44] [4,13,14,17,18,19]) (.seq (.seq (.ops [a7 45 14,b9 46 (.un .not (.tmp 45))] [4,13,17,18,19,46]) (.cond (.tmp 46) (.seq (.ops [b9 4 (.mov (.const (.slice none 0 0))),b9 5 (.mov (.const (.string ⟨#[]⟩))),b9 6 (.mov (.const (.bool false)))] [4,5,6]) (.ret)) (.skip))) (.ops [a7 47 13,a7 0 47] [0,4,17,18,19])))))) (.ops [n6 48 19 .add (n9 1),a7 19 48] [0,4,17,18,19])))
def c38:p7:=⟨.seq (.ops [b9 4 (.mov (.const (.slice none 0 0))),b9 5 (.mov (.const (.string ⟨#[]⟩))),b9 6 (.mov (.const (.bool false)))] [0,1,4]) (.seq (.ops [a7 15 1,b9 16 (.callF 31 [(.tmp 15),(.const (.string ⟨#[35]⟩))]),a7 7 16] [0,4,7]) (.seq (.seq (.ops [a7 17 7,b9 18 (.len false (.tmp 17)),C4 19 0] [0,4,17,18,19]) (.block 0 (.loop [0,4,17,18,19] vL))) (.seq (.ops [a7 49 4,a7 50 0,a7 4 49,a7 5 50,b9 6 (.mov (.const (.bool true)))] [4,5,6]) (.ret)))),51,[(4,none),(5,none),(6,none)],true⟩
theorem cN1:p6 Tryd.prog 38 c38:= .code ⟨Tryd.f38,_,c38.code,Tryd.func38,rfl,by kernel_rfl,rfl,by kernel_rfl,by kernel_rfl⟩
/- strings.CutSuffix -/
def c39:p7:=⟨.seq (.ops [b9 4 (.mov (.const (.string ⟨#[]⟩))),b9 5 (.mov (.const (.bool false)))] [0,1]) (.seq (.ops [a7 6 0,a7 7 1,b9 8 (.callF 65 [(.tmp 6),(.tmp 7)]),G8 9 8 0,G8 10 8 1,a7 4 9,a7 5 10] [4,5]) (.ret)),11,[(4,none),(5,none)],true⟩
theorem cN2:p6 Tryd.prog 39 c39:= .code ⟨Tryd.f39,_,c39.code,Tryd.func39,rfl,by kernel_rfl,rfl,by kernel_rfl,by kernel_rfl⟩
/- strings.CutPrefix -/
def c40:p7:=⟨.seq (.ops [b9 4 (.mov (.const (.string ⟨#[]⟩))),b9 5 (.mov (.const (.bool false)))] [0,1]) (.seq (.ops [a7 6 0,a7 7 1,b9 8 (.callF 66 [(.tmp 6),(.tmp 7)]),G8 9 8 0,G8 10 8 1,a7 4 9,a7 5 10] [4,5]) (.ret)),11,[(4,none),(5,none)],true⟩
theorem cN3:p6 Tryd.prog 40 c40:= .code ⟨Tryd.f40,_,c40.code,Tryd.func40,rfl,by kernel_rfl,rfl,by kernel_rfl,by kernel_rfl⟩
/- raddle/raddlelaw41.cells -/
def c42:p7:=⟨.seq (.ops [b9 2 (.mov (.const (.slice none 0 0)))] [0]) (.seq (.ops [a7 6 0,P5 7 67 6,a7 5 7,G8 8 5 0,G8 9 5 1,a7 3 8,a7 4 9] [3,4]) (.seq (.seq (.ops [a7 10 4,n6 11 10 .neq (n9 0)] [3,11]) (.cond (.tmp 11) (.seq (.ops [b9 2 (.mov (.const (.slice none 0 0)))] [2]) (.ret)) (.skip))) (.seq (.ops [a7 12 3,a7 2 12] [2]) (.ret)))),13,[(2,none)],true⟩
theorem cN4:p6 Tryd.prog 42 c42:= .code ⟨Tryd.f42,_,c42.code,Tryd.func42,rfl,by kernel_rfl,rfl,by kernel_rfl,by kernel_rfl⟩
/- raddle/n4.Check -/
def WW:AC:= .seq (.ops [n6 22 21 .lss (.tmp 20)] [19,20,21,22]) (.seq (.cond (.tmp 22) (.skip) (.exit 0)) (.seq (.block 1 (.seq (.ops [b9 23 (.idxS 2 (.tmp 19) (.tmp 21)),b9 24 (.load (some 2) (.tmp 23)),b9 4 (.alloc 36 [(1,(.bool false)),(1,(.slice none 0 0))]),⟨none,none,.store 2 (.tmp 4) (.tmp 24)⟩] [4,19,20,21]) (.seq (.ops [K2 25 1 4,I1 26 25,P5 27 27 26,a7 5 27] [5,19,20,21]) (.seq (.ops [a7 28 5,n6 29 28 .neq (n9 0)] [5,19,20,21,29]) (.cond (.tmp 29) (.seq (.ops [a7 30 5,a7 2 30] [2]) (.ret)) (.skip)))))) (.ops [n6 31 21 .add (n9 1),a7 21 31] [19,20,21])))
def c43:p7:=⟨.seq (.ops [b9 1 (.box 52 (.tmp 0)),C4 2 0] [1]) (.seq (.seq (.ops [K2 6 1 1,I1 7 6,b9 8 (.len false (.tmp 7)),n6 9 8 .gtr (n9 100)] [1,9]) (.cond (.tmp 9) (.seq (.ops [C4 2 4] [2]) (.ret)) (.skip))) (.seq (.seq (.ops [K2 10 0 1,I1 11 10,n6 12 11 .lss (n9 0),a7 13 12,z1 14 13 (.fldA 0 (.tmp 1)),z1 15 13 (.load none (.tmp 14)),z1 16 13 (.bin .gtr (.tmp 15) (n9 200)),b9 17 (.pick (.tmp 13) (.const (.bool true)) (.tmp 16))] [1,17]) (.cond (.tmp 17) (.seq (.ops [C4 2 8] [2]) (.ret)) (.skip))) (.seq (.seq (.ops [K2 18 1 1,I1 19 18,b9 20 (.len false (.tmp 19)),C4 21 0] [19,20,21]) (.block 0 (.loop [19,20,21] WW))) (.seq (.ops [C4 2 0] [2]) (.ret))))),32,[(2,none)],true⟩
theorem cN5:p6 Tryd.prog 43 c43:= .code ⟨Tryd.f43,_,c43.code,Tryd.func43,rfl,by kernel_rfl,rfl,by kernel_rfl,by kernel_rfl⟩
/- (*strings.Builder).WriteString -/
def c44:p7:=⟨.seq (.ops [C4 4 0,b9 5 (.mov (.const .nilIface))] [0,1]) (.seq (.ops [a7 6 0,P5 7 68 6] [0,1]) (.seq (.ops [a7 8 0,a7 9 0,b9 10 (.nilChk (.tmp 9)),K2 11 1 10,I1 12 11,a7 13 1,b9 14 (.app 5 1 1 (.tmp 12) (.tmp 13)),b9 15 (.nilChk (.tmp 8)),K2 16 1 15,⟨none,none,.store 1 (.tmp 16) (.tmp 14)⟩] [1]) (.seq (.ops [a7 17 1,b9 18 (.len true (.tmp 17)),a7 4 18,b9 5 (.mov (.const .nilIface))] [4,5]) (.ret)))),19,[(4,none),(5,none)],false⟩
theorem cN6:p6 Tryd.prog 44 c44:= .code ⟨Tryd.f44,_,c44.code,Tryd.func44,rfl,by kernel_rfl,rfl,by kernel_rfl,by kernel_rfl⟩
/- (*strings.Builder).Len -/
def c45:p7:=⟨.seq (.ops [C4 2 0] [0]) (.seq (.ops [a7 3 0,b9 4 (.nilChk (.tmp 3)),K2 5 1 4,I1 6 5,b9 7 (.len false (.tmp 6)),a7 2 7] [2]) (.ret)),8,[(2,none)],true⟩
theorem cN7:p6 Tryd.prog 45 c45:= .code ⟨Tryd.f45,_,c45.code,Tryd.func45,rfl,by kernel_rfl,rfl,by kernel_rfl,by kernel_rfl⟩
/- (*strings.Builder).String -/
def c46:p7:=⟨.seq (.ops [b9 2 (.mov (.const (.string ⟨#[]⟩)))] [0]) (.seq (.draw [a7 3 0,b9 4 (.nilChk (.tmp 3)),K2 5 1 4,I1 6 5,b9 7 (.sdata (.tmp 6)),a7 8 0,b9 9 (.nilChk (.tmp 8)),K2 10 1 9,I1 11 10,b9 12 (.len false (.tmp 11))] [b9 13 (.ustr 5 (.tmp 7) (.tmp 12)),a7 2 13] [[],[],[],[],[],[],[],[],[],[]] [2]) (.ret)),14,[(2,none)],false⟩
theorem cN8:p6 Tryd.prog 46 c46:= .code ⟨Tryd.f46,_,c46.code,Tryd.func46,rfl,by kernel_rfl,rfl,by kernel_rfl,by kernel_rfl⟩
/- slices.ContainsFunc[[]raddle/api.Stitch,raddle/api.Stitch] -/
def c47:p7:=⟨.seq (.ops [b9 4 (.mov (.const (.bool false)))] [0,1]) (.seq (.ops [a7 5 0,a7 6 1,b9 7 (.callF 69 [(.tmp 5),(.tmp 6)]),n6 8 7 .geq (n9 0),a7 4 8] [4]) (.ret)),9,[(4,none)],true⟩
theorem cN9:p6 Tryd.prog 47 c47:= .code ⟨Tryd.f47,_,c47.code,Tryd.func47,rfl,by kernel_rfl,rfl,by kernel_rfl,by kernel_rfl⟩
/- raddle/stitch.All$1 -/
def c48:p7:=⟨.seq (.ops [b9 1 (.box 48 (.tmp 0)),b9 2 (.mov (.const (.bool false)))] [1]) (.seq (.ops [b9 3 (.load (some 4) (.tmp 1)),P5 4 49 3,n6 5 4 .neq (n9 0),a7 2 5] [2]) (.ret)),6,[(2,none)],true⟩
theorem cO0:p6 Tryd.prog 48 c48:= .code ⟨Tryd.f48,_,c48.code,Tryd.func48,rfl,by kernel_rfl,rfl,by kernel_rfl,by kernel_rfl⟩
/- raddle/stitch.Check -/
def c49:p7:=⟨.seq (.ops [b9 1 (.box 48 (.tmp 0)),C4 2 0] [1]) (.seq (.ops [K2 6 0 1,I1 7 6,P5 8 70 7,a7 5 8,G8 9 5 0,G8 10 5 1,b9 3 (.alloc 110 [(1,(.string ⟨#[]⟩)),(4,(.int .i64 0)),(1,(.bool false)),(2,(.int .i64 0))]),⟨none,none,.store 8 (.tmp 3) (.tmp 9)⟩,a7 4 10] [1,3,4]) (.seq (.seq (.ops [a7 11 4,b9 12 (.un .not (.tmp 11)),a7 13 12,z1 14 13 (.fldA 2 (.tmp 1)),z1 15 13 (.load none (.tmp 14)),z1 16 13 (.fldA 1 (.tmp 3)),z1 17 13 (.load (some 2) (.tmp 16)),z1 18 13 (.callF 71 [(.tmp 15),(.tmp 17)]),z1 19 13 (.un .not (.tmp 18)),b9 20 (.pick (.tmp 13) (.const (.bool true)) (.tmp 19)),a7 21 20,z1 22 21 (.fldA 3 (.tmp 1)),z1 23 21 (.load none (.tmp 22)),z1 24 21 (.fldA 3 (.tmp 3)),z1 25 21 (.load (some 2) (.tmp 24)),z1 26 21 (.callF 71 [(.tmp 23),(.tmp 25)]),z1 27 21 (.un .not (.tmp 26)),b9 28 (.pick (.tmp 21) (.const (.bool true)) (.tmp 27)),a7 29 28,z1 30 29 (.fldA 1 (.tmp 1)),z1 31 29 (.load none (.tmp 30)),z1 32 29 (.mov (.tmp 31)),r9 33 32 (.fldA 5 (.tmp 3)),r9 34 32 (.load none (.tmp 33)),r9 35 32 (.un .not (.tmp 34)),z1 36 29 (.pick (.tmp 32) (.tmp 35) (.const (.bool false))),b9 37 (.pick (.tmp 29) (.const (.bool true)) (.tmp 36))] [37]) (.cond (.tmp 37) (.seq (.ops [C4 2 8] [2]) (.ret)) (.skip))) (.seq (.ops [C4 2 0] [2]) (.ret)))),38,[(2,none)],true⟩
theorem cO1:p6 Tryd.prog 49 c49:= .code ⟨Tryd.f49,_,c49.code,Tryd.func49,rfl,by kernel_rfl,rfl,by kernel_rfl,by kernel_rfl⟩
/- raddle/stitch.sum -/
def aM9:AC:= .seq (.ops [n6 11 10 .lss (.tmp 9)] [2,3,8,9,10,11]) (.seq (.cond (.tmp 11) (.skip) (.exit 0)) (.seq (.block 1 (.seq (.ops [b9 12 (.idxS 4 (.tmp 8) (.tmp 10)),b9 13 (.load (some 4) (.tmp 12)),b9 5 (.alloc 48 [(1,(.int .u8 0)),(1,(.bool false)),(2,(.int .i64 0))]),⟨none,none,.store 4 (.tmp 5) (.tmp 13)⟩] [2,3,5,8,9,10]) (.seq (.ops [K2 15 0 5,I1 16 15,P5 17 70 16,a7 14 17,G8 18 14 0,G8 19 14 1,b9 6 (.alloc 110 [(1,(.string ⟨#[]⟩)),(4,(.int .i64 0)),(1,(.bool false)),(2,(.int .i64 0))]),⟨none,none,.store 8 (.tmp 6) (.tmp 18)⟩,a7 7 19] [2,3,5,6,8,9,10]) (.seq (.ops [a7 20 2,b9 21 (.load (some 4) (.tmp 5)),K2 22 6 6,I1 23 22,b9 24 (.callF 72 [(.tmp 21),(.tmp 23)]),n6 25 20 .add (.tmp 24),a7 2 25] [2,3,5,6,8,9,10]) (.ops [a7 26 3,b9 27 (.load (some 4) (.tmp 5)),K2 28 7 6,I1 29 28,b9 30 (.callF 72 [(.tmp 27),(.tmp 29)]),n6 31 26 .add (.tmp 30),a7 3 31] [2,3,8,9,10]))))) (.ops [n6 32 10 .add (n9 1),a7 10 32] [2,3,8,9,10])))
def c50:p7:=⟨.seq (.ops [C4 2 0,C4 3 0] [0,2,3]) (.seq (.seq (.ops [a7 8 0,b9 9 (.len false (.tmp 8)),C4 10 0] [2,3,8,9,10]) (.block 0 (.loop [2,3,8,9,10] aM9))) (.seq (.ops [a7 33 2,a7 34 3,a7 2 33,a7 3 34] [2,3]) (.ret))),35,[(2,none),(3,none)],true⟩
theorem cO2:p6 Tryd.prog 50 c50:= .code ⟨Tryd.f50,_,c50.code,Tryd.func50,rfl,by kernel_rfl,rfl,by kernel_rfl,by kernel_rfl⟩
/- raddle/n4.phrase -/
def c51:p7:=⟨.seq (.ops [b9 2 (.box 48 (.tmp 0)),b9 4 (.mov (.const (.string ⟨#[]⟩)))] [1,2]) (.seq (.ops [K2 8 0 2,I1 9 8,K2 10 1 2,I1 11 10,b9 12 (.callF 57 [(.tmp 9),(.tmp 11)]),a7 7 12,G8 13 7 0,G8 14 7 1,a7 5 13,a7 6 14] [1,2,5,6]) (.seq (.seq (.ops [a7 15 6] [1,2,5,15]) (.cond (.tmp 15) (.seq (.ops [a7 16 5,a7 17 1,P5 18 35 17,b9 19 (.callF 73 [(.tmp 16),(.const (.string ⟨#[35]⟩)),(.tmp 18),(n9 1)]),a7 4 19] [4]) (.ret)) (.skip))) (.seq (.ops [a7 20 5,K2 21 2 2,I1 22 21,P5 23 35 22,b9 24 (.callF 73 [(.tmp 20),(.const (.string ⟨#[35]⟩)),(.tmp 23),(n9 1)]),a7 5 24] [1,2,5]) (.seq (.ops [a7 25 5,K2 26 3 2,I1 27 26,P5 28 35 27,b9 29 (.callF 73 [(.tmp 25),(.const (.string ⟨#[35]⟩)),(.tmp 28),(n9 1)]),a7 5 29] [1,5]) (.seq (.seq (.ops [a7 30 1,n6 31 30 .gtr (n9 1)] [1,5,31]) (.cond (.tmp 31) (.ops [a7 32 5,a7 33 1,P5 34 35 33,b9 35 (.bin .add (.const (.string ⟨#[32]⟩)) (.tmp 34)),b9 36 (.bin .add (.tmp 35) (.const (.string ⟨#[32,116,105,109,101,115]⟩))),n6 37 32 .add (.tmp 36),a7 5 37] [5]) (.skip))) (.seq (.ops [a7 38 5,a7 4 38] [4]) (.ret))))))),39,[(4,none)],true⟩
theorem cO3:p6 Tryd.prog 51 c51:= .code ⟨Tryd.f51,_,c51.code,Tryd.func51,rfl,by kernel_rfl,rfl,by kernel_rfl,by kernel_rfl⟩
/- raddle/raddleref25.Check -/
def c53:p7:=⟨.seq (.ops [b9 1 (.box 48 (.tmp 0)),C4 2 0] [1]) (.seq (.ops [K2 5 2 1,I1 6 5,n6 7 6 .eql (n9 0),a7 8 7,r9 9 8 (.fldA 3 (.tmp 1)),r9 10 8 (.load none (.tmp 9)),r9 11 8 (.bin .eql (.tmp 10) (n9 0)),b9 12 (.pick (.tmp 8) (.tmp 11) (.const (.bool false))),a7 3 12] [1,3]) (.seq (.ops [b9 4 (.mov (.const (.bool false)))] [1,3,4]) (.seq (.seq (.ops [K2 13 0 1,I1 14 13] [1,3,4,14]) (.block 0 (.seq (.seq (.ops [n6 16 14 .eql (H8 1),a7 15 16] [1,3,4,14,15]) (.cond (.tmp 15) (.skip) (.ops [n6 17 14 .eql (H8 8),a7 15 17] [1,3,4,14,15]))) (.cond (.tmp 15) (.ops [a7 18 3,a7 4 18] [4]) (.seq (.ops [n6 20 14 .eql (H8 2),a7 19 20] [1,3,4,14,19]) (.cond (.tmp 19) (.ops [a7 21 3,a7 22 21,r9 23 22 (.fldA 1 (.tmp 1)),r9 24 22 (.load none (.tmp 23)),r9 25 22 (.un .not (.tmp 24)),b9 26 (.pick (.tmp 22) (.tmp 25) (.const (.bool false))),a7 4 26] [4]) (.seq (.seq (.ops [n6 28 14 .eql (H8 3),a7 27 28] [1,4,14,27]) (.cond (.tmp 27) (.skip) (.seq (.ops [n6 29 14 .eql (H8 4),a7 27 29] [1,4,14,27]) (.cond (.tmp 27) (.skip) (.ops [n6 30 14 .eql (H8 5),a7 27 30] [1,4,14,27]))))) (.cond (.tmp 27) (.ops [K2 31 3 1,I1 32 31,n6 33 32 .eql (n9 0),a7 34 33,r9 35 34 (.fldA 2 (.tmp 1)),r9 36 34 (.load none (.tmp 35)),r9 37 34 (.bin .geq (.tmp 36) (n9 2)),b9 38 (.pick (.tmp 34) (.tmp 37) (.const (.bool false))),a7 39 38,r9 40 39 (.fldA 2 (.tmp 1)),r9 41 39 (.load none (.tmp 40)),r9 42 39 (.bin .leq (.tmp 41) (n9 4)),b9 43 (.pick (.tmp 39) (.tmp 42) (.const (.bool false))),a7 4 43] [4]) (.seq (.seq (.ops [n6 45 14 .eql (H8 6),a7 44 45] [1,4,14,44]) (.cond (.tmp 44) (.skip) (.ops [n6 46 14 .eql (H8 7),a7 44 46] [1,4,14,44]))) (.cond (.tmp 44) (.ops [K2 47 2 1,I1 48 47,n6 49 48 .geq (n9 1),a7 50 49,r9 51 50 (.fldA 2 (.tmp 1)),r9 52 50 (.load none (.tmp 51)),r9 53 50 (.bin .leq (.tmp 52) (n9 6)),b9 54 (.pick (.tmp 50) (.tmp 53) (.const (.bool false))),a7 55 54,r9 56 55 (.fldA 3 (.tmp 1)),r9 57 55 (.load none (.tmp 56)),r9 58 55 (.bin .geq (.tmp 57) (n9 1)),
  b9 59 (.pick (.tmp 55) (.tmp 58) (.const (.bool false))),a7 60 59,r9 61 60 (.fldA 3 (.tmp 1)),r9 62 60 (.load none (.tmp 61)),r9 63 60 (.bin .leq (.tmp 62) (n9 6)),b9 64 (.pick (.tmp 60) (.tmp 63) (.const (.bool false))),a7 4 64] [4]) (.seq (.ops [n6 66 14 .eql (H8 9),a7 65 66] [1,4,14,65]) (.cond (.tmp 65) (.ops [K2 67 3 1,I1 68 67,n6 69 68 .eql (n9 0),a7 70 69,r9 71 70 (.fldA 1 (.tmp 1)),r9 72 70 (.load none (.tmp 71)),r9 73 70 (.un .not (.tmp 72)),b9 74 (.pick (.tmp 70) (.tmp 73) (.const (.bool false))),a7 75 74,r9 76 75 (.fldA 2 (.tmp 1)),r9 77 75 (.load none (.tmp 76)),r9 78 75 (.bin .geq (.tmp 77) (n9 1)),b9 79 (.pick (.tmp 75) (.tmp 78) (.const (.bool false))),a7 80 79,r9 81 80 (.fldA 2 (.tmp 1)),r9 82 80 (.load none (.tmp 81)),r9 83 80 (.bin .leq (.tmp 82) (n9 200)),b9 84 (.pick (.tmp 80) (.tmp 83) (.const (.bool false))),a7 4 84] [4]) (.seq (.ops [n6 86 14 .eql (H8 10),a7 85 86] [1,4,85]) (.cond (.tmp 85) (.ops [K2 87 3 1,I1 88 87,n6 89 88 .eql (n9 0),a7 90 89,r9 91 90 (.fldA 2 (.tmp 1)),r9 92 90 (.load none (.tmp 91)),r9 93 90 (.bin .geq (.tmp 92) (n9 1)),b9 94 (.pick (.tmp 90) (.tmp 93) (.const (.bool false))),a7 95 94,r9 96 95 (.fldA 2 (.tmp 1)),r9 97 95 (.load none (.tmp 96)),r9 98 95 (.bin .leq (.tmp 97) (n9 200)),b9 99 (.pick (.tmp 95) (.tmp 98) (.const (.bool false))),a7 4 99] [4]) (.skip))))))))))))))) (.seq (.seq (.ops [a7 100 4,b9 101 (.un .not (.tmp 100))] [101]) (.cond (.tmp 101) (.seq (.ops [C4 2 8] [2]) (.ret)) (.skip))) (.seq (.ops [C4 2 0] [2]) (.ret)))))),102,[(2,none)],true⟩
theorem cO4:p6 Tryd.prog 53 c53:= .code ⟨Tryd.f53,_,c53.code,Tryd.func53,rfl,by kernel_rfl,rfl,by kernel_rfl,by kernel_rfl⟩
/- raddle/raddleref25.sums -/
def aN0:AC:= .seq (.seq (.ops [a7 7 6,a7 8 0,b9 9 (.len false (.tmp 8)),n6 10 7 .lss (.tmp 9)] [0,4,5,6,10]) (.cond (.tmp 10) (.skip) (.exit 0))) (.seq (.block 1 (.seq (.ops [a7 13 4,a7 14 0,a7 15 6,b9 16 (.idxS 4 (.tmp 14) (.tmp 15)),b9 17 (.load (some 4) (.tmp 16)),P5 18 75 17,n6 19 13 .add (.tmp 18),a7 4 19] [0,4,5,6]) (.ops [a7 20 5,a7 21 0,a7 22 6,b9 23 (.idxS 4 (.tmp 21) (.tmp 22)),b9 24 (.load (some 4) (.tmp 23)),P5 25 76 24,n6 26 20 .add (.tmp 25),a7 5 26] [0,4,5,6]))) (.ops [a7 11 6,n6 12 11 .add (n9 1),a7 6 12] [0,4,5,6]))
def c54:p7:=⟨.seq (.ops [C4 2 0,C4 3 0] [0]) (.seq (.ops [C4 4 0,C4 5 0] [0,4,5]) (.seq (.seq (.ops [C4 6 0] [0,4,5,6]) (.block 0 (.loop [0,4,5,6] aN0))) (.seq (.ops [a7 27 4,a7 28 5,a7 2 27,a7 3 28] [2,3]) (.ret)))),29,[(2,none),(3,none)],true⟩
theorem cO5:p6 Tryd.prog 54 c54:= .code ⟨Tryd.f54,_,c54.code,Tryd.func54,rfl,by kernel_rfl,rfl,by kernel_rfl,by kernel_rfl⟩
/- strings.genSplit -/
def LP:AC:= .seq (.seq (.ops [a7 34 10,a7 35 3,n6 36 34 .lss (.tmp 35)] [0,1,2,3,9,10,36]) (.cond (.tmp 36) (.skip) (.exit 0))) (.block 1 (.seq (.ops [a7 37 0,a7 38 1,b9 39 (.callF 81 [(.tmp 37),(.tmp 38)]),a7 11 39] [0,1,2,3,9,10,11]) (.seq (.seq (.ops [a7 40 11,n6 41 40 .lss (n9 0)] [0,1,2,3,9,10,11,41]) (.cond (.tmp 41) (.exit 0) (.skip))) (.seq (.ops [a7 42 9,a7 43 10,a7 44 0,a7 45 11,a7 46 2,n6 47 45 .add (.tmp 46),b9 48 (.slcS (.tmp 44) none (some (.tmp 47))),b9 49 (.idxS 1 (.tmp 42) (.tmp 43)),⟨none,none,.store 1 (.tmp 49) (.tmp 48)⟩] [0,1,2,3,9,10,11]) (.seq (.ops [a7 50 0,a7 51 11,a7 52 1,b9 53 (.len true (.tmp 52)),n6 54 51 .add (.tmp 53),b9 55 (.slcS (.tmp 50) (some (.tmp 54)) none),a7 0 55] [0,1,2,3,9,10]) (.ops [a7 56 10,n6 57 56 .add (n9 1),a7 10 57] [0,1,2,3,9,10]))))))
def c56:p7:=⟨.seq (.ops [b9 8 (.mov (.const (.slice none 0 0)))] [0,1,2,3]) (.seq (.seq (.ops [a7 12 3,n6 13 12 .eql (n9 0)] [0,1,2,3,13]) (.cond (.tmp 13) (.seq (.ops [b9 8 (.mov (.const (.slice none 0 0)))] [8]) (.ret)) (.skip))) (.seq (.seq (.ops [a7 14 1,b9 15 (.bin .eql (.tmp 14) (.const (.string ⟨#[]⟩)))] [0,1,2,3,15]) (.cond (.tmp 15) (.seq (.ops [a7 16 0,a7 17 3,b9 18 (.callF 79 [(.tmp 16),(.tmp 17)]),a7 8 18] [8]) (.ret)) (.skip))) (.seq (.seq (.ops [a7 19 3,n6 20 19 .lss (n9 0)] [0,1,2,3,20]) (.cond (.tmp 20) (.ops [a7 21 0,a7 22 1,b9 23 (.callF 80 [(.tmp 21),(.tmp 22)]),n6 24 23 .add (n9 1),a7 3 24] [0,1,2,3]) (.skip))) (.seq (.ops [a7 25 3,a7 26 0,b9 27 (.len true (.tmp 26)),n6 28 27 .add (n9 1),b9 29 (.mm false (.tmp 25) (.tmp 28)),a7 3 29] [0,1,2,3]) (.seq (.ops [a7 30 3,b9 31 (.mkSlice 9 1 16 [(.string ⟨#[]⟩)] (.tmp 30) (.tmp 30)),a7 9 31] [0,1,2,3,9]) (.seq (.ops [a7 32 3,n6 33 32 .sub (n9 1),a7 3 33] [0,1,2,3,9]) (.seq (.ops [C4 10 0] [0,1,2,3,9,10]) (.seq (.block 0 (.loop [0,1,2,3,9,10] LP)) (.seq (.ops [a7 58 9,a7 59 10,a7 60 0,b9 61 (.idxS 1 (.tmp 58) (.tmp 59)),⟨none,none,.store 1 (.tmp 61) (.tmp 60)⟩] [9,10]) (.seq (.ops [a7 62 9,a7 63 10,n6 64 63 .add (n9 1),b9 65 (.slc 1 (.tmp 62) none (some (.tmp 64)) none),a7 8 65] [8]) (.ret))))))))))),66,[(8,none)],true⟩
theorem cO6:p6 Tryd.prog 56 c56:= .code ⟨Tryd.f56,_,c56.code,Tryd.func56,rfl,by kernel_rfl,rfl,by kernel_rfl,by kernel_rfl⟩
/- raddle/n4.form -/
def c57:p7:=⟨.seq (.ops [b9 4 (.mov (.const (.string ⟨#[]⟩))),b9 5 (.mov (.const (.bool false)))] [0,1]) (.seq (.ops [b9 6 (.mov (.const (.string ⟨#[]⟩)))] [0,1,6]) (.seq (.seq (.ops [a7 7 1] [0,1,6,7]) (.cond (.tmp 7) (.ops [b9 6 (.mov (.const (.string ⟨#[32,112,117,114,108,119,105,115,101]⟩)))] [0,1,6]) (.skip))) (.seq (.seq (.ops [a7 8 0] [1,6,8]) (.block 0 (.seq (.ops [n6 10 8 .eql (H8 1),a7 9 10] [1,6,8,9]) (.cond (.tmp 9) (.seq (.ops [a7 11 1,P5 12 82 11,b9 13 (.bin .add (.tmp 12) (.const (.string ⟨#[32,35]⟩))),a7 4 13,b9 5 (.mov (.const (.bool true)))] [4,5]) (.ret)) (.seq (.ops [n6 15 8 .eql (H8 8),a7 14 15] [1,6,8,14]) (.cond (.tmp 14) (.seq (.seq (.ops [a7 16 1] [16]) (.cond (.tmp 16) (.seq (.ops [b9 4 (.mov (.const (.string ⟨#[115,108,105,112,32,35,32,119,105,116,104,32,121,97,114,110,32,105,110,32,102,114,111,110,116]⟩))),b9 5 (.mov (.const (.bool true)))] [4,5]) (.ret)) (.skip))) (.seq (.ops [b9 4 (.mov (.const (.string ⟨#[115,108,105,112,32,35]⟩))),b9 5 (.mov (.const (.bool true)))] [4,5]) (.ret))) (.seq (.ops [n6 18 8 .eql (H8 2),a7 17 18] [1,6,8,17]) (.cond (.tmp 17) (.seq (.ops [b9 4 (.mov (.const (.string ⟨#[121,97,114,110,32,111,118,101,114]⟩))),b9 5 (.mov (.const (.bool false)))] [4,5]) (.ret)) (.seq (.ops [n6 20 8 .eql (H8 3),a7 19 20] [1,6,8,19]) (.cond (.tmp 19) (.seq (.ops [a7 21 1,P5 22 82 21,b9 23 (.bin .add (.tmp 22) (.const (.string ⟨#[32,35,32,116,111,103,101,116,104,101,114,32,40,102,105,114,115,116,32,111,110,32,116,111,112,41]⟩))),a7 4 23,b9 5 (.mov (.const (.bool false)))] [4,5]) (.ret)) (.seq (.ops [n6 25 8 .eql (H8 4),a7 24 25] [1,6,8,24]) (.cond (.tmp 24) (.seq (.ops [a7 26 1,P5 27 82 26,b9 28 (.bin .add (.tmp 27) (.const (.string ⟨#[32,35,32,116,111,103,101,116,104,101,114]⟩))),a7 4 28,b9 5 (.mov (.const (.bool false)))] [4,5]) (.ret)) (.seq (.ops [n6 30 8 .eql (H8 5),a7 29 30] [6,8,29]) (.cond (.tmp 29) (.seq (.ops [a7 31 6,b9 32 (.bin .add (.const (.string ⟨#[109,97,107,101,32,35,32,111,117,116,32,111,102,32,49]⟩)) (.tmp 31)),a7 4 32,b9 5 (.mov (.const (.bool false)))] [4,5]) (.ret)) (.seq (.ops [n6 34 8 .eql (H8 6),a7 33 34] [6,8,33]) (.cond (.tmp 33) (.seq (.ops [a7 35 6,b9 36 (.bin .add (.const (.string ⟨#[99,114,111,115,115,32,35,32,105,110,32,102,114,111,110,116,32,111,102,32,35]⟩)) (.tmp 35)),a7 4 36,b9 5 (.mov (.const (.bool false)))] [4,5]) (.ret)) (.seq (.ops [n6 38 8 .eql (H8 7),a7 37 38] [6,8,37]) (.cond (.tmp 37) (.seq (.ops [a7 39 6,
  b9 40 (.bin .add (.const (.string ⟨#[99,114,111,115,115,32,35,32,98,101,104,105,110,100,32,35]⟩)) (.tmp 39)),a7 4 40,b9 5 (.mov (.const (.bool false)))] [4,5]) (.ret)) (.seq (.ops [n6 42 8 .eql (H8 9),a7 41 42] [6,41]) (.cond (.tmp 41) (.seq (.ops [b9 4 (.mov (.const (.string ⟨#[99,97,115,116,32,111,110,32,35]⟩))),b9 5 (.mov (.const (.bool false)))] [4,5]) (.ret)) (.skip))))))))))))))))))))) (.seq (.ops [a7 43 6,b9 44 (.bin .add (.const (.string ⟨#[98,105,110,100,32,111,102,102,32,35]⟩)) (.tmp 43)),a7 4 44,b9 5 (.mov (.const (.bool false)))] [4,5]) (.ret))))),45,[(4,none),(5,none)],true⟩
theorem cO7:p6 Tryd.prog 57 c57:= .code ⟨Tryd.f57,_,c57.code,Tryd.func57,rfl,by kernel_rfl,rfl,by kernel_rfl,by kernel_rfl⟩
/- raddle/n4.number -/
def LQ:AC:= .seq (.seq (.ops [a7 6 5,a7 7 0,b9 8 (.len true (.tmp 7)),n6 9 6 .lss (.tmp 8),a7 10 9,r9 11 10 (.mov (.tmp 5)),r9 12 10 (.bin .lss (.tmp 11) (n9 4)),b9 13 (.pick (.tmp 10) (.tmp 12) (.const (.bool false))),a7 14 13,r9 15 14 (.mov (.tmp 0)),r9 16 14 (.mov (.tmp 5)),r9 17 14 (.idxStr (.tmp 15) (.tmp 16)),r9 18 14 (.bin .geq (.tmp 17) (H8 48)),b9 19 (.pick (.tmp 14) (.tmp 18) (.const (.bool false))),a7 20 19,r9 21 20 (.mov (.tmp 0)),r9 22 20 (.mov (.tmp 5)),r9 23 20 (.idxStr (.tmp 21) (.tmp 22)),r9 24 20 (.bin .leq (.tmp 23) (H8 57)),b9 25 (.pick (.tmp 20) (.tmp 24) (.const (.bool false)))] [0,2,5,25]) (.cond (.tmp 25) (.skip) (.exit 0))) (.block 1 (.seq (.ops [a7 26 2,b9 27 (.bin .mul (n9 10) (.tmp 26)),a7 28 0,a7 29 5,b9 30 (.idxStr (.tmp 28) (.tmp 29)),n6 31 30 .sub (H8 48),b9 32 (.convI .i64 (.tmp 31)),n6 33 27 .add (.tmp 32),a7 2 33] [0,2,5]) (.ops [a7 34 5,n6 35 34 .add (n9 1),a7 5 35] [0,2,5])))
def c58:p7:=⟨.seq (.ops [C4 2 0,b9 3 (.mov (.const (.string ⟨#[]⟩))),b9 4 (.mov (.const (.bool false)))] [0,2]) (.seq (.ops [C4 5 0] [0,2,5]) (.seq (.block 0 (.loop [0,2,5] LQ)) (.seq (.draw [a7 36 2,a7 37 0,a7 38 5,b9 39 (.slcS (.tmp 37) (some (.tmp 38)) none),a7 40 5,n6 41 40 .gtr (n9 0),a7 2 36,a7 3 39] [a7 4 41] [[],[],[],[],[],[],[],[]] [2,3,4]) (.ret)))),42,[(2,none),(3,none),(4,none)],true⟩
theorem cO8:p6 Tryd.prog 58 c58:= .code ⟨Tryd.f58,_,c58.code,Tryd.func58,rfl,by kernel_rfl,rfl,by kernel_rfl,by kernel_rfl⟩
/- strings.TrimPrefix -/
def c59:p7:=⟨.seq (.ops [b9 4 (.mov (.const (.string ⟨#[]⟩)))] [0,1]) (.seq (.ops [a7 5 0,a7 6 1,b9 7 (.callF 83 [(.tmp 5),(.tmp 6)]),a7 4 7] [4]) (.ret)),8,[(4,none)],true⟩
theorem cO9:p6 Tryd.prog 59 c59:= .code ⟨Tryd.f59,_,c59.code,Tryd.func59,rfl,by kernel_rfl,rfl,by kernel_rfl,by kernel_rfl⟩
/- raddle/raddleref25.Decimal -/
def aN1:AC:= .seq (.seq (.ops [a7 12 0,n6 13 12 .gtr (n9 0)] [0,3,13]) (.cond (.tmp 13) (.skip) (.exit 0))) (.seq (.block 1 (.ops [a7 16 0,n6 17 16 .rem (n9 10),b9 18 (.bin .add (n9 48) (.tmp 17)),b9 19 (.convI .u8 (.tmp 18)),b9 20 (.mkRow 5 1 1 [(.int .u8 0)] [(0,1,(.tmp 19))]),b9 21 (.b2s (.tmp 20)),a7 22 3,n6 23 21 .add (.tmp 22),a7 3 23] [0,3])) (.ops [a7 14 0,n6 15 14 .quo (n9 10),a7 0 15] [0,3]))
def c64:p7:=⟨.seq (.ops [b9 2 (.mov (.const (.string ⟨#[]⟩)))] [0]) (.seq (.ops [a7 4 0,n6 5 4 .rem (n9 10),b9 6 (.bin .add (n9 48) (.tmp 5)),b9 7 (.convI .u8 (.tmp 6)),b9 8 (.mkRow 5 1 1 [(.int .u8 0)] [(0,1,(.tmp 7))]),b9 9 (.b2s (.tmp 8)),a7 3 9] [0,3]) (.seq (.seq (.ops [a7 10 0,n6 11 10 .quo (n9 10),a7 0 11] [0,3]) (.block 0 (.loop [0,3] aN1))) (.seq (.ops [a7 24 3,a7 2 24] [2]) (.ret)))),25,[(2,none)],true⟩
theorem cP0:p6 Tryd.prog 64 c64:= .code ⟨Tryd.f64,_,c64.code,Tryd.func64,rfl,by kernel_rfl,rfl,by kernel_rfl,by kernel_rfl⟩
/- internal/stringslite.CutSuffix -/
def c65:p7:=⟨.seq (.ops [b9 4 (.mov (.const (.string ⟨#[]⟩))),b9 5 (.mov (.const (.bool false)))] [0,1]) (.seq (.seq (.ops [a7 6 0,a7 7 1,b9 8 (.callF 87 [(.tmp 6),(.tmp 7)]),b9 9 (.un .not (.tmp 8))] [0,1,9]) (.cond (.tmp 9) (.seq (.ops [a7 10 0,a7 4 10,b9 5 (.mov (.const (.bool false)))] [4,5]) (.ret)) (.skip))) (.seq (.ops [a7 11 0,a7 12 0,b9 13 (.len true (.tmp 12)),a7 14 1,b9 15 (.len true (.tmp 14)),n6 16 13 .sub (.tmp 15),b9 17 (.slcS (.tmp 11) none (some (.tmp 16))),a7 4 17,b9 5 (.mov (.const (.bool true)))] [4,5]) (.ret))),18,[(4,none),(5,none)],true⟩
theorem cP1:p6 Tryd.prog 65 c65:= .code ⟨Tryd.f65,_,c65.code,Tryd.func65,rfl,by kernel_rfl,rfl,by kernel_rfl,by kernel_rfl⟩
/- internal/stringslite.CutPrefix -/
def c66:p7:=⟨.seq (.ops [b9 4 (.mov (.const (.string ⟨#[]⟩))),b9 5 (.mov (.const (.bool false)))] [0,1]) (.seq (.seq (.ops [a7 6 0,a7 7 1,b9 8 (.callF 88 [(.tmp 6),(.tmp 7)]),b9 9 (.un .not (.tmp 8))] [0,1,9]) (.cond (.tmp 9) (.seq (.ops [a7 10 0,a7 4 10,b9 5 (.mov (.const (.bool false)))] [4,5]) (.ret)) (.skip))) (.seq (.ops [a7 11 0,a7 12 1,b9 13 (.len true (.tmp 12)),b9 14 (.slcS (.tmp 11) (some (.tmp 13)) none),a7 4 14,b9 5 (.mov (.const (.bool true)))] [4,5]) (.ret))),15,[(4,none),(5,none)],true⟩
theorem cP2:p6 Tryd.prog 66 c66:= .code ⟨Tryd.f66,_,c66.code,Tryd.func66,rfl,by kernel_rfl,rfl,by kernel_rfl,by kernel_rfl⟩
/- raddle/raddleref25.Parse -/
def aN2:AC:= .seq (.seq (.ops [a7 16 6,a7 17 4,b9 18 (.len false (.tmp 17)),n6 19 16 .lss (.tmp 18)] [0,4,5,6,19]) (.cond (.tmp 19) (.skip) (.exit 0))) (.seq (.block 1 (.seq (.ops [a7 23 4,a7 24 6,b9 25 (.idxS 1 (.tmp 23) (.tmp 24)),I1 26 25,P5 27 89 26,a7 22 27,G8 28 22 0,G8 29 22 1,a7 7 28,a7 8 29] [0,4,5,6,7,8]) (.seq (.seq (.ops [a7 30 8,b9 31 (.un .not (.tmp 30))] [0,4,5,6,7,31]) (.cond (.tmp 31) (.seq (.ops [b9 2 (.mov (.const (.slice none 0 0))),C4 3 12] [2,3]) (.ret)) (.skip))) (.seq (.ops [a7 32 5,a7 33 7,b9 34 (.app 48 4 24 (.tmp 32) (.tmp 33)),a7 5 34] [0,4,5,6]) (.seq (.ops [a7 35 5,b9 36 (.len false (.tmp 35)),n6 37 36 .gtr (n9 200)] [0,4,5,6,37]) (.cond (.tmp 37) (.seq (.ops [b9 2 (.mov (.const (.slice none 0 0))),C4 3 12] [2,3]) (.ret)) (.skip))))))) (.ops [a7 20 6,n6 21 20 .add (n9 1),a7 6 21] [0,4,5,6]))
def c67:p7:=⟨.seq (.ops [b9 2 (.mov (.const (.slice none 0 0))),C4 3 0] [0]) (.seq (.seq (.ops [a7 9 0,b9 10 (.len true (.tmp 9)),n6 11 10 .gtr (n9 3000)] [0,11]) (.cond (.tmp 11) (.seq (.ops [b9 2 (.mov (.const (.slice none 0 0))),C4 3 12] [2,3]) (.ret)) (.skip))) (.seq (.seq (.ops [a7 12 0,b9 13 (.bin .eql (.tmp 12) (.const (.string ⟨#[]⟩)))] [0,13]) (.cond (.tmp 13) (.seq (.ops [b9 2 (.mov (.const (.slice none 0 0))),C4 3 0] [2,3]) (.ret)) (.skip))) (.seq (.ops [a7 14 0,b9 15 (.callF 84 [(.tmp 14),(H8 32)]),a7 4 15] [0,4]) (.seq (.ops [b9 5 (.mov (.const (.slice none 0 0)))] [0,4,5]) (.seq (.seq (.ops [C4 6 0] [0,4,5,6]) (.block 0 (.loop [0,4,5,6] aN2))) (.seq (.seq (.ops [a7 38 5,P5 39 29 38,n6 40 39 .neq (n9 0),a7 41 40,z1 42 41 (.mov (.tmp 5)),z1 43 41 (.callF 90 [.tmp 42]),z1 44 41 (.mov (.tmp 0)),z1 45 41 (.bin .neq (.tmp 43) (.tmp 44)),b9 46 (.pick (.tmp 41) (.const (.bool true)) (.tmp 45))] [5,46]) (.cond (.tmp 46) (.seq (.ops [b9 2 (.mov (.const (.slice none 0 0))),C4 3 12] [2,3]) (.ret)) (.skip))) (.seq (.ops [a7 47 5,a7 2 47,C4 3 0] [2,3]) (.ret)))))))),48,[(2,none),(3,none)],true⟩
theorem cP3:p6 Tryd.prog 67 c67:= .code ⟨Tryd.f67,_,c67.code,Tryd.func67,rfl,by kernel_rfl,rfl,by kernel_rfl,by kernel_rfl⟩
/- (*strings.Builder).copyCheck (1 operations that the interpreter lacks) -/
def c68:p7:=⟨.seq (.ops [a7 2 0,b9 3 (.nilChk (.tmp 2)),K2 4 0 3,I1 5 4,b9 6 (.eqNil 0 false (.tmp 5) (.const (.pointer none)))] [0,6]) (.cond (.tmp 6) (.ops [a7 7 0,a7 8 0,b9 9 (.toUns (.tmp 8)),P5 10 91 9,b9 11 (.fromUns 83 2 (.tmp 10)),b9 12 (.nilChk (.tmp 7)),K2 13 0 12,⟨none,none,.store 1 (.tmp 13) (.tmp 11)⟩] []) (.seq (.ops [a7 14 0,b9 15 (.nilChk (.tmp 14)),K2 16 0 15,I1 17 16,a7 18 0,b9 19 (.eqPtr true (.tmp 17) (.tmp 18))] [19]) (.cond (.tmp 19) (.bad) (.skip)))),20,[],false⟩
theorem cP4:p6 Tryd.prog 68 c68:= .code ⟨Tryd.f68,_,c68.code,Tryd.func68,rfl,by kernel_rfl,rfl,by kernel_rfl,by kernel_rfl⟩
/- slices.IndexFunc[[]raddle/api.Stitch,raddle/api.Stitch] -/
def WX:AC:= .seq (.ops [n6 9 8 .lss (.tmp 7)] [0,1,7,8,9]) (.seq (.cond (.tmp 9) (.skip) (.exit 0)) (.seq (.block 1 (.seq (.ops [a7 10 8,a7 5 10] [0,1,5,7,8]) (.seq (.ops [a7 11 1,a7 12 0,a7 13 5,b9 14 (.idxS 4 (.tmp 12) (.tmp 13)),b9 15 (.load (some 4) (.tmp 14)),b9 16 (.callV (.tmp 11) [.tmp 15])] [0,1,5,7,8,16]) (.cond (.tmp 16) (.seq (.ops [a7 17 5,a7 4 17] [4]) (.ret)) (.skip))))) (.ops [n6 18 8 .add (n9 1),a7 8 18] [0,1,7,8])))
def c69:p7:=⟨.seq (.ops [C4 4 0] [0,1]) (.seq (.seq (.ops [a7 6 0,b9 7 (.len false (.tmp 6)),C4 8 0] [0,1,7,8]) (.block 0 (.loop [0,1,7,8] WX))) (.seq (.ops [b9 4 (.mov (n9 (-1)))] [4]) (.ret))),19,[(4,none)],true⟩
theorem cP5:p6 Tryd.prog 69 c69:= .code ⟨Tryd.f69,_,c69.code,Tryd.func69,rfl,by kernel_rfl,rfl,by kernel_rfl,by kernel_rfl⟩
/- raddle/stitch.forms -/
def c70:p7:=⟨.seq (.ops [b9 2 (.alloc 110 [(1,(.string ⟨#[]⟩)),(4,(.int .i64 0)),(1,(.bool false)),(2,(.int .i64 0))]),b9 3 (.mov (.const (.bool false)))] [0,2]) (.seq (.ops [b9 8 (.build [(.int .i64 0),(.int .i64 0)] [(0,1,(n9 2)),(1,1,(n9 4))]),b9 9 (.build [(.int .i64 0),(.int .i64 0)] [(0,1,(n9 1)),(1,1,(n9 6))]),b9 4 (.alloc 108 [(2,(.int .i64 0))]),b9 5 (.alloc 108 [(2,(.int .i64 0))]),⟨none,none,.store 2 (.tmp 4) (.tmp 8)⟩,⟨none,none,.store 2 (.tmp 5) (.tmp 9)⟩] [0,2,4,5]) (.seq (.ops [b9 10 (.build [(.int .i64 0),(.int .i64 0)] [(0,1,(n9 1)),(1,1,(n9 200))]),b9 6 (.alloc 108 [(2,(.int .i64 0))]),⟨none,none,.store 2 (.tmp 6) (.tmp 10)⟩] [0,2,4,5,6]) (.seq (.ops [b9 11 (.build [(.int .i64 0),(.int .i64 0)] []),b9 12 (.build [(.int .i64 0),(.int .i64 0)] []),b9 13 (.build [(.string ⟨#[]⟩),(.int .i64 0),(.int .i64 0),(.int .i64 0),(.int .i64 0),(.bool false),(.int .i64 0),(.int .i64 0)] [(0,1,(.const (.string ⟨#[]⟩))),(1,2,(.tmp 11)),(3,2,(.tmp 12)),(5,1,(.const (.bool true))),(6,1,(n9 1)),(7,1,(n9 1))]),b9 14 (.build [(.int .i64 0),(.int .i64 0)] []),b9 15 (.build [(.int .i64 0),(.int .i64 0)] []),b9 16 (.build [(.string ⟨#[]⟩),(.int .i64 0),(.int .i64 0),(.int .i64 0),(.int .i64 0),(.bool false),(.int .i64 0),(.int .i64 0)] [(0,1,(.const (.string ⟨#[]⟩))),(1,2,(.tmp 14)),(3,2,(.tmp 15)),(5,1,(.const (.bool false))),(6,1,(n9 0)),(7,1,(n9 1))]),b9 17 (.load (some 2) (.tmp 4)),b9 18 (.build [(.int .i64 0),(.int .i64 0)] []),b9 19 (.build [(.string ⟨#[]⟩),(.int .i64 0),(.int .i64 0),(.int .i64 0),(.int .i64 0),(.bool false),(.int .i64 0),(.int .i64 0)] [(0,1,(.const (.string ⟨#[102]⟩))),(1,2,(.tmp 17)),(3,2,(.tmp 18)),(5,1,(.const (.bool true))),(6,1,(n9 2)),(7,1,(n9 1))]),b9 20 (.load (some 2) (.tmp 4)),b9 21 (.build [(.int .i64 0),(.int .i64 0)] []),b9 22 (.build [(.string ⟨#[]⟩),(.int .i64 0),(.int .i64 0),(.int .i64 0),(.int .i64 0),(.bool false),(.int .i64 0),(.int .i64 0)] [(0,1,(.const (.string ⟨#[108]⟩))),(1,2,(.tmp 20)),(3,2,(.tmp 21)),(5,1,(.const (.bool true))),(6,1,(n9 2)),(7,1,(n9 1))]),b9 23 (.load (some 2) (.tmp 4)),b9 24 (.build [(.int .i64 0),(.int .i64 0)] []),b9 25 (.build [(.string ⟨#[]⟩),(.int .i64 0),(.int .i64 0),(.int .i64 0),(.int .i64 0),(.bool false),(.int .i64 0),(.int .i64 0)] [(0,1,(.const (.string ⟨#[109]⟩))),(1,2,(.tmp 23)),(3,2,(.tmp 24)),(5,1,(.const (.bool true))),(6,1,(n9 1)),(7,1,(n9 2))]),b9 26 (.load (some 2) (.tmp 5)),b9 27 (.load (some 2) (.tmp 5)),b9 28 (.build [(.string ⟨#[]⟩),(.int .i64 0),(.int .i64 0),(.int .i64 0),(.int .i64 0),(.bool false),(.int .i64 0),(.int .i64 0)] [(0,1,(.const (.string ⟨#[120]⟩))),(1,2,(.tmp 26)),(3,2,(.tmp 27)),(5,1,(.const (.bool true))),(6,1,(n9 3)),(7,1,(n9 3))]),b9 29 (.load (some 2) (.tmp 5)),
  b9 30 (.load (some 2) (.tmp 5)),b9 31 (.build [(.string ⟨#[]⟩),(.int .i64 0),(.int .i64 0),(.int .i64 0),(.int .i64 0),(.bool false),(.int .i64 0),(.int .i64 0)] [(0,1,(.const (.string ⟨#[121]⟩))),(1,2,(.tmp 29)),(3,2,(.tmp 30)),(5,1,(.const (.bool true))),(6,1,(n9 3)),(7,1,(n9 3))]),b9 32 (.build [(.int .i64 0),(.int .i64 0)] []),b9 33 (.build [(.int .i64 0),(.int .i64 0)] []),b9 34 (.build [(.string ⟨#[]⟩),(.int .i64 0),(.int .i64 0),(.int .i64 0),(.int .i64 0),(.bool false),(.int .i64 0),(.int .i64 0)] [(0,1,(.const (.string ⟨#[115]⟩))),(1,2,(.tmp 32)),(3,2,(.tmp 33)),(5,1,(.const (.bool true))),(6,1,(n9 1)),(7,1,(n9 1))]),b9 35 (.load (some 2) (.tmp 6)),b9 36 (.build [(.int .i64 0),(.int .i64 0)] []),b9 37 (.build [(.string ⟨#[]⟩),(.int .i64 0),(.int .i64 0),(.int .i64 0),(.int .i64 0),(.bool false),(.int .i64 0),(.int .i64 0)] [(0,1,(.const (.string ⟨#[]⟩))),(1,2,(.tmp 35)),(3,2,(.tmp 36)),(5,1,(.const (.bool false))),(6,1,(n9 0)),(7,1,(n9 2))]),b9 38 (.load (some 2) (.tmp 6)),b9 39 (.build [(.int .i64 0),(.int .i64 0)] []),b9 40 (.build [(.string ⟨#[]⟩),(.int .i64 0),(.int .i64 0),(.int .i64 0),(.int .i64 0),(.bool false),(.int .i64 0),(.int .i64 0)] [(0,1,(.const (.string ⟨#[111]⟩))),(1,2,(.tmp 38)),(3,2,(.tmp 39)),(5,1,(.const (.bool true))),(6,1,(n9 2)),(7,1,(n9 0))]),b9 41 (.mkRow 110 8 10 [(.string ⟨#[]⟩),(.int .i64 0),(.int .i64 0),(.int .i64 0),(.int .i64 0),(.bool false),(.int .i64 0),(.int .i64 0)] [(0,8,(.tmp 13)),(8,8,(.tmp 16)),(16,8,(.tmp 19)),(24,8,(.tmp 22)),(32,8,(.tmp 25)),(40,8,(.tmp 28)),(48,8,(.tmp 31)),(56,8,(.tmp 34)),(64,8,(.tmp 37)),(72,8,(.tmp 40))]),a7 7 41] [0,2,7]) (.seq (.seq (.ops [a7 42 0,n6 43 42 .lss (H8 1),a7 44 43,z1 45 44 (.mov (.tmp 0)),z1 46 44 (.convI .i64 (.tmp 45)),z1 47 44 (.mov (.tmp 7)),z1 48 44 (.len false (.tmp 47)),z1 49 44 (.bin .gtr (.tmp 46) (.tmp 48)),b9 50 (.pick (.tmp 44) (.const (.bool true)) (.tmp 49))] [0,2,7,50]) (.cond (.tmp 50) (.seq (.ops [b9 51 (.build [(.string ⟨#[]⟩),(.int .i64 0),(.int .i64 0),(.int .i64 0),(.int .i64 0),(.bool false),(.int .i64 0),(.int .i64 0)] []),⟨none,none,.store 8 (.tmp 2) (.tmp 51)⟩,b9 3 (.mov (.const (.bool false)))] [2,3]) (.ret)) (.skip))) (.seq (.ops [a7 52 7,a7 53 0,n6 54 53 .sub (H8 1),b9 55 (.idxS 8 (.tmp 52) (.tmp 54)),b9 56 (.load (some 8) (.tmp 55)),⟨none,none,.store 8 (.tmp 2) (.tmp 56)⟩,b9 3 (.mov (.const (.bool true)))] [2,3]) (.ret)))))),57,[(2,(some (some 8))),(3,none)],true⟩
theorem cP6:p6 Tryd.prog 70 c70:= .code ⟨Tryd.f70,_,c70.code,Tryd.func70,rfl,by kernel_rfl,rfl,by kernel_rfl,by kernel_rfl⟩
/- raddle/stitch.within -/
def c71:p7:=⟨.seq (.ops [b9 3 (.box 108 (.tmp 1)),b9 4 (.mov (.const (.bool false)))] [0,3]) (.seq (.ops [a7 5 0,b9 6 (.idxA 2 1 (.tmp 3) (n9 0)),I1 7 6,n6 8 5 .geq (.tmp 7),a7 9 8,r9 10 9 (.mov (.tmp 0)),r9 11 9 (.idxA 2 1 (.tmp 3) (n9 1)),r9 12 9 (.load none (.tmp 11)),r9 13 9 (.bin .leq (.tmp 10) (.tmp 12)),b9 14 (.pick (.tmp 9) (.tmp 13) (.const (.bool false))),a7 4 14] [4]) (.ret)),15,[(4,none)],true⟩
theorem cP7:p6 Tryd.prog 71 c71:= .code ⟨Tryd.f71,_,c71.code,Tryd.func71,rfl,by kernel_rfl,rfl,by kernel_rfl,by kernel_rfl⟩
/- raddle/stitch.loops -/
def c72:p7:=⟨.seq (.ops [b9 2 (.box 48 (.tmp 0)),C4 4 0] [1,2]) (.seq (.ops [K2 5 2 2,I1 6 5,K2 7 2 2,I1 8 7,K2 9 3 2,I1 10 9,n6 11 8 .add (.tmp 10),b9 12 (.build [(.int .i64 0),(.int .i64 0),(.int .i64 0),(.int .i64 0)] [(0,1,(n9 0)),(1,1,(n9 1)),(2,1,(.tmp 6)),(3,1,(.tmp 11))]),a7 13 1,b9 14 (.idxV 4 1 none (.tmp 12) (.tmp 13)),a7 4 14] [4]) (.ret)),15,[(4,none)],true⟩
theorem cP8:p6 Tryd.prog 72 c72:= .code ⟨Tryd.f72,_,c72.code,Tryd.func72,rfl,by kernel_rfl,rfl,by kernel_rfl,by kernel_rfl⟩
/- raddle/raddleref25.Used -/
def c75:p7:=⟨.seq (.ops [b9 1 (.box 48 (.tmp 0)),C4 2 0] [1]) (.seq (.seq (.ops [K2 3 0 1,I1 4 3] [1,4]) (.block 0 (.seq (.seq (.ops [n6 6 4 .eql (H8 2),a7 5 6] [1,4,5]) (.cond (.tmp 5) (.skip) (.ops [n6 7 4 .eql (H8 9),a7 5 7] [1,4,5]))) (.cond (.tmp 5) (.seq (.ops [C4 2 0] [2]) (.ret)) (.seq (.seq (.ops [n6 9 4 .eql (H8 3),a7 8 9] [1,4,8]) (.cond (.tmp 8) (.skip) (.seq (.ops [n6 10 4 .eql (H8 4),a7 8 10] [1,4,8]) (.cond (.tmp 8) (.skip) (.ops [n6 11 4 .eql (H8 10),a7 8 11] [1,4,8]))))) (.cond (.tmp 8) (.seq (.ops [K2 12 2 1,I1 13 12,a7 2 13] [2]) (.ret)) (.seq (.seq (.ops [n6 15 4 .eql (H8 6),a7 14 15] [1,4,14]) (.cond (.tmp 14) (.skip) (.ops [n6 16 4 .eql (H8 7),a7 14 16] [1,14]))) (.cond (.tmp 14) (.seq (.ops [K2 17 2 1,I1 18 17,K2 19 3 1,I1 20 19,n6 21 18 .add (.tmp 20),a7 2 21] [2]) (.ret)) (.skip))))))))) (.seq (.ops [C4 2 1] [2]) (.ret))),22,[(2,none)],true⟩
theorem cP9:p6 Tryd.prog 75 c75:= .code ⟨Tryd.f75,_,c75.code,Tryd.func75,rfl,by kernel_rfl,rfl,by kernel_rfl,by kernel_rfl⟩
/- raddle/raddleref25.Gives -/
def c76:p7:=⟨.seq (.ops [b9 1 (.box 48 (.tmp 0)),C4 2 0] [1]) (.seq (.seq (.ops [K2 3 0 1,I1 4 3] [1,4]) (.block 0 (.seq (.ops [n6 6 4 .eql (H8 10),a7 5 6] [1,4,5]) (.cond (.tmp 5) (.seq (.ops [C4 2 0] [2]) (.ret)) (.seq (.seq (.ops [n6 8 4 .eql (H8 5),a7 7 8] [1,4,7]) (.cond (.tmp 7) (.skip) (.ops [n6 9 4 .eql (H8 9),a7 7 9] [1,4,7]))) (.cond (.tmp 7) (.seq (.ops [K2 10 2 1,I1 11 10,a7 2 11] [2]) (.ret)) (.seq (.seq (.ops [n6 13 4 .eql (H8 6),a7 12 13] [1,4,12]) (.cond (.tmp 12) (.skip) (.ops [n6 14 4 .eql (H8 7),a7 12 14] [1,12]))) (.cond (.tmp 12) (.seq (.ops [K2 15 2 1,I1 16 15,K2 17 3 1,I1 18 17,n6 19 16 .add (.tmp 18),a7 2 19] [2]) (.ret)) (.skip))))))))) (.seq (.ops [C4 2 1] [2]) (.ret))),20,[(2,none)],true⟩
theorem cQ0:p6 Tryd.prog 76 c76:= .code ⟨Tryd.f76,_,c76.code,Tryd.func76,rfl,by kernel_rfl,rfl,by kernel_rfl,by kernel_rfl⟩
/- strings.explode -/
def cC7:AC:= .seq (.seq (.ops [a7 22 7,a7 23 1,n6 24 23 .sub (n9 1),n6 25 22 .lss (.tmp 24)] [0,1,6,7,25]) (.cond (.tmp 25) (.skip) (.exit 0))) (.seq (.block 1 (.seq (.ops [a7 29 0,P5 30 92 29,a7 28 30,G8 31 28 0,G8 32 28 1,a7 8 31,a7 9 32] [0,1,6,7,9]) (.seq (.ops [a7 33 6,a7 34 7,a7 35 0,a7 36 9,b9 37 (.slcS (.tmp 35) none (some (.tmp 36))),b9 38 (.idxS 1 (.tmp 33) (.tmp 34)),⟨none,none,.store 1 (.tmp 38) (.tmp 37)⟩] [0,1,6,7,9]) (.ops [a7 39 0,a7 40 9,b9 41 (.slcS (.tmp 39) (some (.tmp 40)) none),a7 0 41] [0,1,6,7])))) (.ops [a7 26 7,n6 27 26 .add (n9 1),a7 7 27] [0,1,6,7]))
def c79:p7:=⟨.seq (.ops [b9 4 (.mov (.const (.slice none 0 0)))] [0,1]) (.seq (.ops [a7 10 0,P5 11 95 10,a7 5 11] [0,1,5]) (.seq (.seq (.ops [a7 12 1,n6 13 12 .lss (n9 0),a7 14 13,z1 15 14 (.mov (.tmp 1)),z1 16 14 (.mov (.tmp 5)),z1 17 14 (.bin .gtr (.tmp 15) (.tmp 16)),b9 18 (.pick (.tmp 14) (.const (.bool true)) (.tmp 17))] [0,1,5,18]) (.cond (.tmp 18) (.ops [a7 19 5,a7 1 19] [0,1]) (.skip))) (.seq (.ops [a7 20 1,b9 21 (.mkSlice 9 1 16 [(.string ⟨#[]⟩)] (.tmp 20) (.tmp 20)),a7 6 21] [0,1,6]) (.seq (.seq (.ops [C4 7 0] [0,1,6,7]) (.block 0 (.loop [0,1,6,7] cC7))) (.seq (.seq (.ops [a7 42 1,n6 43 42 .gtr (n9 0)] [0,1,6,43]) (.cond (.tmp 43) (.ops [a7 44 6,a7 45 1,n6 46 45 .sub (n9 1),a7 47 0,b9 48 (.idxS 1 (.tmp 44) (.tmp 46)),⟨none,none,.store 1 (.tmp 48) (.tmp 47)⟩] [6]) (.skip))) (.seq (.ops [a7 49 6,a7 4 49] [4]) (.ret))))))),50,[(4,none)],true⟩
theorem cQ1:p6 Tryd.prog 79 c79:= .code ⟨Tryd.f79,_,c79.code,Tryd.func79,rfl,by kernel_rfl,rfl,by kernel_rfl,by kernel_rfl⟩
/- raddle/n4.side -/
def c82:p7:=⟨.seq (.ops [b9 2 (.mov (.const (.string ⟨#[]⟩)))] [0]) (.seq (.seq (.ops [a7 3 0] [3]) (.cond (.tmp 3) (.seq (.ops [b9 2 (.mov (.const (.string ⟨#[112,117,114,108]⟩)))] [2]) (.ret)) (.skip))) (.seq (.ops [b9 2 (.mov (.const (.string ⟨#[107,110,105,116]⟩)))] [2]) (.ret))),4,[(2,none)],true⟩
theorem cQ2:p6 Tryd.prog 82 c82:= .code ⟨Tryd.f82,_,c82.code,Tryd.func82,rfl,by kernel_rfl,rfl,by kernel_rfl,by kernel_rfl⟩
/- internal/stringslite.TrimPrefix -/
def c83:p7:=⟨.seq (.ops [b9 4 (.mov (.const (.string ⟨#[]⟩)))] [0,1]) (.seq (.seq (.ops [a7 5 0,a7 6 1,b9 7 (.callF 88 [(.tmp 5),(.tmp 6)])] [0,1,7]) (.cond (.tmp 7) (.seq (.ops [a7 8 0,a7 9 1,b9 10 (.len true (.tmp 9)),b9 11 (.slcS (.tmp 8) (some (.tmp 10)) none),a7 4 11] [4]) (.ret)) (.skip))) (.seq (.ops [a7 12 0,a7 4 12] [4]) (.ret))),13,[(4,none)],true⟩
theorem cQ3:p6 Tryd.prog 83 c83:= .code ⟨Tryd.f83,_,c83.code,Tryd.func83,rfl,by kernel_rfl,rfl,by kernel_rfl,by kernel_rfl⟩
/- raddle/raddleref25.Cut -/
def LR:AC:= .seq (.seq (.ops [a7 8 7,a7 9 0,b9 10 (.len true (.tmp 9)),n6 11 8 .leq (.tmp 10)] [0,1,5,6,7,11]) (.cond (.tmp 11) (.skip) (.exit 0))) (.seq (.block 1 (.seq (.ops [a7 14 7,a7 15 0,b9 16 (.len true (.tmp 15)),n6 17 14 .eql (.tmp 16),a7 18 17,z1 19 18 (.mov (.tmp 0)),z1 20 18 (.mov (.tmp 7)),z1 21 18 (.idxStr (.tmp 19) (.tmp 20)),z1 22 18 (.mov (.tmp 1)),z1 23 18 (.bin .eql (.tmp 21) (.tmp 22)),b9 24 (.pick (.tmp 18) (.const (.bool true)) (.tmp 23))] [0,1,5,6,7,24]) (.cond (.tmp 24) (.seq (.ops [a7 25 5,a7 26 0,a7 27 6,a7 28 7,b9 29 (.slcS (.tmp 26) (some (.tmp 27)) (some (.tmp 28))),b9 30 (.mkRow 9 1 1 [(.string ⟨#[]⟩)] [(0,1,(.tmp 29))]),b9 31 (.app 9 1 16 (.tmp 25) (.tmp 30)),a7 5 31] [0,1,5,7]) (.ops [a7 32 7,n6 33 32 .add (n9 1),a7 6 33] [0,1,5,6,7])) (.skip)))) (.ops [a7 12 7,n6 13 12 .add (n9 1),a7 7 13] [0,1,5,6,7]))
def c84:p7:=⟨.seq (.ops [b9 4 (.mov (.const (.slice none 0 0)))] [0,1]) (.seq (.ops [b9 5 (.mov (.const (.slice none 0 0)))] [0,1,5]) (.seq (.ops [C4 6 0] [0,1,5,6]) (.seq (.seq (.ops [C4 7 0] [0,1,5,6,7]) (.block 0 (.loop [0,1,5,6,7] LR))) (.seq (.ops [a7 34 5,a7 4 34] [4]) (.ret))))),35,[(4,none)],true⟩
theorem cQ4:p6 Tryd.prog 84 c84:= .code ⟨Tryd.f84,_,c84.code,Tryd.func84,rfl,by kernel_rfl,rfl,by kernel_rfl,by kernel_rfl⟩
/- raddle/raddleref25.Number -/
def WY:AC:= .seq (.seq (.ops [a7 24 5,a7 25 0,b9 26 (.len true (.tmp 25)),n6 27 24 .lss (.tmp 26)] [0,4,5,27]) (.cond (.tmp 27) (.skip) (.exit 0))) (.seq (.block 1 (.seq (.seq (.ops [a7 30 0,a7 31 5,b9 32 (.idxStr (.tmp 30) (.tmp 31)),n6 33 32 .lss (H8 48),a7 34 33,z1 35 34 (.mov (.tmp 0)),z1 36 34 (.mov (.tmp 5)),z1 37 34 (.idxStr (.tmp 35) (.tmp 36)),z1 38 34 (.bin .gtr (.tmp 37) (H8 57)),b9 39 (.pick (.tmp 34) (.const (.bool true)) (.tmp 38))] [0,4,5,39]) (.cond (.tmp 39) (.seq (.ops [C4 2 0,b9 3 (.mov (.const (.bool false)))] [2,3]) (.ret)) (.skip))) (.ops [a7 40 4,b9 41 (.bin .mul (n9 10) (.tmp 40)),a7 42 0,a7 43 5,b9 44 (.idxStr (.tmp 42) (.tmp 43)),n6 45 44 .sub (H8 48),b9 46 (.convI .i64 (.tmp 45)),n6 47 41 .add (.tmp 46),a7 4 47] [0,4,5]))) (.ops [a7 28 5,n6 29 28 .add (n9 1),a7 5 29] [0,4,5]))
def c85:p7:=⟨.seq (.ops [C4 2 0,b9 3 (.mov (.const (.bool false)))] [0]) (.seq (.seq (.ops [a7 6 0,b9 7 (.len true (.tmp 6)),n6 8 7 .eql (n9 0),a7 9 8,z1 10 9 (.mov (.tmp 0)),z1 11 9 (.len true (.tmp 10)),z1 12 9 (.bin .gtr (.tmp 11) (n9 4)),b9 13 (.pick (.tmp 9) (.const (.bool true)) (.tmp 12)),a7 14 13,z1 15 14 (.mov (.tmp 0)),z1 16 14 (.len true (.tmp 15)),z1 17 14 (.bin .gtr (.tmp 16) (n9 1)),z1 18 14 (.mov (.tmp 17)),r9 19 18 (.mov (.tmp 0)),r9 20 18 (.idxStr (.tmp 19) (n9 0)),r9 21 18 (.bin .eql (.tmp 20) (H8 48)),z1 22 14 (.pick (.tmp 18) (.tmp 21) (.const (.bool false))),b9 23 (.pick (.tmp 14) (.const (.bool true)) (.tmp 22))] [0,23]) (.cond (.tmp 23) (.seq (.ops [C4 2 0,b9 3 (.mov (.const (.bool false)))] [2,3]) (.ret)) (.skip))) (.seq (.ops [C4 4 0] [0,4]) (.seq (.seq (.ops [C4 5 0] [0,4,5]) (.block 0 (.loop [0,4,5] WY))) (.seq (.ops [a7 48 4,a7 2 48,b9 3 (.mov (.const (.bool true)))] [2,3]) (.ret))))),49,[(2,none),(3,none)],true⟩
theorem cQ5:p6 Tryd.prog 85 c85:= .code ⟨Tryd.f85,_,c85.code,Tryd.func85,rfl,by kernel_rfl,rfl,by kernel_rfl,by kernel_rfl⟩
/- internal/stringslite.HasSuffix -/
def c87:p7:=⟨.seq (.ops [b9 4 (.mov (.const (.bool false)))] [0,1]) (.seq (.ops [a7 5 0,b9 6 (.len true (.tmp 5)),a7 7 1,b9 8 (.len true (.tmp 7)),n6 9 6 .geq (.tmp 8),a7 10 9,r9 11 10 (.mov (.tmp 0)),r9 12 10 (.mov (.tmp 0)),r9 13 10 (.len true (.tmp 12)),r9 14 10 (.mov (.tmp 1)),r9 15 10 (.len true (.tmp 14)),r9 16 10 (.bin .sub (.tmp 13) (.tmp 15)),r9 17 10 (.slcS (.tmp 11) (some (.tmp 16)) none),r9 18 10 (.mov (.tmp 1)),r9 19 10 (.bin .eql (.tmp 17) (.tmp 18)),b9 20 (.pick (.tmp 10) (.tmp 19) (.const (.bool false))),a7 4 20] [4]) (.ret)),21,[(4,none)],true⟩
theorem cQ6:p6 Tryd.prog 87 c87:= .code ⟨Tryd.f87,_,c87.code,Tryd.func87,rfl,by kernel_rfl,rfl,by kernel_rfl,by kernel_rfl⟩
/- internal/stringslite.HasPrefix -/
def c88:p7:=⟨.seq (.ops [b9 4 (.mov (.const (.bool false)))] [0,1]) (.seq (.ops [a7 5 0,b9 6 (.len true (.tmp 5)),a7 7 1,b9 8 (.len true (.tmp 7)),n6 9 6 .geq (.tmp 8),a7 10 9,r9 11 10 (.mov (.tmp 0)),r9 12 10 (.mov (.tmp 1)),r9 13 10 (.len true (.tmp 12)),r9 14 10 (.slcS (.tmp 11) none (some (.tmp 13))),r9 15 10 (.mov (.tmp 1)),r9 16 10 (.bin .eql (.tmp 14) (.tmp 15)),b9 17 (.pick (.tmp 10) (.tmp 16) (.const (.bool false))),a7 4 17] [4]) (.ret)),18,[(4,none)],true⟩
theorem cQ7:p6 Tryd.prog 88 c88:= .code ⟨Tryd.f88,_,c88.code,Tryd.func88,rfl,by kernel_rfl,rfl,by kernel_rfl,by kernel_rfl⟩
/- raddle/raddleref25.word -/
def LS:AC:= .seq (.seq (.ops [a7 66 10,a7 67 7,n6 68 66 .lss (.tmp 67),a7 69 68,r9 70 69 (.mov (.tmp 10)),r9 71 69 (.bin .lss (.tmp 70) (n9 300)),b9 72 (.pick (.tmp 69) (.tmp 71) (.const (.bool false)))] [6,7,9,10,72]) (.cond (.tmp 72) (.skip) (.exit 0))) (.seq (.block 1 (.ops [a7 75 9,b9 76 (.load (some 4) (.tmp 6)),b9 77 (.mkRow 48 4 1 [(.int .u8 0),(.bool false),(.int .i64 0),(.int .i64 0)] [(0,4,(.tmp 76))]),b9 78 (.app 48 4 24 (.tmp 75) (.tmp 77)),a7 9 78] [6,7,9,10])) (.ops [a7 73 10,n6 74 73 .add (n9 1),a7 10 74] [6,7,9,10]))
def c89:p7:=⟨.seq (.ops [b9 2 (.mov (.const (.slice none 0 0))),b9 3 (.mov (.const (.bool false)))] [0]) (.seq (.seq (.ops [a7 15 0,b9 16 (.bin .eql (.tmp 15) (.const (.string ⟨#[121,111]⟩)))] [0,16]) (.cond (.tmp 16) (.seq (.ops [b9 17 (.build [(.int .u8 0),(.bool false),(.int .i64 0),(.int .i64 0)] [(0,1,(H8 2))]),b9 18 (.mkRow 48 4 1 [(.int .u8 0),(.bool false),(.int .i64 0),(.int .i64 0)] [(0,4,(.tmp 17))]),a7 2 18,b9 3 (.mov (.const (.bool true)))] [2,3]) (.ret)) (.skip))) (.seq (.seq (.ops [a7 19 0,b9 20 (.len true (.tmp 19)),n6 21 20 .gtr (n9 2),a7 22 21,r9 23 22 (.mov (.tmp 0)),r9 24 22 (.slcS (.tmp 23) none (some (n9 2))),r9 25 22 (.bin .eql (.tmp 24) (.const (.string ⟨#[111,110]⟩))),b9 26 (.pick (.tmp 22) (.tmp 25) (.const (.bool false)))] [0,26]) (.cond (.tmp 26) (.seq (.ops [a7 28 0,b9 29 (.slcS (.tmp 28) (some (n9 2)) none),P5 30 85 29,a7 27 30,G8 31 27 0,G8 32 27 1,a7 4 31,a7 5 32] [4,5]) (.seq (.ops [a7 33 4,b9 34 (.build [(.int .u8 0),(.bool false),(.int .i64 0),(.int .i64 0)] [(0,1,(H8 9)),(2,1,(.tmp 33))]),b9 35 (.mkRow 48 4 1 [(.int .u8 0),(.bool false),(.int .i64 0),(.int .i64 0)] [(0,4,(.tmp 34))]),a7 36 5,a7 2 35,a7 3 36] [2,3]) (.ret))) (.skip))) (.seq (.seq (.ops [a7 37 0,b9 38 (.len true (.tmp 37)),n6 39 38 .eql (n9 0),a7 40 39,z1 41 40 (.mov (.tmp 0)),z1 42 40 (.idxStr (.tmp 41) (n9 0)),z1 43 40 (.bin .neq (.tmp 42) (H8 107)),z1 44 40 (.mov (.tmp 43)),r9 45 44 (.mov (.tmp 0)),r9 46 44 (.idxStr (.tmp 45) (n9 0)),r9 47 44 (.bin .neq (.tmp 46) (H8 112)),z1 48 40 (.pick (.tmp 44) (.tmp 47) (.const (.bool false))),b9 49 (.pick (.tmp 40) (.const (.bool true)) (.tmp 48))] [0,49]) (.cond (.tmp 49) (.seq (.ops [b9 2 (.mov (.const (.slice none 0 0))),b9 3 (.mov (.const (.bool false)))] [2,3]) (.ret)) (.skip))) (.seq (.ops [a7 50 0,b9 51 (.idxStr (.tmp 50) (n9 0)),n6 52 51 .eql (H8 112),b9 53 (.build [(.int .u8 0),(.bool false),(.int .i64 0),(.int .i64 0)] [(0,1,(H8 1)),(1,1,(.tmp 52))]),b9 6 (.alloc 48 [(1,(.int .u8 0)),(1,(.bool false)),(2,(.int .i64 0))]),⟨none,none,.store 4 (.tmp 6) (.tmp 53)⟩] [0,6]) (.seq (.seq (.ops [a7 54 0,b9 55 (.len true (.tmp 54)),n6 56 55 .eql (n9 1)] [0,6,56]) (.cond (.tmp 56) (.seq (.ops [b9 57 (.load (some 4) (.tmp 6)),b9 58 (.mkRow 48 4 1 [(.int .u8 0),(.bool false),(.int .i64 0),(.int .i64 0)] [(0,4,(.tmp 57))]),
  a7 2 58,b9 3 (.mov (.const (.bool true)))] [2,3]) (.ret)) (.skip))) (.seq (.seq (.ops [a7 60 0,b9 61 (.slcS (.tmp 60) (some (n9 1)) none),P5 62 85 61,a7 59 62,G8 63 59 0,G8 64 59 1,a7 7 63,a7 8 64] [0,6,7,8]) (.seq (.ops [a7 65 8] [0,6,7,65]) (.cond (.tmp 65) (.seq (.ops [b9 9 (.mov (.const (.slice none 0 0)))] [6,7,9]) (.seq (.seq (.ops [C4 10 0] [6,7,9,10]) (.block 0 (.loop [6,7,9,10] LS))) (.seq (.ops [a7 79 9,a7 80 7,n6 81 80 .gtr (n9 1),a7 2 79,a7 3 81] [2,3]) (.ret)))) (.skip)))) (.seq (.ops [a7 82 0,b9 83 (.idxStr (.tmp 82) (n9 1)),P5 84 102 83,K2 85 0 6,⟨none,none,.store 1 (.tmp 85) (.tmp 84)⟩] [0,6]) (.seq (.seq (.ops [K2 86 0 6,I1 87 86,n6 88 87 .eql (H8 8)] [0,6,88]) (.cond (.tmp 88) (.seq (.ops [b9 89 (.load (some 4) (.tmp 6)),b9 90 (.mkRow 48 4 1 [(.int .u8 0),(.bool false),(.int .i64 0),(.int .i64 0)] [(0,4,(.tmp 89))]),a7 91 0,b9 92 (.len true (.tmp 91)),n6 93 92 .eql (n9 2),a7 2 90,a7 3 93] [2,3]) (.ret)) (.skip))) (.seq (.ops [a7 94 0,b9 95 (.slcS (.tmp 94) (some (n9 2)) none),b9 96 (.callF 84 [(.tmp 95),(H8 47)]),a7 11 96] [6,11]) (.seq (.ops [K2 97 0 6,I1 98 97,n6 99 98 .neq (H8 0),a7 100 99,r9 101 100 (.mov (.tmp 11)),r9 102 100 (.len false (.tmp 101)),r9 103 100 (.bin .eql (.tmp 102) (n9 1)),b9 104 (.pick (.tmp 100) (.tmp 103) (.const (.bool false))),a7 12 104] [6,11,12]) (.seq (.seq (.ops [K2 105 0 6,I1 106 105,n6 107 106 .eql (H8 6),a7 108 107,z1 109 108 (.fldA 0 (.tmp 6)),z1 110 108 (.load none (.tmp 109)),z1 111 108 (.bin .eql (.tmp 110) (H8 7)),b9 112 (.pick (.tmp 108) (.const (.bool true)) (.tmp 111))] [6,11,12,112]) (.cond (.tmp 112) (.seq (.ops [a7 113 11,b9 114 (.len false (.tmp 113)),n6 115 114 .eql (n9 2),a7 12 115] [6,11,12]) (.seq (.ops [a7 116 12] [6,11,12,116]) (.cond (.tmp 116) (.ops [a7 118 11,b9 119 (.idxS 1 (.tmp 118) (n9 1)),I1 120 119,P5 121 85 120,a7 117 121,G8 122 117 0,G8 123 117 1,K2 124 3 6,⟨none,none,.store 1 (.tmp 124) (.tmp 122)⟩,a7 12 123] [6,11,12]) (.skip)))) (.skip))) (.seq (.ops [a7 126 11,
  b9 127 (.idxS 1 (.tmp 126) (n9 0)),I1 128 127,P5 129 85 128,a7 125 129,G8 130 125 0,G8 131 125 1,a7 13 130,a7 14 131] [6,12,13,14]) (.seq (.ops [a7 132 13,K2 133 2 6,⟨none,none,.store 1 (.tmp 133) (.tmp 132)⟩] [6,12,14]) (.seq (.ops [b9 134 (.load (some 4) (.tmp 6)),b9 135 (.mkRow 48 4 1 [(.int .u8 0),(.bool false),(.int .i64 0),(.int .i64 0)] [(0,4,(.tmp 134))]),a7 136 12,a7 137 136,r9 138 137 (.mov (.tmp 14)),b9 139 (.pick (.tmp 137) (.tmp 138) (.const (.bool false))),a7 2 135,a7 3 139] [2,3]) (.ret))))))))))))))),140,[(2,none),(3,none)],true⟩
theorem cQ8:p6 Tryd.prog 89 c89:= .code ⟨Tryd.f89,_,c89.code,Tryd.func89,rfl,by kernel_rfl,rfl,by kernel_rfl,by kernel_rfl⟩
/- raddle/raddleref25.Written -/
def CH:AC:= .seq (.seq (.draw [a7 23 0,a7 24 4,b9 25 (.idxS 4 (.tmp 23) (.tmp 24)),K2 26 0 25,I1 27 26,n6 28 27 .eql (H8 1),a7 29 28,r9 30 29 (.mov (.tmp 4)),r9 31 29 (.bin .add (.tmp 30) (n9 1)),r9 32 29 (.mov (.tmp 0)),r9 33 29 (.len false (.tmp 32)),r9 34 29 (.bin .lss (.tmp 31) (.tmp 33)),b9 35 (.pick (.tmp 29) (.tmp 34) (.const (.bool false))),a7 36 35,r9 37 36 (.mov (.tmp 0)),r9 38 36 (.mov (.tmp 4)),r9 39 36 (.bin .add (.tmp 38) (n9 1)),r9 40 36 (.idxS 4 (.tmp 37) (.tmp 39)),r9 41 36 (.load (some 4) (.tmp 40)),r9 42 36 (.mov (.tmp 0)),r9 43 36 (.mov (.tmp 4)),r9 44 36 (.idxS 4 (.tmp 42) (.tmp 43)),r9 45 36 (.load (some 4) (.tmp 44))] [r9 46 36 (.eqAgg false [(0,0),(1,2),(2,0),(3,0)] (.tmp 41) (.tmp 45)),b9 47 (.pick (.tmp 36) (.tmp 46) (.const (.bool false)))] [[],[],[],[],[],[],[],[],[],[],[],[],[],[],[],[],[],[],[],[],[],[],[]] [0,3,4,5,47]) (.cond (.tmp 47) (.skip) (.exit 2))) (.block 3 (.seq (.ops [a7 48 4,n6 49 48 .add (n9 1),a7 4 49] [0,3,4,5]) (.ops [a7 50 5,n6 51 50 .add (n9 1),a7 5 51] [0,3,4,5])))
def CI:AC:= .seq (.seq (.ops [a7 6 4,a7 7 0,b9 8 (.len false (.tmp 7)),n6 9 6 .lss (.tmp 8)] [0,3,4,9]) (.cond (.tmp 9) (.skip) (.exit 0))) (.seq (.block 1 (.seq (.seq (.ops [a7 12 4,n6 13 12 .gtr (n9 0)] [0,3,4,13]) (.cond (.tmp 13) (.ops [a7 14 3,b9 15 (.bin .add (.tmp 14) (.const (.string ⟨#[32]⟩))),a7 3 15] [0,3,4]) (.skip))) (.seq (.ops [a7 16 3,a7 17 0,a7 18 4,b9 19 (.idxS 4 (.tmp 17) (.tmp 18)),b9 20 (.load (some 4) (.tmp 19)),P5 21 103 20,n6 22 16 .add (.tmp 21),a7 3 22] [0,3,4]) (.seq (.ops [C4 5 1] [0,3,4,5]) (.seq (.block 2 (.loop [0,3,4,5] CH)) (.seq (.ops [a7 52 5,n6 53 52 .gtr (n9 1)] [0,3,4,5,53]) (.cond (.tmp 53) (.ops [a7 54 3,a7 55 5,P5 56 64 55,n6 57 54 .add (.tmp 56),a7 3 57] [0,3,4]) (.skip)))))))) (.ops [a7 10 4,n6 11 10 .add (n9 1),a7 4 11] [0,3,4]))
def c90:p7:=⟨.seq (.ops [b9 2 (.mov (.const (.string ⟨#[]⟩)))] [0]) (.seq (.ops [b9 3 (.mov (.const (.string ⟨#[]⟩)))] [0,3]) (.seq (.seq (.ops [C4 4 0] [0,3,4]) (.block 0 (.loop [0,3,4] CI))) (.seq (.ops [a7 58 3,a7 2 58] [2]) (.ret)))),59,[(2,none)],true⟩
theorem cQ9:p6 Tryd.prog 90 c90:= .code ⟨Tryd.f90,_,c90.code,Tryd.func90,rfl,by kernel_rfl,rfl,by kernel_rfl,by kernel_rfl⟩
/- unicode/utf8.DecodeRuneInString -/
def c92:p7:=⟨.seq (.ops [b9 2 (.mov (.const (.int .i32 0))),C4 3 0] [0]) (.seq (.seq (.ops [a7 4 0,b9 5 (.bin .neq (.tmp 4) (.const (.string ⟨#[]⟩))),a7 6 5,r9 7 6 (.mov (.tmp 0)),r9 8 6 (.idxStr (.tmp 7) (n9 0)),r9 9 6 (.bin .lss (.tmp 8) (H8 128)),b9 10 (.pick (.tmp 6) (.tmp 9) (.const (.bool false)))] [0,10]) (.cond (.tmp 10) (.seq (.ops [a7 11 0,b9 12 (.idxStr (.tmp 11) (n9 0)),b9 13 (.convI .i32 (.tmp 12)),a7 2 13,C4 3 1] [2,3]) (.ret)) (.ops [a7 15 0,P5 16 104 15,a7 14 16,G8 17 14 0,G8 18 14 1,a7 2 17,a7 3 18] [2,3]))) (.ret)),19,[(2,none),(3,none)],true⟩
theorem cR0:p6 Tryd.prog 92 c92:= .code ⟨Tryd.f92,_,c92.code,Tryd.func92,rfl,by kernel_rfl,rfl,by kernel_rfl,by kernel_rfl⟩
/- unicode/utf8.RuneCountInString -/
def cC9:AC:= .seq (.ops [b9 5 (.nextS (.tmp 4)),G8 6 5 0] [2,4,6]) (.seq (.cond (.tmp 6) (.skip) (.exit 0)) (.block 1 (.ops [a7 7 2,n6 8 7 .add (n9 1),a7 2 8] [2,4])))
def c95:p7:=⟨.seq (.ops [C4 2 0] [0,2]) (.seq (.seq (.ops [a7 3 0,b9 4 (.rangeS (.tmp 3))] [2,4]) (.block 0 (.loop [2,4] cC9))) (.seq (.ops [a7 9 2,a7 2 9] [2]) (.ret))),10,[(2,none)],true⟩
theorem cR1:p6 Tryd.prog 95 c95:= .code ⟨Tryd.f95,_,c95.code,Tryd.func95,rfl,by kernel_rfl,rfl,by kernel_rfl,by kernel_rfl⟩
/- raddle/raddleref25.kind -/
def HS:AC:= .seq (.seq (.ops [a7 7 5,a7 8 3,b9 9 (.len true (.tmp 8)),n6 10 7 .lss (.tmp 9)] [0,3,4,5,10]) (.cond (.tmp 10) (.skip) (.exit 0))) (.seq (.block 1 (.seq (.ops [a7 13 3,a7 14 5,b9 15 (.idxStr (.tmp 13) (.tmp 14)),a7 16 0,n6 17 15 .eql (.tmp 16)] [0,3,4,5,17]) (.cond (.tmp 17) (.seq (.ops [a7 18 4,a7 19 5,b9 20 (.idxS 1 (.tmp 18) (.tmp 19)),I1 21 20,a7 2 21] [2]) (.ret)) (.skip)))) (.ops [a7 11 5,n6 12 11 .add (n9 1),a7 5 12] [0,3,4,5]))
def bF3:p7:=⟨.seq (.ops [b9 2 (.mov (H8 0))] [0]) (.seq (.ops [b9 3 (.mov (.const (.string ⟨#[102,108,109,120,121,115,111]⟩)))] [0,3]) (.seq (.ops [b9 6 (.mkRow 5 1 7 [(.int .u8 0)] [(0,1,(H8 3)),(1,1,(H8 4)),(2,1,(H8 5)),(3,1,(H8 6)),(4,1,(H8 7)),(5,1,(H8 8)),(6,1,(H8 10))]),a7 4 6] [0,3,4]) (.seq (.seq (.ops [C4 5 0] [0,3,4,5]) (.block 0 (.loop [0,3,4,5] HS))) (.seq (.ops [b9 2 (.mov (H8 0))] [2]) (.ret))))),22,[(2,none)],true⟩
theorem cE3:p6 Tryd.prog 102 bF3:= .code ⟨Tryd.f102,_,bF3.code,Tryd.func102,rfl,by kernel_rfl,rfl,by kernel_rfl,by kernel_rfl⟩
/- raddle/raddleref25.one -/
def aD1:p7:=⟨.seq (.ops [b9 1 (.box 48 (.tmp 0)),b9 2 (.mov (.const (.string ⟨#[]⟩)))] [1]) (.seq (.ops [b9 3 (.mov (.const (.string ⟨#[107]⟩)))] [1,3]) (.seq (.seq (.ops [K2 4 1 1,I1 5 4] [1,3,5]) (.cond (.tmp 5) (.ops [b9 3 (.mov (.const (.string ⟨#[112]⟩)))] [1,3]) (.skip))) (.seq (.seq (.ops [K2 6 0 1,I1 7 6] [1,3,7]) (.block 0 (.seq (.ops [n6 9 7 .eql (H8 1),a7 8 9] [1,3,7,8]) (.cond (.tmp 8) (.seq (.ops [a7 10 3,a7 2 10] [2]) (.ret)) (.seq (.ops [n6 12 7 .eql (H8 2),a7 11 12] [1,3,7,11]) (.cond (.tmp 11) (.seq (.ops [b9 2 (.mov (.const (.string ⟨#[121,111]⟩)))] [2]) (.ret)) (.seq (.ops [n6 14 7 .eql (H8 3),a7 13 14] [1,3,7,13]) (.cond (.tmp 13) (.seq (.ops [a7 15 3,b9 16 (.bin .add (.tmp 15) (.const (.string ⟨#[102]⟩))),K2 17 2 1,I1 18 17,P5 19 64 18,n6 20 16 .add (.tmp 19),a7 2 20] [2]) (.ret)) (.seq (.ops [n6 22 7 .eql (H8 4),a7 21 22] [1,3,7,21]) (.cond (.tmp 21) (.seq (.ops [a7 23 3,b9 24 (.bin .add (.tmp 23) (.const (.string ⟨#[108]⟩))),K2 25 2 1,I1 26 25,P5 27 64 26,n6 28 24 .add (.tmp 27),a7 2 28] [2]) (.ret)) (.seq (.ops [n6 30 7 .eql (H8 5),a7 29 30] [1,3,7,29]) (.cond (.tmp 29) (.seq (.ops [a7 31 3,b9 32 (.bin .add (.tmp 31) (.const (.string ⟨#[109]⟩))),K2 33 2 1,I1 34 33,P5 35 64 34,n6 36 32 .add (.tmp 35),a7 2 36] [2]) (.ret)) (.seq (.ops [n6 38 7 .eql (H8 6),a7 37 38] [1,3,7,37]) (.cond (.tmp 37) (.seq (.draw [a7 39 3,b9 40 (.bin .add (.tmp 39) (.const (.string ⟨#[120]⟩))),K2 41 2 1,I1 42 41,P5 43 64 42,n6 44 40 .add (.tmp 43),b9 45 (.bin .add (.tmp 44) (.const (.string ⟨#[47]⟩))),K2 46 3 1,I1 47 46,P5 48 64 47] [n6 49 45 .add (.tmp 48),a7 2 49] [[],[],[],[],[],[],[],[false,false,false,false,false,false,false],[true,false,false,false,false,false,false,false],[]] [2]) (.ret)) (.seq (.ops [n6 51 7 .eql (H8 7),a7 50 51] [1,3,7,50]) (.cond (.tmp 50) (.seq (.draw [a7 52 3,b9 53 (.bin .add (.tmp 52) (.const (.string ⟨#[121]⟩))),K2 54 2 1,I1 55 54,P5 56 64 55,n6 57 53 .add (.tmp 56),b9 58 (.bin .add (.tmp 57) (.const (.string ⟨#[47]⟩))),K2 59 3 1,I1 60 59,P5 61 64 60] [n6 62 58 .add (.tmp 61),
  a7 2 62] [[],[],[],[],[],[],[],[false,false,false,false,false,false,false],[true,false,false,false,false,false,false,false],[]] [2]) (.ret)) (.seq (.ops [n6 64 7 .eql (H8 8),a7 63 64] [1,3,7,63]) (.cond (.tmp 63) (.seq (.ops [a7 65 3,b9 66 (.bin .add (.tmp 65) (.const (.string ⟨#[115]⟩))),a7 2 66] [2]) (.ret)) (.seq (.ops [n6 68 7 .eql (H8 9),a7 67 68] [1,3,67]) (.cond (.tmp 67) (.seq (.ops [K2 69 2 1,I1 70 69,P5 71 64 70,b9 72 (.bin .add (.const (.string ⟨#[111,110]⟩)) (.tmp 71)),a7 2 72] [2]) (.ret)) (.skip))))))))))))))))))))) (.seq (.ops [a7 73 3,b9 74 (.bin .add (.tmp 73) (.const (.string ⟨#[111]⟩))),K2 75 2 1,I1 76 75,P5 77 64 76,n6 78 74 .add (.tmp 77),a7 2 78] [2]) (.ret))))),79,[(2,none)],true⟩
theorem cE4:p6 Tryd.prog 103 aD1:= .code ⟨Tryd.f103,_,aD1.code,Tryd.func103,rfl,by kernel_rfl,rfl,by kernel_rfl,by kernel_rfl⟩
/- unicode/utf8.decodeRuneInStringSlow -/
def bR8:p7:=⟨.seq (.ops [b9 2 (.mov (.const (.int .i32 0))),C4 3 0] [0]) (.seq (.ops [a7 13 0,b9 14 (.len true (.tmp 13)),a7 4 14] [0,4]) (.seq (.seq (.ops [a7 15 4,n6 16 15 .lss (n9 1)] [0,4,16]) (.cond (.tmp 16) (.seq (.ops [b9 2 (.mov (.const (.int .i32 65533))),C4 3 0] [2,3]) (.ret)) (.skip))) (.seq (.ops [a7 17 0,b9 18 (.idxStr (.tmp 17) (n9 0)),a7 5 18] [0,4,5]) (.seq (.ops [a7 19 5,b9 20 (.idxA 256 1 (.global 2) (.tmp 19)),I1 21 20,a7 6 21] [0,4,5,6]) (.seq (.seq (.ops [a7 22 6,n6 23 22 .geq (H8 240)] [0,4,5,6,23]) (.cond (.tmp 23) (.seq (.ops [a7 24 6,b9 25 (.convI .i32 (.tmp 24)),b9 26 (.bin .shl (.tmp 25) (.const (.int .u64 31))),b9 27 (.bin .shr (.tmp 26) (.const (.int .u64 31))),a7 7 27] [0,7]) (.seq (.ops [a7 28 0,b9 29 (.idxStr (.tmp 28) (n9 0)),b9 30 (.convI .i32 (.tmp 29)),a7 31 7,n6 32 30 .andNot (.tmp 31),a7 33 7,b9 34 (.bin .and (.const (.int .i32 65533)) (.tmp 33)),n6 35 32 .or (.tmp 34),a7 2 35,C4 3 1] [2,3]) (.ret))) (.skip))) (.seq (.ops [a7 36 6,n6 37 36 .and (H8 7),b9 38 (.convI .i64 (.tmp 37)),a7 8 38] [0,4,5,6,8]) (.seq (.ops [a7 39 6,b9 40 (.bin .shr (.tmp 39) (.const (.int .u64 4))),b9 41 (.idxA 16 2 (.global 3) (.tmp 40)),b9 42 (.load (some 2) (.tmp 41)),b9 9 (.alloc 152 [(2,(.int .u8 0))]),⟨none,none,.store 2 (.tmp 9) (.tmp 42)⟩] [0,4,5,8,9]) (.seq (.seq (.ops [a7 43 4,a7 44 8,n6 45 43 .lss (.tmp 44)] [0,5,8,9,45]) (.cond (.tmp 45) (.seq (.ops [b9 2 (.mov (.const (.int .i32 65533))),C4 3 1] [2,3]) (.ret)) (.skip))) (.seq (.ops [a7 46 0,b9 47 (.idxStr (.tmp 46) (n9 1)),a7 10 47] [0,5,8,9,10]) (.seq (.seq (.ops [a7 48 10,K2 49 0 9,I1 50 49,n6 51 48 .lss (.tmp 50),a7 52 51,z1 53 52 (.fldA 1 (.tmp 9)),z1 54 52 (.load none (.tmp 53)),z1 55 52 (.mov (.tmp 10)),z1 56 52 (.bin .lss (.tmp 54) (.tmp 55)),b9 57 (.pick (.tmp 52) (.const (.bool true)) (.tmp 56))] [0,5,8,10,57]) (.cond (.tmp 57) (.seq (.ops [b9 2 (.mov (.const (.int .i32 65533))),C4 3 1] [2,3]) (.ret)) (.skip))) (.seq (.seq (.ops [a7 58 8,n6 59 58 .leq (n9 2)] [0,5,8,10,59]) (.cond (.tmp 59) (.seq (.ops [a7 60 5,n6 61 60 .and (H8 31),b9 62 (.convI .i32 (.tmp 61)),b9 63 (.bin .shl (.tmp 62) (.const (.int .u64 6))),a7 64 10,
  n6 65 64 .and (H8 63),b9 66 (.convI .i32 (.tmp 65)),n6 67 63 .or (.tmp 66),a7 2 67,C4 3 2] [2,3]) (.ret)) (.skip))) (.seq (.ops [a7 68 0,b9 69 (.idxStr (.tmp 68) (n9 2)),a7 11 69] [0,5,8,10,11]) (.seq (.seq (.ops [a7 70 11,n6 71 70 .lss (H8 128),a7 72 71,z1 73 72 (.mov (.tmp 11)),z1 74 72 (.bin .lss (H8 191) (.tmp 73)),b9 75 (.pick (.tmp 72) (.const (.bool true)) (.tmp 74))] [0,5,8,10,11,75]) (.cond (.tmp 75) (.seq (.ops [b9 2 (.mov (.const (.int .i32 65533))),C4 3 1] [2,3]) (.ret)) (.skip))) (.seq (.seq (.ops [a7 76 8,n6 77 76 .leq (n9 3)] [0,5,10,11,77]) (.cond (.tmp 77) (.seq (.ops [a7 78 5,n6 79 78 .and (H8 15),b9 80 (.convI .i32 (.tmp 79)),b9 81 (.bin .shl (.tmp 80) (.const (.int .u64 12))),a7 82 10,n6 83 82 .and (H8 63),b9 84 (.convI .i32 (.tmp 83)),b9 85 (.bin .shl (.tmp 84) (.const (.int .u64 6))),n6 86 81 .or (.tmp 85),a7 87 11,n6 88 87 .and (H8 63),b9 89 (.convI .i32 (.tmp 88)),n6 90 86 .or (.tmp 89),a7 2 90,C4 3 3] [2,3]) (.ret)) (.skip))) (.seq (.ops [a7 91 0,b9 92 (.idxStr (.tmp 91) (n9 3)),a7 12 92] [5,10,11,12]) (.seq (.seq (.ops [a7 93 12,n6 94 93 .lss (H8 128),a7 95 94,z1 96 95 (.mov (.tmp 12)),z1 97 95 (.bin .lss (H8 191) (.tmp 96)),b9 98 (.pick (.tmp 95) (.const (.bool true)) (.tmp 97))] [5,10,11,12,98]) (.cond (.tmp 98) (.seq (.ops [b9 2 (.mov (.const (.int .i32 65533))),C4 3 1] [2,3]) (.ret)) (.skip))) (.seq (.ops [a7 99 5,n6 100 99 .and (H8 7),b9 101 (.convI .i32 (.tmp 100)),b9 102 (.bin .shl (.tmp 101) (.const (.int .u64 18))),a7 103 10,n6 104 103 .and (H8 63),b9 105 (.convI .i32 (.tmp 104)),b9 106 (.bin .shl (.tmp 105) (.const (.int .u64 12))),n6 107 102 .or (.tmp 106),a7 108 11,n6 109 108 .and (H8 63),b9 110 (.convI .i32 (.tmp 109)),b9 111 (.bin .shl (.tmp 110) (.const (.int .u64 6))),n6 112 107 .or (.tmp 111),a7 113 12,n6 114 113 .and (H8 63),b9 115 (.convI .i32 (.tmp 114)),n6 116 112 .or (.tmp 115),a7 2 116,C4 3 4] [2,3]) (.ret)))))))))))))))))),117,[(2,none),(3,none)],true⟩
theorem cE5:p6 Tryd.prog 104 bR8:= .code ⟨Tryd.f104,_,bR8.code,Tryd.func104,rfl,by kernel_rfl,rfl,by kernel_rfl,by kernel_rfl⟩
def fns:FuncId→Option p7
 |7=>some c7
 |9=>some c9
 |10=>some c10
 |12=>some c12
 |14=>some c14
 |15=>some c15
 |17=>some c17
 |19=>some c19
 |21=>some c21
 |22=>some c22
 |23=>some c23
 |24=>some c24
 |25=>some c25
 |26=>some c26
 |27=>some c27
 |28=>some c28
 |29=>some c29
 |31=>some c31
 |32=>some c32
 |36=>some c36
 |38=>some c38
 |39=>some c39
 |40=>some c40
 |42=>some c42
 |43=>some c43
 |44=>some c44
 |45=>some c45
 |46=>some c46
 |47=>some c47
 |48=>some c48
 |49=>some c49
 |50=>some c50
 |51=>some c51
 |53=>some c53
 |54=>some c54
 |56=>some c56
 |57=>some c57
 |58=>some c58
 |59=>some c59
 |64=>some c64
 |65=>some c65
 |66=>some c66
 |67=>some c67
 |68=>some c68
 |69=>some c69
 |70=>some c70
 |71=>some c71
 |72=>some c72
 |75=>some c75
 |76=>some c76
 |79=>some c79
 |82=>some c82
 |83=>some c83
 |84=>some c84
 |85=>some c85
 |87=>some c87
 |88=>some c88
 |89=>some c89
 |90=>some c90
 |92=>some c92
 |95=>some c95
 |102=>some bF3
 |103=>some aD1
 |104=>some bR8
 |_=>none
theorem bT1:HE Tryd.prog fns:=by
 intro f af h
 unfold fns at h
 split at h
 ·cases h;exact ok7
 ·cases h;exact ok9
 ·cases h;exact cL3
 ·cases h;exact cL4
 ·cases h;exact cL5
 ·cases h;exact cL6
 ·cases h;exact cL7
 ·cases h;exact cL8
 ·cases h;exact cL9
 ·cases h;exact cM0
 ·cases h;exact cM1
 ·cases h;exact cM2
 ·cases h;exact cM3
 ·cases h;exact cM4
 ·cases h;exact cM5
 ·cases h;exact cM6
 ·cases h;exact cM7
 ·cases h;exact cM8
 ·cases h;exact cM9
 ·cases h;exact cN0
 ·cases h;exact cN1
 ·cases h;exact cN2
 ·cases h;exact cN3
 ·cases h;exact cN4
 ·cases h;exact cN5
 ·cases h;exact cN6
 ·cases h;exact cN7
 ·cases h;exact cN8
 ·cases h;exact cN9
 ·cases h;exact cO0
 ·cases h;exact cO1
 ·cases h;exact cO2
 ·cases h;exact cO3
 ·cases h;exact cO4
 ·cases h;exact cO5
 ·cases h;exact cO6
 ·cases h;exact cO7
 ·cases h;exact cO8
 ·cases h;exact cO9
 ·cases h;exact cP0
 ·cases h;exact cP1
 ·cases h;exact cP2
 ·cases h;exact cP3
 ·cases h;exact cP4
 ·cases h;exact cP5
 ·cases h;exact cP6
 ·cases h;exact cP7
 ·cases h;exact cP8
 ·cases h;exact cP9
 ·cases h;exact cQ0
 ·cases h;exact cQ1
 ·cases h;exact cQ2
 ·cases h;exact cQ3
 ·cases h;exact cQ4
 ·cases h;exact cQ5
 ·cases h;exact cQ6
 ·cases h;exact cQ7
 ·cases h;exact cQ8
 ·cases h;exact cQ9
 ·cases h;exact cR0
 ·cases h;exact cR1
 ·cases h;exact cE3
 ·cases h;exact cE4
 ·cases h;exact cE5
 ·cases h
end Go.Proofs.YtimmmnanllcfoaaDoor
namespace Go.Proofs
open Go.Shelf
def Tryd.lays156_ren:Go.Shelf.Ren:=⟨fun|156=>52|165=>74|166=>44|169=>46|240=>68|241=>93|276=>91|277=>105|n=>n,fun|31=>62|9=>9|3=>3|4=>4|0=>0|20=>20|72=>83|76=>86|70=>80|37=>81|75=>85|127=>106|164=>126|5=>5|80=>89|n=>n,fun|n=>n⟩
theorem Tryd.lays156:Go.Proofs.Lays.n156 Tryd.prog Tryd.lays156_ren:={
 mixed:=by kernel_rfl
 f156:=Tryd.func52.trans (congrArg some (by kernel_rfl))
 f165:=Tryd.func74.trans (congrArg some (by kernel_rfl))
 f166:=Tryd.func44.trans (congrArg some (by kernel_rfl))
 f169:=Tryd.func46.trans (congrArg some (by kernel_rfl))
 f240:=Tryd.func68.trans (congrArg some (by kernel_rfl))
 f241:=Tryd.func93.trans (congrArg some (by kernel_rfl))
 f276:=Tryd.func91.trans (congrArg some (by kernel_rfl))
 f277:=Tryd.func105.trans (congrArg some (by kernel_rfl))
 t0:=Tryd.underlying0
 a0:=Tryd.isAgg0
 z0:=Tryd.sizeOf0
 v0:=Tryd.zeroValue0
 t3:=Tryd.underlying3
 a3:=Tryd.isAgg3
 z3:=Tryd.sizeOf3
 v3:=Tryd.zeroValue3
 t4:=Tryd.underlying4
 a4:=Tryd.isAgg4
 z4:=Tryd.sizeOf4
 v4:=Tryd.zeroValue4
 t9:=Tryd.underlying9
 a9:=Tryd.isAgg9
 z9:=Tryd.sizeOf9
 v9:=Tryd.zeroValue9
 t20:=Tryd.underlying20
 a20:=Tryd.isAgg20
 z20:=Tryd.sizeOf20
 v20:=Tryd.zeroValue20
 t31:=Tryd.underlying62
 a31:=Tryd.isAgg62
 z31:=Tryd.sizeOf62
 v31:=Tryd.zeroValue62
 t37:=Tryd.underlying81
 a37:=Tryd.isAgg81
 z37:=Tryd.sizeOf81
 v37:=Tryd.zeroValue81
 t70:=Tryd.underlying80
 a70:=Tryd.isAgg80
 z70:=Tryd.sizeOf80
 v70:=Tryd.zeroValue80
 t72:=Tryd.underlying83
 a72:=Tryd.isAgg83
 z72:=Tryd.sizeOf83
 v72:=Tryd.zeroValue83
 t75:=Tryd.underlying85
 a75:=Tryd.isAgg85
 z75:=Tryd.sizeOf85
 v75:=Tryd.zeroValue85
 t76:=Tryd.underlying86
 a76:=Tryd.isAgg86
 z76:=Tryd.sizeOf86
 v76:=Tryd.zeroValue86
 t127:=Tryd.underlying106
 a127:=Tryd.isAgg106
 z127:=Tryd.sizeOf106
 v127:=Tryd.zeroValue106
 t164:=Tryd.underlying126
 a164:=Tryd.isAgg126
 z164:=Tryd.sizeOf126
 v164:=Tryd.zeroValue126}
theorem Tryd.Builder_Extra_156:Builder.Extra Tryd.prog Tryd.lays156_ren:={
 sizeBuilder:=by kernel_rfl
 liesBuilder:=by kernel_rfl
 t5:=Tryd.underlying5
 a5:=Tryd.isAgg5
 z5:=Tryd.sizeOf5
 v5:=Tryd.zeroValue5
 infoByte:=by kernel_rfl
 cellsByte:=by kernel_rfl
 sizeByte:=by kernel_rfl
 neB5:=by decide}
open Go.RowKit in
theorem Tryd.strings_Join_none (a:Option Addr) (c:Nat) (sep:ByteArray) (w:World):
  Calls Tryd.prog 52 #[.slice a 0 c,.string sep] w fun e w'=>e= .returned (.string ⟨#[]⟩)∧w'=w:=Any.strings_Join_none Tryd.lays156 Tryd.Builder_Extra_156 a c sep w
open Go.RowKit in
theorem Tryd.strings_Join (bk o c:Nat) (xs:List ByteArray) (sep:ByteArray) (w:World) (hcells:∀ (j:Nat) x,xs[j]? =some x→w.cell? ⟨bk,o+j,none⟩=some (.string x)) (hbk:bk<w.heap.size) (hN:xs.length≤140737488355328) (hcap:xs.length≤c) (hlen:(Lib.join (xs.map (·.data.toList)) sep.data.toList).length≤140737488355328):
  Calls Tryd.prog 52 #[.slice (some ⟨bk,o,none⟩) xs.length c,.string sep] w fun e w'=>e= .returned (.string ⟨(Lib.join (xs.map (·.data.toList)) sep.data.toList).toArray⟩)∧Below w.heap.size w w':=Any.strings_Join Tryd.lays156 Tryd.Builder_Extra_156 bk o c xs sep w hcells hbk hN hcap hlen
def Tryd.laysM171_ren:Go.Shelf.Ren:=⟨fun|171=>35|243=>63|246=>86|283=>98|284=>99|285=>100|286=>101|129=>111|317=>110|318=>112|319=>113|320=>114|337=>117|338=>118|n=>n,fun|3=>3|9=>9|2=>2|4=>4|171=>134|0=>0|53=>135|37=>81|5=>5|173=>138|212=>145|51=>146|20=>20|213=>147|46=>143|232=>157|233=>158|n=>n,fun|17=>1|18=>4|19=>5|n=>n⟩
theorem Tryd.laysM171:Go.Proofs.LaysM.n171 Tryd.prog Tryd.laysM171_ren:={
 mixed:=by kernel_rfl
 f129:=Tryd.func111.trans (congrArg some (by kernel_rfl))
 f171:=Tryd.func35.trans (congrArg some (by kernel_rfl))
 f243:=Tryd.func63.trans (congrArg some (by kernel_rfl))
 f246:=Tryd.func86.trans (congrArg some (by kernel_rfl))
 f283:=Tryd.func98.trans (congrArg some (by kernel_rfl))
 f284:=Tryd.func99.trans (congrArg some (by kernel_rfl))
 f285:=Tryd.func100.trans (congrArg some (by kernel_rfl))
 f286:=Tryd.func101.trans (congrArg some (by kernel_rfl))
 f317:=Tryd.func110.trans (congrArg some (by kernel_rfl))
 f318:=Tryd.func112.trans (congrArg some (by kernel_rfl))
 f319:=Tryd.func113.trans (congrArg some (by kernel_rfl))
 f320:=Tryd.func114.trans (congrArg some (by kernel_rfl))
 f337:=Tryd.func117.trans (congrArg some (by kernel_rfl))
 f338:=Tryd.func118.trans (congrArg some (by kernel_rfl))
 t0:=Tryd.underlying0
 a0:=Tryd.isAgg0
 z0:=Tryd.sizeOf0
 v0:=Tryd.zeroValue0
 t2:=Tryd.underlying2
 a2:=Tryd.isAgg2
 z2:=Tryd.sizeOf2
 v2:=Tryd.zeroValue2
 t3:=Tryd.underlying3
 a3:=Tryd.isAgg3
 z3:=Tryd.sizeOf3
 v3:=Tryd.zeroValue3
 t4:=Tryd.underlying4
 a4:=Tryd.isAgg4
 z4:=Tryd.sizeOf4
 v4:=Tryd.zeroValue4
 t5:=Tryd.underlying5
 a5:=Tryd.isAgg5
 z5:=Tryd.sizeOf5
 v5:=Tryd.zeroValue5
 t9:=Tryd.underlying9
 a9:=Tryd.isAgg9
 z9:=Tryd.sizeOf9
 v9:=Tryd.zeroValue9
 t20:=Tryd.underlying20
 a20:=Tryd.isAgg20
 z20:=Tryd.sizeOf20
 v20:=Tryd.zeroValue20
 t37:=Tryd.underlying81
 a37:=Tryd.isAgg81
 z37:=Tryd.sizeOf81
 v37:=Tryd.zeroValue81
 t46:=Tryd.underlying143
 a46:=Tryd.isAgg143
 z46:=Tryd.sizeOf143
 v46:=Tryd.zeroValue143
 t51:=Tryd.underlying146
 a51:=Tryd.isAgg146
 z51:=Tryd.sizeOf146
 v51:=Tryd.zeroValue146
 t53:=Tryd.underlying135
 a53:=Tryd.isAgg135
 z53:=Tryd.sizeOf135
 v53:=Tryd.zeroValue135
 t171:=Tryd.underlying134
 a171:=Tryd.isAgg134
 z171:=Tryd.sizeOf134
 v171:=Tryd.zeroValue134
 t173:=Tryd.underlying138
 a173:=Tryd.isAgg138
 z173:=Tryd.sizeOf138
 v173:=Tryd.zeroValue138
 t212:=Tryd.underlying145
 a212:=Tryd.isAgg145
 z212:=Tryd.sizeOf145
 v212:=Tryd.zeroValue145
 t213:=Tryd.underlying147
 a213:=Tryd.isAgg147
 z213:=Tryd.sizeOf147
 t232:=Tryd.underlying157
 a232:=Tryd.isAgg157
 z232:=Tryd.sizeOf157
 v232:=Tryd.zeroValue157
 t233:=Tryd.underlying158
 a233:=Tryd.isAgg158
 z233:=Tryd.sizeOf158
 v233:=Tryd.zeroValue158
 g17:=by kernel_rfl
 g18:=by kernel_rfl
 g19:=by kernel_rfl
 i0:=by kernel_rfl
 i2:=by kernel_rfl
 i3:=by kernel_rfl
 i4:=by kernel_rfl
 i5:=by kernel_rfl
 i9:=by kernel_rfl
 i20:=by kernel_rfl
 i37:=by kernel_rfl
 i46:=by kernel_rfl
 i51:=by kernel_rfl
 i53:=by kernel_rfl
 i171:=by kernel_rfl
 i173:=by kernel_rfl
 i212:=by kernel_rfl
 i232:=by kernel_rfl
 i233:=by kernel_rfl
 m17:=by kernel_rfl
 m18:=by kernel_rfl
 m19:=by kernel_rfl}
open Go.RowKit Go.Sort Go.Lib in
theorem Tryd.strconv_Itoa (n:Int) (h0: -9223372036854775808≤n) (h1:n≤9223372036854775807) (w:World) (htab:Lib.TabIs Tryd.prog w "internal/strconv.uint64pow10" .u64 Lib.pow10Tab):
  Calls Tryd.prog 35 #[.int .i64 n] w fun e w'=>e= .returned (.string ⟨(Lib.itoa n).toArray⟩)∧∃ k os,w'=grow (w.drewN k) os:=Any.strconv_Itoa Tryd.laysM171 n h0 h1 w htab
def Tryd.lays143_ren:Go.Shelf.Ren:=⟨fun|143=>81|219=>97|217=>106|225=>107|224=>108|267=>109|266=>115|314=>116|n=>n,fun|9=>9|3=>3|4=>4|5=>5|46=>143|146=>154|51=>146|n=>n,fun|1=>0|n=>n⟩
theorem Tryd.lays143:Go.Proofs.Lays.n143 Tryd.prog Tryd.lays143_ren:={
 mixed:=by kernel_rfl
 f143:=Tryd.func81.trans (congrArg some (by kernel_rfl))
 f217:=Tryd.func106.trans (congrArg some (by kernel_rfl))
 f219:=Tryd.func97.trans (congrArg some (by kernel_rfl))
 f224:=Tryd.func108.trans (congrArg some (by kernel_rfl))
 f225:=Tryd.func107.trans (congrArg some (by kernel_rfl))
 f266:=Tryd.func115.trans (congrArg some (by kernel_rfl))
 f267:=Tryd.func109.trans (congrArg some (by kernel_rfl))
 f314:=Tryd.func116.trans (congrArg some (by kernel_rfl))
 t3:=Tryd.underlying3
 a3:=Tryd.isAgg3
 z3:=Tryd.sizeOf3
 v3:=Tryd.zeroValue3
 t4:=Tryd.underlying4
 a4:=Tryd.isAgg4
 z4:=Tryd.sizeOf4
 v4:=Tryd.zeroValue4
 t5:=Tryd.underlying5
 a5:=Tryd.isAgg5
 z5:=Tryd.sizeOf5
 v5:=Tryd.zeroValue5
 t9:=Tryd.underlying9
 a9:=Tryd.isAgg9
 z9:=Tryd.sizeOf9
 v9:=Tryd.zeroValue9
 t46:=Tryd.underlying143
 a46:=Tryd.isAgg143
 z46:=Tryd.sizeOf143
 v46:=Tryd.zeroValue143
 t51:=Tryd.underlying146
 a51:=Tryd.isAgg146
 z51:=Tryd.sizeOf146
 v51:=Tryd.zeroValue146
 t146:=Tryd.underlying154
 a146:=Tryd.isAgg154
 z146:=Tryd.sizeOf154
 v146:=Tryd.zeroValue154
 g1:=by kernel_rfl}
open Go.RowKit Go.Lib in
theorem Tryd.strings_Index (s sub:ByteArray) (m:Int) (w:World) (hs:s.size<4294967281) (hm:w.cell? ⟨0,0,none⟩=some (.int .i64 m)):
  Calls Tryd.prog 81 #[.string s,.string sub] w fun e w'=>e= .returned (.int .i64 (Lib.index s.data.toList sub.data.toList))∧w'=w:=Any.strings_Index Tryd.lays143 s sub m w hs hm
def Tryd.lays138_ren:Go.Shelf.Ren:=⟨fun|138=>80|195=>95|218=>96|143=>81|219=>97|217=>106|225=>107|224=>108|267=>109|266=>115|314=>116|n=>n,fun|9=>9|3=>3|4=>4|5=>5|0=>0|46=>143|146=>154|51=>146|n=>n,fun|1=>0|n=>n⟩
theorem Tryd.lays138:Go.Proofs.Lays.n138 Tryd.prog Tryd.lays138_ren:={
 mixed:=by kernel_rfl
 f138:=Tryd.func80.trans (congrArg some (by kernel_rfl))
 f143:=Tryd.func81.trans (congrArg some (by kernel_rfl))
 f195:=Tryd.func95.trans (congrArg some (by kernel_rfl))
 f217:=Tryd.func106.trans (congrArg some (by kernel_rfl))
 f218:=Tryd.func96.trans (congrArg some (by kernel_rfl))
 f219:=Tryd.func97.trans (congrArg some (by kernel_rfl))
 f224:=Tryd.func108.trans (congrArg some (by kernel_rfl))
 f225:=Tryd.func107.trans (congrArg some (by kernel_rfl))
 f266:=Tryd.func115.trans (congrArg some (by kernel_rfl))
 f267:=Tryd.func109.trans (congrArg some (by kernel_rfl))
 f314:=Tryd.func116.trans (congrArg some (by kernel_rfl))
 t0:=Tryd.underlying0
 a0:=Tryd.isAgg0
 z0:=Tryd.sizeOf0
 v0:=Tryd.zeroValue0
 t3:=Tryd.underlying3
 a3:=Tryd.isAgg3
 z3:=Tryd.sizeOf3
 v3:=Tryd.zeroValue3
 t4:=Tryd.underlying4
 a4:=Tryd.isAgg4
 z4:=Tryd.sizeOf4
 v4:=Tryd.zeroValue4
 t5:=Tryd.underlying5
 a5:=Tryd.isAgg5
 z5:=Tryd.sizeOf5
 v5:=Tryd.zeroValue5
 t9:=Tryd.underlying9
 a9:=Tryd.isAgg9
 z9:=Tryd.sizeOf9
 v9:=Tryd.zeroValue9
 t46:=Tryd.underlying143
 a46:=Tryd.isAgg143
 z46:=Tryd.sizeOf143
 v46:=Tryd.zeroValue143
 t51:=Tryd.underlying146
 a51:=Tryd.isAgg146
 z51:=Tryd.sizeOf146
 v51:=Tryd.zeroValue146
 t146:=Tryd.underlying154
 a146:=Tryd.isAgg154
 z146:=Tryd.sizeOf154
 v146:=Tryd.zeroValue154
 g1:=by kernel_rfl}
open Go.RowKit Go.Lib in
theorem Tryd.strings_Count_any (s sep:ByteArray) (m:Int) (w:World) (hs:s.size<4294967281) (hm:w.cell? ⟨0,0,none⟩=some (.int .i64 m)) (h1:1≤sep.size):
  Calls Tryd.prog 80 #[.string s,.string sep] w fun e w'=>e= .returned (.int .i64 (Lib.countB s sep))∧w'=w:=Any.strings_Count_any Tryd.lays138 s sep m w hs hm h1
def Tryd.lays154_ren:Go.Shelf.Ren:=⟨fun|154=>73|138=>80|165=>74|143=>81|166=>44|197=>92|169=>46|195=>95|218=>96|240=>68|241=>93|219=>97|260=>104|276=>91|277=>105|217=>106|225=>107|224=>108|267=>109|266=>115|314=>116|n=>n,fun|9=>9|3=>3|4=>4|72=>83|0=>0|76=>86|105=>130|21=>21|5=>5|70=>80|20=>20|37=>81|75=>85|127=>106|164=>126|46=>143|119=>150|139=>153|138=>152|146=>154|51=>146|80=>89|n=>n,fun|1=>0|3=>2|4=>3|n=>n⟩
theorem Tryd.lays154:Go.Proofs.Lays.n154 Tryd.prog Tryd.lays154_ren:={
 mixed:=by kernel_rfl
 f138:=Tryd.func80.trans (congrArg some (by kernel_rfl))
 f143:=Tryd.func81.trans (congrArg some (by kernel_rfl))
 f154:=Tryd.func73.trans (congrArg some (by kernel_rfl))
 f165:=Tryd.func74.trans (congrArg some (by kernel_rfl))
 f166:=Tryd.func44.trans (congrArg some (by kernel_rfl))
 f169:=Tryd.func46.trans (congrArg some (by kernel_rfl))
 f195:=Tryd.func95.trans (congrArg some (by kernel_rfl))
 f197:=Tryd.func92.trans (congrArg some (by kernel_rfl))
 f217:=Tryd.func106.trans (congrArg some (by kernel_rfl))
 f218:=Tryd.func96.trans (congrArg some (by kernel_rfl))
 f219:=Tryd.func97.trans (congrArg some (by kernel_rfl))
 f224:=Tryd.func108.trans (congrArg some (by kernel_rfl))
 f225:=Tryd.func107.trans (congrArg some (by kernel_rfl))
 f240:=Tryd.func68.trans (congrArg some (by kernel_rfl))
 f241:=Tryd.func93.trans (congrArg some (by kernel_rfl))
 f260:=Tryd.func104.trans (congrArg some (by kernel_rfl))
 f266:=Tryd.func115.trans (congrArg some (by kernel_rfl))
 f267:=Tryd.func109.trans (congrArg some (by kernel_rfl))
 f276:=Tryd.func91.trans (congrArg some (by kernel_rfl))
 f277:=Tryd.func105.trans (congrArg some (by kernel_rfl))
 f314:=Tryd.func116.trans (congrArg some (by kernel_rfl))
 t0:=Tryd.underlying0
 a0:=Tryd.isAgg0
 z0:=Tryd.sizeOf0
 v0:=Tryd.zeroValue0
 t3:=Tryd.underlying3
 a3:=Tryd.isAgg3
 z3:=Tryd.sizeOf3
 v3:=Tryd.zeroValue3
 t4:=Tryd.underlying4
 a4:=Tryd.isAgg4
 z4:=Tryd.sizeOf4
 v4:=Tryd.zeroValue4
 t5:=Tryd.underlying5
 a5:=Tryd.isAgg5
 z5:=Tryd.sizeOf5
 v5:=Tryd.zeroValue5
 t9:=Tryd.underlying9
 a9:=Tryd.isAgg9
 z9:=Tryd.sizeOf9
 v9:=Tryd.zeroValue9
 t20:=Tryd.underlying20
 a20:=Tryd.isAgg20
 z20:=Tryd.sizeOf20
 v20:=Tryd.zeroValue20
 t21:=Tryd.underlying21
 a21:=Tryd.isAgg21
 z21:=Tryd.sizeOf21
 v21:=Tryd.zeroValue21
 t37:=Tryd.underlying81
 a37:=Tryd.isAgg81
 z37:=Tryd.sizeOf81
 v37:=Tryd.zeroValue81
 t46:=Tryd.underlying143
 a46:=Tryd.isAgg143
 z46:=Tryd.sizeOf143
 v46:=Tryd.zeroValue143
 t51:=Tryd.underlying146
 a51:=Tryd.isAgg146
 z51:=Tryd.sizeOf146
 v51:=Tryd.zeroValue146
 t70:=Tryd.underlying80
 a70:=Tryd.isAgg80
 z70:=Tryd.sizeOf80
 v70:=Tryd.zeroValue80
 t72:=Tryd.underlying83
 a72:=Tryd.isAgg83
 z72:=Tryd.sizeOf83
 v72:=Tryd.zeroValue83
 t75:=Tryd.underlying85
 a75:=Tryd.isAgg85
 z75:=Tryd.sizeOf85
 v75:=Tryd.zeroValue85
 t76:=Tryd.underlying86
 a76:=Tryd.isAgg86
 z76:=Tryd.sizeOf86
 v76:=Tryd.zeroValue86
 t105:=Tryd.underlying130
 a105:=Tryd.isAgg130
 z105:=Tryd.sizeOf130
 v105:=Tryd.zeroValue130
 t119:=Tryd.underlying150
 a119:=Tryd.isAgg150
 z119:=Tryd.sizeOf150
 t127:=Tryd.underlying106
 a127:=Tryd.isAgg106
 z127:=Tryd.sizeOf106
 v127:=Tryd.zeroValue106
 t138:=Tryd.underlying152
 a138:=Tryd.isAgg152
 z138:=Tryd.sizeOf152
 v138:=Tryd.zeroValue152
 t139:=Tryd.underlying153
 a139:=Tryd.isAgg153
 z139:=Tryd.sizeOf153
 v139:=Tryd.zeroValue153
 t146:=Tryd.underlying154
 a146:=Tryd.isAgg154
 z146:=Tryd.sizeOf154
 v146:=Tryd.zeroValue154
 t164:=Tryd.underlying126
 a164:=Tryd.isAgg126
 z164:=Tryd.sizeOf126
 v164:=Tryd.zeroValue126
 g1:=by kernel_rfl
 g3:=by kernel_rfl
 g4:=by kernel_rfl}
theorem Tryd.Builder_Extra_154:Builder.Extra Tryd.prog Tryd.lays154_ren:={
 sizeBuilder:=by kernel_rfl
 liesBuilder:=by kernel_rfl
 t5:=Tryd.underlying5
 a5:=Tryd.isAgg5
 z5:=Tryd.sizeOf5
 v5:=Tryd.zeroValue5
 infoByte:=by kernel_rfl
 cellsByte:=by kernel_rfl
 sizeByte:=by kernel_rfl
 neB5:=by decide}
open Go.RowKit Go.Lib in
theorem Tryd.strings_Replace (s old new:ByteArray) (n:Int) (m:Int) (w:World) (hs:s.size<4294967281) (hm:w.cell? ⟨0,0,none⟩=some (.int .i64 m)) (h1:1≤old.size) (hlen:s.size+Lib.countB s old*new.size≤140737488355328):
  Calls Tryd.prog 73 #[.string s,.string old,.string new,.int .i64 n] w fun e w'=>
   e= .returned (.string ⟨(Lib.replace s.data.toList old.data.toList new.data.toList n).toArray⟩)∧Below w.heap.size w w':=Any.strings_Replace Tryd.lays154 Tryd.Builder_Extra_154 s old new n m w hs hm h1 hlen
end Go.Proofs
namespace Go.Proofs.YtimmmnanllcfoaaDoor
open Go Go.Itp
open Go.RowKit (Below)
set_option maxRecDepth 100000
set_option linter.unusedVariables false
theorem own:ownKnob Tryd.prog.godebug=none:=by kernel_rfl
theorem mixed:Tryd.prog.follows .mixedOrders=true:=by kernel_rfl
def VG:List (FuncId × KS × TypeId):= [(91,.same,0),(115,.indexByte,0),(96,.count,0),(105,.makeNoZero,5)]
theorem aG8:uS Tryd.prog VG:=
 ⟨⟨⟨Tryd.f91,Tryd.func91,by kernel_rfl,by kernel_rfl,by kernel_rfl,rfl⟩⟩,⟨⟨Tryd.f115,Tryd.func115,by kernel_rfl,by kernel_rfl,by kernel_rfl,rfl⟩⟩,⟨⟨Tryd.f96,Tryd.func96,by kernel_rfl,by kernel_rfl,by kernel_rfl,rfl⟩⟩,
  ⟨⟨Tryd.f105,Tryd.func105,by kernel_rfl,by kernel_rfl,#[3],81,by kernel_rfl,rfl,Tryd.underlying81⟩⟩,trivial⟩
def cE1:FuncId→List Value→St→Option (Value × List u6):=U7 (fnP 81 NX) (U7 (fnP 80 LZ) (fnP 73 yV))
def BW (w:World):Prop:=∃ m:Int,w.cell? ⟨0,0,none⟩=some (.int .i64 m)
theorem BW.below {w w':World} (h:BW w) (hb:Below w.heap.size w w'):BW w':=by
 obtain ⟨m,h⟩:=h
 exact ⟨m,by rw[hb.cell (World.block_lt_of_cell? _ _ h)];exact h⟩
theorem bH3 {w0:World} (h:BW w0):R9 Tryd.prog cE1 w0:=by
 refine dV (UG ⟨Tryd.f81,_,Tryd.func81,rfl,by kernel_rfl⟩ ?_ ?_) (dV (UG ⟨Tryd.f80,_,Tryd.func80,rfl,by kernel_rfl⟩ ?_ ?_) (UG ⟨Tryd.f73,_,Tryd.func73,rfl,by kernel_rfl⟩ ?_ ?_))
 ·intro xs v e
  unfold NX at e
  split at e
  ·split at e
   ·cases e;exact ⟨rfl,rfl⟩
   ·cases e
  ·cases e
 ·intro xs v e w hb
  unfold NX at e
  split at e
  ·split at e
   ·cases e
    obtain ⟨m,hm⟩:=h.below hb
    refine (Tryd.strings_Index _ _ m w ‹_› hm).mono fun e w' ⟨h1,h2⟩=>⟨h1,?_⟩
    rw[h2];exact Below.refl _ _
   ·cases e
  ·cases e
 ·intro xs v e
  unfold LZ at e
  split at e
  ·split at e
   ·cases e;exact ⟨rfl,rfl⟩
   ·cases e
  ·cases e
 ·intro xs v e w hb
  unfold LZ at e
  split at e
  ·split at e
   ·rename_i hc
    cases e
    obtain ⟨m,hm⟩:=h.below hb
    refine (Tryd.strings_Count_any _ _ m w hc.1 hm hc.2).mono fun e w' ⟨h1,h2⟩=>⟨h1,?_⟩
    rw[h2];exact Below.refl _ _
   ·cases e
  ·cases e
 ·intro xs v e
  unfold yV at e
  split at e
  ·split at e
   ·cases e;exact ⟨rfl,rfl⟩
   ·cases e
  ·cases e
 ·intro xs v e w hb
  unfold yV at e
  split at e
  ·split at e
   ·rename_i hc
    cases e
    obtain ⟨m,hm⟩:=h.below hb
    exact Tryd.strings_Replace _ _ _ _ m w hc.1 hm hc.2.1 hc.2.2
   ·cases e
  ·cases e
noncomputable abbrev PR (w:World):FuncId→List Value→St→Option (Value × List u6):=
 U7 (pJ VG) (U7 cE1 (U7 (OC 35) (DU (I7 w) 52)))
noncomputable abbrev EN (w:World) (n:Nat):E2:=t8 (I7 w) C6 fns (PR w) n
abbrev Tab (w:World):Prop:=Lib.TabIs Tryd.prog w "internal/strconv.uint64pow10" .u64 Lib.pow10Tab∧BW w
theorem aV9 (W:World) (ht:Tab W):R9 Tryd.prog (PR W) W:=
 dV (yJ VG aG8 W) (dV (bH3 ht.2) (dV
  (aT0 ⟨Tryd.f35,_,Tryd.func35,rfl,by kernel_rfl⟩ ht.1 Tryd.strconv_Itoa)
  (aT1 ⟨Tryd.f52,_,Tryd.func52,rfl,by kernel_rfl⟩ (OV W) Tryd.strings_Join_none Tryd.strings_Join)))
theorem bU1 {W:World} (ht:Tab W) {f:FuncId} {af:p7} (hf:fns f=some af) {xs:List Value} (hxs:x8 0 xs= []) (n:Nat) {v:Value} {s':St} (hb:body (EN W n) af xs St.empty=some (v,s')) (hv:r5 0 v= []):
  Calls Tryd.prog f xs.toArray W fun e w'=>e= .returned v∧Below W.heap.size W w':=
 bU0 mixed bT1 (OV W) (aV9 W ht) hf hxs n hb hv
theorem UK (w:World) (n:Nat) (st:l8) (k:Int) (h0: -9223372036854775808≤k) (h1:k≤9223372036854775807):H0 (EN w (n+1)) 35 st [.sc (.int .i64 k)] (.sc (.string ⟨(Lib.itoa k).toArray⟩)):=
 bT4 h0 h1 fun xs s r h=>D2 rfl (D2 rfl (S9 h))
theorem bT6 (w:World) (n:Nat) (st:l8) (s:Nat) (hs:s ≠ 1) (ls:List (List UInt8)) (sep:List UInt8) (hl:ls.length≤1099511627776) (hlen:(Lib.join ls sep).length≤140737488355328):
  H0 (EN w (n+1)) 52 st [.sl s ls.length (ls.map sD),.sc (.string ⟨sep.toArray⟩)] (.sc (.string ⟨(Lib.join ls sep).toArray⟩)):=
 bT5 s hs ls sep hl hlen fun xs s r h=>D2 rfl (D2 rfl (D2 rfl h))
abbrev m8 (l:List UInt8):V:= .sc (.string ⟨l.toArray⟩)
theorem YK (w:World) (n:Nat) (st:l8) (l t:List UInt8) (hl:l.length≤1000000000):H0 (EN w (n+1)) 81 st [m8 l,m8 t] (.sc (.int .i64 (Lib.index l t))):=
 bT0 (F:=NX) (v:= .int .i64 (Lib.index l t)) (ys:= [.string ⟨l.toArray⟩,.string ⟨t.toArray⟩]) (by simp only[NX];rw[if_pos (by rw[p8];omega)]) rfl fun xs s r h=>D2 rfl (S9 (S9 h))
theorem XB (w:World) (n:Nat) (st:l8) (l t:List UInt8) (hl:l.length≤1000000000) (ht:1≤t.length):H0 (EN w (n+1)) 80 st [m8 l,m8 t] (.sc (.int .i64 (Lib.countB ⟨l.toArray⟩ ⟨t.toArray⟩))):=
 bT0 (F:=LZ) (v:= .int .i64 (Lib.countB ⟨l.toArray⟩ ⟨t.toArray⟩)) (ys:= [.string ⟨l.toArray⟩,.string ⟨t.toArray⟩]) (by simp only[LZ];rw[if_pos ⟨by rw[p8];omega,by rw[p8];omega⟩]) rfl fun xs s r h=>D2 rfl (S9 (D2 rfl (S9 h)))
theorem VN (w:World) (n:Nat) (st:l8) (l t u:List UInt8) (k:Int) (hl:l.length≤1000000) (ht:1≤t.length) (hu:l.length+Lib.countB ⟨l.toArray⟩ ⟨t.toArray⟩*u.length≤140737488355328):H0 (EN w (n+1)) 73 st [m8 l,m8 t,m8 u,.sc (.int .i64 k)] (m8 (Lib.replace l t u k)):=
 bT0 (F:=yV) (v:= .string ⟨(Lib.replace l t u k).toArray⟩) (ys:= [.string ⟨l.toArray⟩,.string ⟨t.toArray⟩,.string ⟨u.toArray⟩,.int .i64 k]) (by simp only[yV];rw[if_pos ⟨by rw[p8];omega,by rw[p8];omega,by rw[p8,p8];exact hu⟩]) rfl fun xs s r h=>D2 rfl (S9 (D2 rfl (D2 rfl h)))
end Go.Proofs.YtimmmnanllcfoaaDoor
namespace Go.Itp
set_option linter.unusedVariables false
set_option linter.unusedSimpArgs false
set_option maxRecDepth 10000
structure n8 where
 kind:Nat
 purl:Bool
 a:Int
 b:Int
abbrev cG8:List UInt8:= [107,110,105,116]
abbrev aB7:List UInt8:= [112,117,114,108]
abbrev bD0:List UInt8:= [115,108,105,112]
abbrev bQ7:List UInt8:= [119,105,116,104]
abbrev SK:List UInt8:= [121,97,114,110]
abbrev wIn:List UInt8:= [105,110]
abbrev KK:List UInt8:= [102,114,111,110,116]
abbrev bQ6:List UInt8:= [111,118,101,114]
abbrev bY6:List UInt8:= [116,111,103,101,116,104,101,114]
abbrev bC8:List UInt8:= [40,102,105,114,115,116]
abbrev wOn:List UInt8:= [111,110]
abbrev cH1:List UInt8:= [116,111,112,41]
abbrev bC9:List UInt8:= [109,97,107,101]
abbrev cH0:List UInt8:= [111,117,116]
abbrev wOf:List UInt8:= [111,102]
abbrev w1:List UInt8:= [49]
abbrev SJ:List UInt8:= [112,117,114,108,119,105,115,101]
abbrev KJ:List UInt8:= [99,114,111,115,115]
abbrev aB6:List UInt8:= [98,101,104,105,110,100]
abbrev bC7:List UInt8:= [99,97,115,116]
abbrev bC6:List UInt8:= [98,105,110,100]
abbrev cG9:List UInt8:= [111,102,102]
abbrev V7:List UInt8:= [116,105,109,101,115]
theorem n8.ext' {x y:n8} (h1:x.kind=y.kind) (h2:x.purl=y.purl) (h3:x.a=y.a) (h4:x.b=y.b):x=y:=by
 cases x;cases y;simp_all
instance:DecidableEq n8:=fun x y=>decidable_of_iff (x.kind=y.kind∧x.purl=y.purl∧x.a=y.a∧x.b=y.b) ⟨fun ⟨h1,h2,h3,h4⟩=>n8.ext' h1 h2 h3 h4,fun h=>by subst h;exact ⟨rfl,rfl,rfl,rfl⟩⟩
def uE:n8:=⟨0,false,0,0⟩
instance:Inhabited n8:=⟨uE⟩
def F8 (x:n8):Prop:=
 (x.kind=1∨x.kind=8)∧x.a=0∧x.b=0∨
 x.kind=2∧x.purl=false∧x.a=0∧x.b=0∨
 (x.kind=3∨x.kind=4∨x.kind=5)∧2≤x.a∧x.a≤4∧x.b=0∨
 (x.kind=6∨x.kind=7)∧(1≤x.a∧x.a≤6)∧1≤x.b∧x.b≤6∨
 x.kind=9∧x.purl=false∧1≤x.a∧x.a≤200∧x.b=0∨
 x.kind=10∧1≤x.a∧x.a≤200∧x.b=0
instance cG1 (x:n8):Decidable (F8 x):=by unfold F8;infer_instance
def D3 (x:n8):Bool:=decide (F8 x)
theorem D6 {x:n8}:D3 x=true↔F8 x:=by unfold D3;exact decide_eq_true_iff
theorem F8.bounds {x:n8} (h:F8 x):1≤x.kind∧x.kind≤10∧0≤x.a∧x.a≤200∧0≤x.b∧x.b≤6:=by
 unfold F8 at h
 omega
def pW (p:Bool):List UInt8:=if p=true then aB7 else cG8
def mE (p:Bool):List (List UInt8):=if p=true then [SJ] else []
def gJ (x:n8) (n:Int):List (List UInt8):=match x.kind with
 |1=> [pW x.purl,Lib.itoa n]
 |2=> [SK,bQ6]
 |3=> [pW x.purl,Lib.itoa x.a,bY6,bC8,wOn,cH1]
 |4=> [pW x.purl,Lib.itoa x.a,bY6]
 |5=> [bC9,Lib.itoa x.a,cH0,wOf,w1]++mE x.purl
 |6=> [KJ,Lib.itoa x.a,wIn,KK,wOf,Lib.itoa x.b]++mE x.purl
 |7=> [KJ,Lib.itoa x.a,aB6,Lib.itoa x.b]++mE x.purl
 |8=> [bD0,Lib.itoa n]++if x.purl=true then [bQ7,SK,wIn,KK] else []
 |9=> [bC7,wOn,Lib.itoa x.a]
 |_=> [bC6,cG9,Lib.itoa x.a]++mE x.purl
def AA (x:n8) (n:Int):List (List UInt8):=if 1<n∧x.kind ≠ 1∧x.kind ≠ 8 then [Lib.itoa n,V7] else []
def U8 (x:n8) (n:Int):List (List UInt8):=gJ x n++AA x n
def B3 (x:n8) (n:Int):List UInt8:=join 32 (U8 x n)
theorem aT {z:Int} (h:0≤z) (c:UInt8) (hc:B0 c=false):c ∉ Lib.itoa z:=fun hm=>by
 rw[OD h c hm] at hc;cases hc
theorem S4 {z:Int} (h:0≤z) {c:UInt8} {l:List UInt8} (hc:B0 c=false):Lib.itoa z ≠ c::l:=fun e=>aT h c hc (by rw[e];simp)
def tR (w:List UInt8):Prop:=(32:UInt8) ∉ w∧(44:UInt8) ∉ w∧(10:UInt8) ∉ w∧w ≠ []
theorem yD {z:Int} (h:0≤z):tR (Lib.itoa z):=⟨aT h _ (by decide),aT h _ (by decide),aT h _ (by decide),oT⟩
instance cK1 (w:List UInt8):Decidable (tR w):=by unfold tR;infer_instance
theorem nC {x:n8} {n:Int} (hx:F8 x) (hn:0≤n):∀ w ∈ U8 x n,tR w:=by
 have hb:=hx.bounds
 have h1:=yD (z:=n) hn
 have h2:=yD (z:=x.a) (by omega)
 have h3:=yD (z:=x.b) (by omega)
 have hs:∀ p,tR (pW p):=by intro p;cases p<;>decide
 have hw:∀ p,∀ w ∈ mE p,tR w:=by intro p;cases p<;>decide
 have hf:∀ p:Bool,∀ w ∈ (if p=true then [bQ7,SK,wIn,KK] else []),tR w:=by intro p;cases p<;>decide
 have hc:tR SK∧tR bQ6∧tR bY6∧tR bC8∧tR wOn∧tR cH1∧tR bC9∧tR cH0∧tR wOf∧tR w1∧tR KJ∧tR wIn∧tR KK∧tR aB6∧tR bD0∧tR bC7∧tR bC6∧tR cG9∧tR V7:=by decide
 obtain ⟨c1,c2,c3,c4,c5,c6,c7,c8,c9,c10,c11,c12,c13,c14,c15,c16,c17,c18,c19⟩:=hc
 intro w hm
 unfold U8 at hm
 rcases List.mem_append.1 hm with hm|hm
 ·obtain ⟨k,p,a,b⟩:=x
  unfold gJ at hm
  simp only at hm h2 h3 hb
  split at hm
  all_goals
   simp only[List.cons_append,List.nil_append,List.mem_cons,List.not_mem_nil,or_false] at hm
  ·rcases hm with rfl|rfl<;>first|exact hs p|assumption
  ·rcases hm with rfl|rfl<;>assumption
  ·rcases hm with rfl|rfl|rfl|rfl|rfl|rfl<;>first|exact hs p|assumption
  ·rcases hm with rfl|rfl|rfl<;>first|exact hs p|assumption
  ·rcases hm with rfl|rfl|rfl|rfl|rfl|hm<;>first|exact hw p w hm|assumption
  ·rcases hm with rfl|rfl|rfl|rfl|rfl|rfl|hm<;>first|exact hw p w hm|assumption
  ·rcases hm with rfl|rfl|rfl|rfl|hm<;>first|exact hw p w hm|assumption
  ·rcases hm with rfl|rfl|hm<;>first|exact hf p w hm|assumption
  ·rcases hm with rfl|rfl|rfl<;>assumption
  ·rcases hm with rfl|rfl|rfl|hm<;>first|exact hw p w hm|assumption
 ·unfold AA at hm
  split at hm
  ·simp only[List.mem_cons,List.not_mem_nil,or_false] at hm
   rcases hm with rfl|rfl<;>assumption
  ·cases hm
theorem LF (x:n8) (n:Int):gJ x n ≠ []:=by
 unfold gJ;split<;>simp
theorem VE (x:n8) (n:Int):U8 x n ≠ []:=by
 unfold U8;simp[LF]
theorem lU {x:n8} {n:Int} (hx:F8 x) (hn:0≤n):n4 32 (B3 x n)=U8 x n:=
 nQ (VE x n) fun w hw=>(nC hx hn w hw).1
def OR (l:List UInt8):Int:=match Lib.atoiAll l with
 | .ok v=>v
 |_=>0
theorem kQ {z:Int} (h0:0≤z) (h1:z≤1000000):OR (Lib.itoa z)=z:=by
 unfold OR;rw[aC9 h0 (by omega)]
def aG0 (ws:List (List UInt8)):List (List UInt8) × Int:=match ws.reverse with
 |t::n::r=>if t=V7 then (r.reverse,OR n) else (ws,1)
 |_=>(ws,1)
def bF8 (ws:List (List UInt8)) (n:Int):n8 × Int:=
 let h:=ws.headD []
 let at1:=OR (ws.getD 1 [])
 let ws2:=decide (SJ ∈ ws)
 if h=SK then (⟨2,false,0,0⟩,n)
 else if h=bC9 then (⟨5,ws2,at1,0⟩,n)
 else if h=KJ then (if ws.getD 2 []=wIn then (⟨6,ws2,at1,OR (ws.getD 5 [])⟩,n) else (⟨7,ws2,at1,OR (ws.getD 3 [])⟩,n))
 else if h=bC7 then (⟨9,false,OR (ws.getD 2 []),0⟩,n)
 else if h=bC6 then (⟨10,ws2,OR (ws.getD 2 []),0⟩,n)
 else if h=bD0 then (⟨8,decide (2<ws.length),0,0⟩,at1)
 else if ws.length=2 then (⟨1,decide (h=aB7),0,0⟩,at1)
 else if ws.length=3 then (⟨4,decide (h=aB7),at1,0⟩,n)
 else (⟨3,decide (h=aB7),at1,0⟩,n)
def bF9 (ws:List (List UInt8)):n8 × Int:=bF8 (aG0 ws).1 (aG0 ws).2
theorem UW (B:List (List UInt8)) {n:Int} (h0:0≤n) (h1:n≤1000000):aG0 (B++ [Lib.itoa n,V7])=(B,n):=by
 unfold aG0
 simp only[List.reverse_append,List.reverse_cons,List.reverse_nil,List.nil_append,List.cons_append,List.reverse_reverse,if_true,kQ h0 h1]
theorem CU {x:n8} {n:Int} (hx:F8 x) (h0:0≤n) (h1:n≤1000) (m:Int) (hm:x.kind ≠ 1→x.kind ≠ 8→m=n):bF8 (gJ x n) m=(x,n):=by
 have hb:=hx.bounds
 have n1:=kQ (z:=n) h0 (by omega)
 have n2:=kQ (z:=x.a) (by omega) (by omega)
 have n3:=kQ (z:=x.b) (by omega) (by omega)
 have q1:Lib.itoa n ≠ SJ:=S4 h0 (by decide)
 have q2:Lib.itoa x.a ≠ SJ:=S4 (by omega) (by decide)
 have q3:Lib.itoa x.b ≠ SJ:=S4 (by omega) (by decide)
 obtain ⟨k,p,a,b⟩:=x
 unfold F8 at hx
 simp only at hx n1 n2 n3 q1 q2 q3 hm
 have r2:=Ne.symm q2
 have r3:=Ne.symm q3
 rcases hx with ⟨rfl|rfl,rfl,rfl⟩|⟨rfl,rfl,rfl,rfl⟩|⟨rfl|rfl|rfl,h2,h3,rfl⟩|⟨rfl|rfl,h2,h3⟩|⟨rfl,rfl,h2,h3,rfl⟩|⟨rfl,h2,h3,rfl⟩
 all_goals
  try (have hm:=hm (by decide) (by decide);subst hm)
  first
  |(cases p<;>simp[bF8,gJ,pW,mE,n1,n2,n3,r2,r3])
  |simp[bF8,gJ,pW,mE,n1,n2,n3,r2,r3]
theorem aG1 (B:List (List UInt8)) (h:∀ w,B.getLast? =some w→w ≠ V7):aG0 B=(B,1):=by
 unfold aG0
 cases hr:B.reverse with
 |nil=>rfl
 |cons t r=>
  have hl:B.getLast? =some t:=by rw[← List.head?_reverse,hr];rfl
  cases r with
  |nil=>rfl
  |cons n r=>simp only[if_neg (h t hl)]
theorem MH {x:n8} {n:Int} (hx:F8 x) (h0:1≤n) (h1:n≤1000):bF9 (U8 x n)=(x,n):=by
 unfold bF9 U8 AA
 by_cases ht:1<n∧x.kind ≠ 1∧x.kind ≠ 8
 ·rw[if_pos ht,UW _ (by omega) (by omega)]
  exact CU hx (by omega) h1 n fun _ _=>rfl
 ·rw[if_neg ht,List.append_nil,aG1]
  ·exact CU hx (by omega) h1 1 fun a b=>by
    have:¬ 1<n:=fun h=>ht ⟨h,a,b⟩
    omega
  ·have hb:=hx.bounds
   have q1:Lib.itoa n ≠ V7:=S4 (by omega) (by decide)
   have q2:Lib.itoa x.a ≠ V7:=S4 (by omega) (by decide)
   have q3:Lib.itoa x.b ≠ V7:=S4 (by omega) (by decide)
   have r1:=Ne.symm q1
   have r2:=Ne.symm q2
   have r3:=Ne.symm q3
   intro w hw e
   subst e
   obtain ⟨k,p,a,b⟩:=x
   simp only at r1 r2 r3
   unfold gJ at hw
   simp only at hw
   split at hw
   all_goals
    revert hw
    cases p<;>simp[mE,pW,q1,q2,q3,r1,r2,r3]
def dY (s:List UInt8):Option (n8 × Int):=
 let r:=bF9 (n4 32 s)
 if F8 r.1∧(1≤r.2∧r.2≤200)∧B3 r.1 r.2=s then some r else none
theorem yR {s:List UInt8} {x:n8} {n:Int} (h:dY s=some (x,n)):F8 x∧(1≤n∧n≤200)∧B3 x n=s:=by
 unfold dY at h
 generalize bF9 (n4 32 s)=r at h
 simp only at h
 split at h
 ·rename_i hc
  cases h
  exact hc
 ·cases h
theorem pN {x:n8} {n:Int} (hx:F8 x) (h0:1≤n) (h1:n≤200):dY (B3 x n)=some (x,n):=by
 unfold dY
 simp only[lU hx (by omega:0≤n),MH hx h0 (by omega:n≤1000)]
 rw[if_pos ⟨hx,⟨h0,h1⟩,trivial⟩]
end Go.Itp
namespace Go.Itp
set_option linter.unusedVariables false
set_option linter.unusedSimpArgs false
set_option maxRecDepth 10000
def P4 (x:n8):Int:=if x.kind=2∨x.kind=9 then 0 else if x.kind=3∨x.kind=4∨x.kind=10 then x.a else if x.kind=6∨x.kind=7 then x.a+x.b else 1
def P3 (x:n8):Int:=if x.kind=10 then 0 else if x.kind=5∨x.kind=9 then x.a else if x.kind=6∨x.kind=7 then x.a+x.b else 1
def Q0 (f:n8→Int):List n8→Int
 | []=>0
 |x::l=>f x+Q0 f l
def L2 (L:List n8):Int:=if 200<L.length then 4 else if L.all D3=true then (if 200<Q0 P4 L∨200<Q0 P3 L then 4 else 0) else 8
def L8:List n8→List (n8 × Nat)
 | []=> []
 |x::l=>match L8 l with
  | []=> [(x,1)]
  |(y,n)::r=>if y=x then (x,n+1)::r else (x,1)::(y,n)::r
def phr (r:n8 × Nat):List UInt8:=B3 r.1 r.2
def jnC:List (List UInt8)→List UInt8
 | []=> []
 | [w]=>w
 |w::ws=>w++44::32::jnC ws
theorem oU (w:List UInt8) {ws:List (List UInt8)} (h:ws ≠ []):jnC (w::ws)=w++44::32::jnC ws:=by
 cases ws with
 |nil=>exact absurd rfl h
 |cons a r=>rfl
theorem UL:∀ ws,jnC ws=Lib.join ws [44,32]
 | []=>rfl
 | [w]=>by simp[jnC,Lib.join,List.intercalate]
 |w::v::ws=>by
  rw[oU w (by simp),UL (v::ws)]
  simp[Lib.join,List.intercalate]
def L5:List UInt8:= [110,111,116,104,105,110,103]
def A6 (L:List n8):List UInt8:=if L= [] then L5 else jnC ((L8 L).map phr)
def B5 (L:List n8):List UInt8 × Int:=if L2 L=0 then (if 2000<(A6 L).length then ([],4) else (A6 L,0)) else ([],L2 L)
theorem mJ (L:List n8):L2 L=0∨L2 L=4∨L2 L=8:=by
 unfold L2
 split
 ·simp
 split
 ·split<;>simp
 ·simp
theorem T7 {L:List n8} (h:L2 L=0):L.length≤200∧L.all D3=true∧Q0 P4 L≤200∧Q0 P3 L≤200:=by
 unfold L2 at h
 split at h
 ·exact absurd h (by decide)
 split at h
 ·split at h
  ·exact absurd h (by decide)
  ·rename_i h1 h2 h3
   exact ⟨by omega,h2,by omega,by omega⟩
 ·exact absurd h (by decide)
def lM (R:List (n8 × Nat)):List n8:=R.flatMap fun r=>List.replicate r.2 r.1
theorem cE:∀ L,lM (L8 L)=L
 | []=>rfl
 |x::l=>by
  have ih:=cE l
  rw[L8]
  cases hr:L8 l with
  |nil=>rw[hr] at ih;simp[lM] at ih ⊢;exact ih
  |cons y r=>
   obtain ⟨y,n⟩:=y
   rw[hr] at ih
   simp only[lM,List.flatMap_cons] at ih
   by_cases e:y=x
   ·simp only[if_pos e,lM,List.flatMap_cons,List.replicate_succ,List.cons_append]
    rw[← e,ih]
   ·simp only[if_neg e,lM,List.flatMap_cons]
    rw[ih];rfl
theorem bJ:∀ L,∀ r ∈ L8 L,1≤r.2∧r.2≤L.length∧r.1 ∈ L
 | [],r,h=>by cases h
 |x::l,r,h=>by
  have ih:=bJ l
  rw[L8] at h
  cases hr:L8 l with
  |nil=>
   rw[hr] at h
   simp only[List.mem_singleton] at h
   subst h
   simp
  |cons y q=>
   obtain ⟨y,n⟩:=y
   rw[hr] at h ih
   simp only at h
   have h1:=ih (y,n) (by simp)
   split at h
   ·rcases List.mem_cons.1 h with rfl|h
    ·simp only[List.length_cons,List.mem_cons,true_or,and_true];omega
    ·have:=ih r (List.mem_cons_of_mem _ h)
     exact ⟨this.1,by simp;omega,List.mem_cons_of_mem _ this.2.2⟩
   ·rcases List.mem_cons.1 h with rfl|h
    ·simp
    ·have:=ih r h
     exact ⟨this.1,by simp;omega,List.mem_cons_of_mem _ this.2.2⟩
theorem pU {L:List n8} (h:L ≠ []):L8 L ≠ []:=fun e=>h (by rw[← cE L,e];rfl)
theorem mT (r:n8 × Nat) (R:List (n8 × Nat)):lM (r::R)=List.replicate r.2 r.1++lM R:=rfl
def vR (c:UInt8):List (List UInt8)→List (List UInt8)
 | []=> [[c]]
 |w::ws=>(c::w)::ws
def s6:List UInt8→List (List UInt8)
 | []=> [[]]
 | [c]=> [[c]]
 |c::d::r=>if c=44∧d=32 then []::s6 r else vR c (s6 (d::r))
theorem sA:∀ s,s6 s ≠ []
 | []=>by simp[s6]
 | [c]=>by simp[s6]
 |c::d::r=>by
  rw[s6]
  split
  ·simp
  ·cases s6 (d::r)<;>simp[vR]
theorem aA {c d:UInt8} {r:List UInt8} (h:¬ (c=44∧d=32)):s6 (c::d::r)=vR c (s6 (d::r)):=by rw[s6,if_neg h]
theorem tW:∀ {w:List UInt8},(44:UInt8) ∉ w→s6 w= [w]
 | [],_=>rfl
 | [c],_=>rfl
 |c::d::r,h=>by
  rw[aA (fun e=>h (by rw[e.1];simp)),tW (fun e=>h (List.mem_cons_of_mem _ e))]
  rfl
theorem zP:∀ {w:List UInt8} (r:List UInt8),(44:UInt8) ∉ w→s6 (w++44::32::r)=w::s6 r
 | [],r,_=>by rw[List.nil_append,s6,if_pos ⟨rfl,rfl⟩]
 | [c],r,h=>by
  rw[List.cons_append,List.nil_append,aA (fun e=>h (by rw[e.1];simp)),s6,if_pos ⟨rfl,rfl⟩]
  rfl
 |c::d::w,r,h=>by
  have ih:=zP (w:=d::w) r (fun e=>h (List.mem_cons_of_mem _ e))
  rw[List.cons_append] at ih
  rw[List.cons_append,List.cons_append,aA (fun e=>h (by rw[e.1];simp)),ih]
  rfl
theorem jQ:∀ {ws:List (List UInt8)},ws ≠ []→(∀ w ∈ ws,(44:UInt8) ∉ w)→s6 (jnC ws)=ws
 | [],h,_=>absurd rfl h
 | [w],_,h=>tW (h w (by simp))
 |w::v::ws,_,h=>by
  rw[oU w (by simp),zP _ (h w (by simp)),jQ (by simp) (fun x hx=>h x (List.mem_cons_of_mem _ hx))]
theorem VD {x:n8} {n:Int} (hx:F8 x) (hn:0≤n):(44:UInt8) ∉ B3 x n∧(10:UInt8) ∉ B3 x n:=by
 have aux:∀ d:UInt8,d ≠ 32→∀ ws:List (List UInt8),(∀ w ∈ ws,d ∉ w)→d ∉ join 32 ws:=by
  intro d hd ws
  induction ws with
  |nil=>intro _;simp[join]
  |cons w ws ih=>
   intro h
   cases ws with
   |nil=>exact h w (by simp)
   |cons v r=>
    rw[join,List.mem_append,List.mem_cons]
    rintro (h1|h1|h1)
    ·exact h w (by simp) h1
    ·exact hd h1
    ·exact ih (fun x hx=>h x (List.mem_cons_of_mem _ hx)) h1
 exact ⟨aux 44 (by decide) _ fun w hw=>(nC hx hn w hw).2.1,aux 10 (by decide) _ fun w hw=>(nC hx hn w hw).2.2.1⟩
def rS:List (List UInt8)→List n8→Option (List n8)
 | [],acc=>some acc
 |p::ps,acc=>match dY p with
  |none=>none
  |some (x,n)=>if 200<(acc.length:Int)+n then none else rS ps (acc++List.replicate n.toNat x)
def cV (s:List UInt8):Option (List n8):=if 2000<s.length then none else if s=L5 then some [] else match rS (s6 s) [] with
 |none=>none
 |some L=>if L2 L=0∧A6 L=s then some L else none
def M5 (s:List UInt8):List n8 × Int:=match cV s with
 |none=>([],12)
 |some L=>(L,0)
theorem ET:∀ (R:List (n8 × Nat)) (acc:List n8),(∀ r ∈ R,F8 r.1∧1≤r.2∧r.2≤200)→acc.length+(lM R).length≤200→rS (R.map phr) acc=some (acc++lM R)
 | [],acc,_,_=>by simp[rS,lM]
 |r::R,acc,h,hl=>by
  obtain ⟨h1,h2,h3⟩:=h r (by simp)
  rw[mT,List.length_append,List.length_replicate] at hl
  rw[List.map_cons,rS,show phr r=B3 r.1 (r.2:Int) from rfl,pN h1 (by omega) (by omega)]
  simp only
  rw[if_neg (by omega),Int.toNat_natCast,ET R _ (fun q hq=>h q (List.mem_cons_of_mem _ hq)) (by rw[List.length_append,List.length_replicate];omega),mT]
  simp
theorem VB {L:List n8} (h:L.all D3=true):∀ w ∈ (L8 L).map phr,(44:UInt8) ∉ w∧(10:UInt8) ∉ w:=by
 intro w hw
 obtain ⟨r,hr,rfl⟩:=List.mem_map.1 hw
 have h1:=bJ L r hr
 exact VD (D6.1 (List.all_eq_true.1 h _ h1.2.2)) (by omega)
theorem qC {L:List n8} (h:L.all D3=true) (hl:L.length≤200) (hn:L ≠ []):A6 L ≠ L5:=fun e=>by
 unfold A6 at e
 rw[if_neg hn] at e
 have h1:=congrArg s6 e
 rw[jQ (by simp[pU hn]) (fun w hw=>(VB h w hw).1),show s6 L5= [L5] from by decide] at h1
 cases hr:L8 L with
 |nil=>exact pU hn hr
 |cons r R=>
  rw[hr,List.map_cons] at h1
  obtain ⟨h2,_⟩:=List.cons.inj h1
  have h3:=bJ L r (by rw[hr];simp)
  have h4:=lU (D6.1 (List.all_eq_true.1 h _ h3.2.2)) (n:=(r.2:Int)) (by omega)
  rw[show B3 r.1 (r.2:Int)=phr r from rfl,h2,show n4 32 L5= [L5] from by decide] at h4
  have h5:(U8 r.1 (r.2:Int)).length=1:=by rw[← h4];rfl
  have h6:2≤(gJ r.1 (r.2:Int)).length:=by
   unfold gJ;split<;>simp
  unfold U8 at h5
  rw[List.length_append] at h5
  omega
theorem Y7 {L:List n8} (h:(B5 L).2=0):cV (A6 L)=some L∧B5 L=(A6 L,0):=by
 unfold B5 at h ⊢
 by_cases ha:L2 L=0
 ·rw[if_pos ha] at h ⊢
  by_cases hl:2000<(A6 L).length
  ·rw[if_pos hl] at h;exact absurd h (by decide)
  ·rw[if_neg hl]
   refine ⟨?_,rfl⟩
   obtain ⟨h1,h2,h3,h4⟩:=T7 ha
   unfold cV
   rw[if_neg hl]
   by_cases hn:L= []
   ·subst hn;rfl
   ·rw[if_neg (qC h2 h1 hn)]
    have e:s6 (A6 L)=(L8 L).map phr:=by
     unfold A6
     rw[if_neg hn,jQ (by simp[pU hn]) (fun w hw=>(VB h2 w hw).1)]
    rw[e,ET _ [] (fun r hr=>by
     have:=bJ L r hr
     exact ⟨D6.1 (List.all_eq_true.1 h2 _ this.2.2),by omega,by omega⟩) (by rw[cE];simpa using h1),cE]
    simp only[List.nil_append]
    rw[if_pos ⟨ha,trivial⟩]
 ·rw[if_neg ha] at h;exact absurd h ha
theorem JM {s:List UInt8} {L:List n8} (h:cV s=some L):B5 L=(s,0):=by
 unfold cV at h
 split at h
 ·cases h
 rename_i hs
 split at h
 ·rename_i he
  cases h
  rw[he]
  rfl
 ·cases hr:rS (s6 s) [] with
  |none=>rw[hr] at h;cases h
  |some M=>
   rw[hr] at h
   simp only at h
   split at h
   ·rename_i hc
    cases h
    unfold B5
    rw[if_pos hc.1,if_neg (by rw[hc.2];exact hs),hc.2]
   ·cases h
theorem nE {s:List UInt8} {L:List n8} (h:B5 L=(s,0)):cV s=some L:=by
 have h1:=Y7 (L:=L) (by rw[h])
 rw[h1.2] at h
 cases h
 exact h1.1
theorem TN {L M:List n8} {s:List UInt8} (h1:B5 L=(s,0)) (h2:B5 M=(s,0)):L=M:=by
 have:=nE h1
 rw[nE h2] at this
 exact (Option.some.inj this).symm
def W3 (b:Bool):List UInt8:=if b=true then [98,97,99,107] else [102,114,111,110,116]
def lK (b:Bool):List UInt8:=40::W3 b++ [41,58]
def aH7:List UInt8:= [114,111,119]
def aN (b:Bool) (n:Int):List UInt8:=aH7++32::(Lib.itoa n++32::(lK b++ [32]))
def C7 (b:Bool) (L:List n8) (n:Int):List UInt8 × Int:=if L2 L=0 then (if n<1∨100<n then ([],2) else if (B5 L).2=0 then (aN b n++(B5 L).1++ [46],0) else ([],(B5 L).2)) else ([],L2 L)
theorem pR {b:Bool} {L:List n8} {n:Int} (h:(C7 b L n).2=0):(1≤n∧n≤100)∧B5 L=(A6 L,0)∧C7 b L n=(aN b n++A6 L++ [46],0)∧L2 L=0:=by
 unfold C7 at h ⊢
 by_cases h1:L2 L=0
 ·rw[if_pos h1] at h ⊢
  by_cases h2:n<1∨100<n
  ·rw[if_pos h2] at h;exact absurd h (by decide)
  ·rw[if_neg h2] at h ⊢
   by_cases h3:(B5 L).2=0
   ·have:=(Y7 h3).2
    rw[if_pos h3,this]
    exact ⟨by omega,rfl,rfl,h1⟩
   ·rw[if_neg h3] at h;exact absurd h h3
 ·rw[if_neg h1] at h;exact absurd h h1
theorem tH (b:Bool) {n:Int} (hn:0≤n) (r:List UInt8):n4 32 (aN b n++r)=aH7::Lib.itoa n::lK b::n4 32 r:=by
 have h2:(32:UInt8) ∉ Lib.itoa n:=aT hn _ (by decide)
 have h3:(32:UInt8) ∉ lK b:=by cases b<;>decide
 have e:aN b n++r=aH7++32::(Lib.itoa n++32::(lK b++32::r)):=by simp[aN]
 rw[e,E7 _ (by decide),E7 _ h2,E7 _ h3]
theorem aE3 {b c:Bool} (h:lK b=lK c):b=c:=by cases b<;>cases c<;>first|rfl|(revert h;decide)
theorem aF0 {b c:Bool} {n m:Int} {r q:List UInt8} (hn:0≤n) (hm:0≤m) (h:aN b n++r=aN c m++q):b=c∧n=m∧r=q:=by
 have e:=congrArg (n4 32) h
 rw[tH b hn,tH c hm] at e
 obtain ⟨_,e⟩:=List.cons.inj e
 obtain ⟨e1,e⟩:=List.cons.inj e
 obtain ⟨e2,e⟩:=List.cons.inj e
 have h1:=OE hn hm e1
 have h2:=aE3 e2
 subst h1 h2
 exact ⟨rfl,rfl,List.append_cancel_left h⟩
theorem QI {b c:Bool} {L M:List n8} {n m:Int} {s:List UInt8} (h1:C7 b L n=(s,0)) (h2:C7 c M m=(s,0)):b=c∧L=M∧n=m:=by
 obtain ⟨a1,a2,a3,_⟩:=pR (by rw[h1]:(C7 b L n).2=0)
 obtain ⟨b1,b2,b3,_⟩:=pR (by rw[h2]:(C7 c M m).2=0)
 rw[h1] at a3
 rw[h2] at b3
 have e:aN b n++(A6 L++ [46])=aN c m++(A6 M++ [46]):=by
  rw[← List.append_assoc,← List.append_assoc]
  exact (congrArg Prod.fst a3).symm.trans (congrArg Prod.fst b3)
 obtain ⟨e1,e2,e3⟩:=aF0 (by omega) (by omega) e
 have e4:=List.append_cancel_right e3
 rw[e4] at a2
 exact ⟨e1,TN a2 b2,e2⟩
open Classical in
noncomputable def dX (s:List UInt8):Option (Bool × List n8 × Int):=if h:∃ r:Bool × List n8 × Int,C7 r.1 r.2.1 r.2.2=(s,0) then some (Classical.choose h) else none
theorem pM {b:Bool} {L:List n8} {n:Int} {s:List UInt8} (h:C7 b L n=(s,0)):dX s=some (b,L,n):=by
 have hx:∃ r:Bool × List n8 × Int,C7 r.1 r.2.1 r.2.2=(s,0):=⟨(b,L,n),h⟩
 unfold dX
 rw[dif_pos hx]
 have h2:=Classical.choose_spec hx
 generalize Classical.choose hx=r at h2
 obtain ⟨c,M,m⟩:=r
 obtain ⟨e1,e2,e3⟩:=QI h2 h
 simp only at e1 e2 e3
 rw[e1,e2,e3]
theorem yQ {b:Bool} {L:List n8} {n:Int} {s:List UInt8} (h:dX s=some (b,L,n)):C7 b L n=(s,0):=by
 unfold dX at h
 split at h
 ·rename_i hx
  have h2:=Classical.choose_spec hx
  rw[Option.some.inj h] at h2
  exact h2
 ·cases h
theorem aS6 (b:Bool) {n:Int} (hn:0≤n):(10:UInt8) ∉ aN b n:=by
 have h2:(10:UInt8) ∉ Lib.itoa n:=aT hn _ (by decide)
 have h3:(10:UInt8) ∉ lK b:=by cases b<;>decide
 unfold aN
 simp only[List.mem_append,List.mem_cons,h2,h3,not_or]
 decide
theorem SO {L:List n8} (h:L.all D3=true):(10:UInt8) ∉ A6 L:=by
 have aux:∀ ws:List (List UInt8),(∀ w ∈ ws,(10:UInt8) ∉ w)→(10:UInt8) ∉ jnC ws:=by
  intro ws
  induction ws with
  |nil=>intro _;simp[jnC]
  |cons w ws ih=>
   intro h
   cases ws with
   |nil=>exact h w (by simp)
   |cons v r=>
    rw[oU w (by simp),List.mem_append,List.mem_cons,List.mem_cons]
    rintro (h1|h1|h1|h1)
    ·exact h w (by simp) h1
    ·exact absurd h1 (by decide)
    ·exact absurd h1 (by decide)
    ·exact ih (fun x hx=>h x (List.mem_cons_of_mem _ hx)) h1
 unfold A6
 split
 ·decide
 ·exact aux _ fun w hw=>(VB h w hw).2
theorem aH6 {b:Bool} {L:List n8} {n:Int} {s:List UInt8} (h:C7 b L n=(s,0)):(10:UInt8) ∉ s:=by
 obtain ⟨a1,a2,a3,a4⟩:=pR (by rw[h]:(C7 b L n).2=0)
 rw[h] at a3
 rw[show s=_ from congrArg Prod.fst a3]
 simp only[List.mem_append,not_or]
 exact ⟨⟨aS6 b (by omega),SO (T7 a4).2.1⟩,by decide⟩
theorem QJ {b:Bool} {L:List n8} {n:Int}:(C7 b L n).1.length≤2100:=by
 unfold C7
 split
 ·split
  ·simp
  split
  ·rename_i h1 h2 h3
   have h4:=(Y7 h3).2
   have h5:(A6 L).length≤2000:=by
    unfold B5 at h3
    rw[if_pos h1] at h3
    split at h3
    ·exact absurd h3 (by decide)
    ·omega
   rw[h4]
   have h6:(Lib.itoa n).length≤4:=by
    obtain ⟨u,rfl⟩:=Int.eq_ofNat_of_zero_le (show 0≤n by omega)
    rw[Lib.itoa_nonneg]
    exact Nat.le_trans (Y3 3 u (by omega)) (Nat.le_refl _)
   have h7:(lK b).length≤10:=by cases b<;>decide
   unfold aN
   simp only[List.length_append,List.length_cons,List.length_nil]
   have h8:aH7.length=3:=rfl
   omega
  ·simp
 ·simp
abbrev qE:=Int × List (Bool × List n8)
def lX:List (Bool × List n8)→Int
 | []=>0
 |r::l=>if L2 r.2=0 then lX l else L2 r.2
def T9 (c:qE):Int:=if 100<c.2.length then 4 else if c.1<0∨200<c.1 then 8 else lX c.2
def y7:Int→List (Bool × List n8)→List UInt8 × Int
 |_,[]=>([],0)
 |n,r::l=>if (C7 r.1 r.2 n).2=0 then (if (y7 (n+1) l).2=0 then ((C7 r.1 r.2 n).1++10::(y7 (n+1) l).1,0) else ([],(y7 (n+1) l).2)) else ([],(C7 r.1 r.2 n).2)
def I0 (n:Int):List UInt8:= [115,116,97,114,116]++32::([119,105,116,104]++32::(Lib.itoa n++32:: [115,116,105,116,99,104,101,115,46]))
def s5 (c:qE):List UInt8 × Int:=if T9 c=0 then (if (y7 1 c.2).2=0 then (if 60000<(I0 c.1++10::(y7 1 c.2).1).length then ([],4) else (I0 c.1++10::(y7 1 c.2).1,0)) else ([],(y7 1 c.2).2)) else ([],T9 c)
theorem dJ {c:qE} (h:(s5 c).2=0):T9 c=0∧(y7 1 c.2).2=0∧(I0 c.1++10::(y7 1 c.2).1).length≤60000∧s5 c=(I0 c.1++10::(y7 1 c.2).1,0):=by
 unfold s5 at h ⊢
 by_cases h1:T9 c=0
 ·rw[if_pos h1] at h ⊢
  by_cases h2:(y7 1 c.2).2=0
  ·rw[if_pos h2] at h ⊢
   by_cases h3:60000<(I0 c.1++10::(y7 1 c.2).1).length
   ·rw[if_pos h3] at h;exact absurd h (by decide)
   ·exact ⟨h1,h2,by omega,by rw[if_neg h3]⟩
  ·rw[if_neg h2] at h;exact absurd h h2
 ·rw[if_neg h1] at h;exact absurd h h1
theorem W5 {c:qE} (h:T9 c=0):c.2.length≤100∧(0≤c.1∧c.1≤200)∧lX c.2=0:=by
 unfold T9 at h
 split at h
 ·exact absurd h (by decide)
 split at h
 ·exact absurd h (by decide)
 ·exact ⟨by omega,by omega,h⟩
def W8:Int→List (Bool × List n8)→List (List UInt8)
 |_,[]=> []
 |n,r::l=>(C7 r.1 r.2 n).1::W8 (n+1) l
theorem W9:∀ (n:Int) (l:List (Bool × List n8)),(W8 n l).length=l.length
 |_,[]=>rfl
 |n,r::l=>by rw[W8,List.length_cons,List.length_cons,W9]
theorem oX:∀ (l:List (Bool × List n8)) (n:Int),(y7 n l).2=0→n4 10 (y7 n l).1=W8 n l++ [[]]
 | [],_,_=>(L1 (c:=10) (s:= []) (by simp))
 |r::l,n,h=>by
  unfold y7 at h ⊢
  by_cases h1:(C7 r.1 r.2 n).2=0
  ·rw[if_pos h1] at h ⊢
   by_cases h2:(y7 (n+1) l).2=0
   ·rw[if_pos h2]
    have h3:C7 r.1 r.2 n=((C7 r.1 r.2 n).1,0):=by rw[← h1]
    rw[E7 _ (aH6 h3),oX l (n+1) h2,W8]
    rfl
   ·rw[if_neg h2] at h;exact absurd h h2
  ·rw[if_neg h1] at h;exact absurd h h1
theorem rP:∀ (l:List (Bool × List n8)) (n:Int),(y7 n l).2=0→∀ j (hj:j<l.length),C7 l[j].1 l[j].2 (n+j)=((W8 n l)[j]'(by rw[W9];exact hj),0)
 | [],_,_,j,hj=>by simp at hj
 |r::l,n,h,j,hj=>by
  have h1:(C7 r.1 r.2 n).2=0∧(y7 (n+1) l).2=0:=by
   unfold y7 at h
   by_cases h1:(C7 r.1 r.2 n).2=0
   ·rw[if_pos h1] at h
    by_cases h2:(y7 (n+1) l).2=0
    ·exact ⟨h1,h2⟩
    ·rw[if_neg h2] at h;exact absurd h h2
   ·rw[if_neg h1] at h;exact absurd h h1
  cases j with
  |zero=>
   show C7 r.1 r.2 (n+((0:Nat):Int))=((C7 r.1 r.2 n).1,0)
   rw[show n+((0:Nat):Int)=n from by omega,← h1.1]
  |succ j=>
   have:=rP l (n+1) h1.2 j (by simpa using hj)
   simp only[List.getElem_cons_succ,W8]
   rw[← this]
   congr 1
   omega
theorem pY {n:Int} (hn:0≤n):n4 32 (I0 n)= [[115,116,97,114,116],[119,105,116,104],Lib.itoa n,[115,116,105,116,99,104,101,115,46]]:=by
 have h2:(32:UInt8) ∉ Lib.itoa n:=aT hn _ (by decide)
 unfold I0
 rw[E7 _ (by decide),E7 _ (by decide),E7 _ h2,L1 (by decide)]
theorem aI4 {n:Int} (hn:0≤n):(10:UInt8) ∉ I0 n:=by
 have h2:(10:UInt8) ∉ Lib.itoa n:=aT hn _ (by decide)
 unfold I0
 simp only[List.mem_append,List.mem_cons,h2,not_or]
 decide
theorem aR {c:qE} {s:List UInt8} (h:s5 c=(s,0)):n4 10 s=I0 c.1::(W8 1 c.2++ [[]]):=by
 obtain ⟨h1,h2,h3,h4⟩:=dJ (by rw[h]:(s5 c).2=0)
 rw[h] at h4
 rw[show s=_ from congrArg Prod.fst h4,E7 _ (aI4 (W5 h1).2.1.1),oX _ _ h2]
theorem UP:∀ (l m:List (Bool × List n8)) (n:Int),(y7 n l).2=0→(y7 n m).2=0→W8 n l=W8 n m→l=m:=fun l m n h1 h2 h=>by
 have hl:=congrArg List.length h
 rw[W9,W9] at hl
 refine List.ext_getElem hl fun j a b=>?_
 have e1:=rP l n h1 j a
 have e2:=rP m n h2 j b
 simp only[h] at e1
 obtain ⟨q1,q2,_⟩:=QI e1 e2
 exact Prod.ext q1 q2
theorem TR {c d:qE} {s:List UInt8} (h1:s5 c=(s,0)) (h2:s5 d=(s,0)):c=d:=by
 have e:=aR h1
 rw[aR h2] at e
 obtain ⟨e1,e2⟩:=List.cons.inj e
 have a:=dJ (by rw[h1]:(s5 c).2=0)
 have b:=dJ (by rw[h2]:(s5 d).2=0)
 have n1:=(W5 a.1).2.1
 have n2:=(W5 b.1).2.1
 have w:=congrArg (n4 32) e1
 rw[pY n1.1,pY n2.1] at w
 simp only[List.cons.injEq,and_true,true_and] at w
 refine Prod.ext (OE n2.1 n1.1 w).symm (UP _ _ 1 a.2.1 b.2.1 (List.append_cancel_right e2).symm)
open Classical in
noncomputable def pO (s:List UInt8):Option qE:=if h:∃ c:qE,s5 c=(s,0) then some (Classical.choose h) else none
theorem yS {c:qE} {s:List UInt8} (h:s5 c=(s,0)):pO s=some c:=by
 have hx:∃ c:qE,s5 c=(s,0):=⟨c,h⟩
 unfold pO
 rw[dif_pos hx,TR (Classical.choose_spec hx) h]
theorem VL {c:qE} {s:List UInt8} (h:pO s=some c):s5 c=(s,0):=by
 unfold pO at h
 split at h
 ·rename_i hx
  have h2:=Classical.choose_spec hx
  rw[Option.some.inj h] at h2
  exact h2
 ·cases h
end Go.Itp
namespace Go.Itp
set_option linter.unusedVariables false
set_option linter.unusedSimpArgs false
set_option maxRecDepth 10000
def zI (p:Bool):List UInt8:=if p=true then [112,117,114,108] else [107,110,105,116]
def GX (p:Bool):List UInt8:=if p=true then [32,112,117,114,108,119,105,115,101] else []
def p5 (k:Nat) (p:Bool):List (List UInt8):=match k with
 |1=> [zI p++ [32],[]]
 |2=> [[121,97,114,110,32,111,118,101,114]]
 |3=> [zI p++ [32],[32,116,111,103,101,116,104,101,114,32,40,102,105,114,115,116,32,111,110,32,116,111,112,41]]
 |4=> [zI p++ [32],[32,116,111,103,101,116,104,101,114]]
 |5=> [[109,97,107,101,32],[32,111,117,116,32,111,102,32,49]++GX p]
 |6=> [[99,114,111,115,115,32],[32,105,110,32,102,114,111,110,116,32,111,102,32],GX p]
 |7=> [[99,114,111,115,115,32],[32,98,101,104,105,110,100,32],GX p]
 |8=> [[115,108,105,112,32],if p=true then [32,119,105,116,104,32,121,97,114,110,32,105,110,32,102,114,111,110,116] else []]
 |9=> [[99,97,115,116,32,111,110,32],[]]
 |_=> [[98,105,110,100,32,111,102,102,32],GX p]
def P2 (k:Nat) (p:Bool):List UInt8:=join 35 (p5 k p)
def countB (k:Nat):Bool:=decide (k=1∨k=8)
theorem DA:∀ k p,∀ w ∈ p5 k p,(35:UInt8) ∉ w:=by
 intro k p
 unfold p5
 split<;>cases p<;>decide
theorem MW (k:Nat) (p:Bool):n4 35 (P2 k p)=p5 k p:=
 nQ (by unfold p5;split<;>simp) (DA k p)
def fill:List (List UInt8)→List Int→List UInt8
 | [],_=> []
 | [p],_=>p
 |p::ps,[]=>p++35::fill ps []
 |p::ps,v::vs=>p++(Lib.itoa v++fill ps vs)
def aU4 (x:n8) (n:Int):List Int:=if x.kind=1∨x.kind=8 then [n] else [x.a,x.b]
def J6 (x:n8) (n:Int):List UInt8:=if 1<n∧x.kind ≠ 1∧x.kind ≠ 8 then 32::(Lib.itoa n++32::V7) else []
theorem pF {x:n8} (n:Int) (hx:F8 x):B3 x n=fill (p5 x.kind x.purl) (aU4 x n)++J6 x n:=by
 have hb:∀ B:List (List UInt8),B ≠ []→join 32 (B++AA x n)=join 32 B++J6 x n:=fun B hB=>by
  unfold AA J6
  split
  ·rw[show B++ [Lib.itoa n,V7]=(B++ [Lib.itoa n])++ [V7] from by simp,rN _ _ (by simp),rN _ _ hB]
   simp
  ·simp
 unfold B3 U8
 rw[hb _ (LF x n)]
 congr 1
 obtain ⟨k,p,a,b⟩:=x
 unfold F8 at hx
 simp only at hx
 rcases hx with ⟨rfl|rfl,rfl,rfl⟩|⟨rfl,rfl,rfl,rfl⟩|⟨rfl|rfl|rfl,h2,h3,rfl⟩|⟨rfl|rfl,h2,h3⟩|⟨rfl,rfl,h2,h3,rfl⟩|⟨rfl,h2,h3,rfl⟩
 all_goals
  first
  |(cases p<;>simp[gJ,pW,mE,join,p5,fill,aU4,zI,GX])
  |simp[gJ,pW,mE,join,p5,fill,aU4,zI,GX]
def I2 (s:List UInt8):List UInt8:=(s.take 4).takeWhile B0
def aB:List UInt8→Int
 |l=>l.foldl (fun a d=>10*a+((d.toNat:Int) - 48)) 0
def eB (s:List UInt8):List UInt8:=s.drop (I2 s).length
theorem bA4:∀ (w:List UInt8),(∀ c ∈ w,B0 c=true)→w.takeWhile B0=w
 | [],_=>rfl
 |c::w,h=>by rw[List.takeWhile_cons,h c (by simp),if_pos rfl,bA4 w fun x hx=>h x (List.mem_cons_of_mem _ hx)]
theorem aE0 {w r:List UInt8} (hw:∀ c ∈ w,B0 c=true) (hl:w.length≤4) (hr:w.length=4∨∀ c,r.head? =some c→B0 c=false):I2 (w++r)=w:=by
 unfold I2
 rw[List.take_append,List.take_of_length_le hl,List.takeWhile_append]
 have h1:w.takeWhile B0=w:=bA4 w hw
 rw[h1,if_pos rfl]
 rcases hr with h|h
 ·rw[h];simp
 ·cases r with
  |nil=>simp
  |cons c r=>
   have:=h c rfl
   cases hk:4 - w.length with
   |zero=>simp
   |succ k=>rw[List.take_succ_cons,List.takeWhile_cons,this];simp
theorem sE (l:List UInt8) (d:UInt8):aB (l++ [d])=10*aB l+((d.toNat:Int) - 48):=by simp[aB]
theorem uA:∀ (n u:Nat),u≤n→aB (Lib.decDigits u)=u
 |n,u,hn=>by
  rw[Lib.decDigits]
  split
  ·rename_i h
   have:=(dL h).2
   simp only[aB,List.foldl_cons,List.foldl_nil,this]
   omega
  ·cases n with
   |zero=>omega
   |succ n=>
    rw[sE,uA n (u / 10) (by omega),(dL (show u % 10<10 by omega)).2]
    omega
theorem eH {z:Int} (h:0≤z):aB (Lib.itoa z)=z:=by
 obtain ⟨u,rfl⟩:=Int.eq_ofNat_of_zero_le h
 rw[Lib.itoa_nonneg]
 exact uA u u (Nat.le_refl _)
theorem F6 {z:Int} (h:0≤z) (h1:z≤9999):(Lib.itoa z).length≤4:=by
 obtain ⟨u,rfl⟩:=Int.eq_ofNat_of_zero_le h
 rw[Lib.itoa_nonneg]
 exact Y3 3 u (by omega)
def Q9 (r:List UInt8):Prop:=∀ c,r.head? =some c→B0 c=false
theorem W6 {z:Int} (h:0≤z) (h1:z≤9999) {r:List UInt8} (hr:Q9 r):I2 (Lib.itoa z++r)=Lib.itoa z:=
 aE0 (OD h) (F6 h h1) (.inr hr)
theorem cD {z:Int} (h:0≤z) (h1:z≤9999) {r:List UInt8} (hr:Q9 r):eB (Lib.itoa z++r)=r:=by
 unfold eB
 rw[W6 h h1 hr,List.drop_left]
def x9 (p s:List UInt8):Option (List UInt8):=if p.length≤s.length∧s.take p.length=p then some (s.drop p.length) else none
theorem H3 (p r:List UInt8):x9 p (p++r)=some r:=by
 unfold x9
 rw[if_pos ⟨by simp,by simp⟩]
 simp
def S5:List (List UInt8)→List UInt8→List Int→Option (List Int × List UInt8)
 | [],s,l=>some (l,s)
 |p::ps,s,l=>if I2 s= [] then none else match x9 p (eB s) with
  |none=>none
  |some t=>S5 ps t (l++ [aB (I2 s)])
def B7 (f:List (List UInt8)) (s:List UInt8):Option (List Int × List UInt8):=match f with
 | []=>some ([],s)
 |p::ps=>match x9 p s with
  |none=>none
  |some t=>S5 ps t []
theorem xQ:∀ (ps:List (List UInt8)) (s:List UInt8) (l m:List Int) (r:List UInt8),S5 ps s l=some (m,r)→m.length=l.length+ps.length∧r.length≤s.length
 | [],s,l,m,r,h=>by cases h;simp
 |p::ps,s,l,m,r,h=>by
  rw[S5] at h
  split at h
  ·cases h
  ·cases hc:x9 p (eB s) with
   |none=>rw[hc] at h;cases h
   |some t=>
    rw[hc] at h
    have:=xQ ps t _ m r h
    unfold x9 at hc
    split at hc
    ·cases hc
     rw[List.length_append,List.length_drop] at this
     unfold eB at this
     rw[List.length_drop] at this
     simp only[List.length_cons,List.length_nil] at this ⊢
     omega
    ·cases hc
theorem nA {f:List (List UInt8)} {s r:List UInt8} {m:List Int} (hf:f ≠ []) (h:B7 f s=some (m,r)):m.length+1=f.length∧r.length≤s.length:=by
 cases f with
 |nil=>exact absurd rfl hf
 |cons p ps=>
  unfold B7 at h
  cases hc:x9 p s with
  |none=>simp only[hc] at h;cases h
  |some t=>
   simp only[hc] at h
   have:=xQ ps t [] m r h
   unfold x9 at hc
   split at hc
   ·cases hc
    rw[List.length_drop] at this
    simp only[List.length_cons,List.length_nil] at this ⊢
    omega
   ·cases hc
theorem jA:∀ (ps:List (List UInt8)) (v:Int) (vs:List Int) (r:List UInt8) (l:List Int),ps ≠ []→vs.length+1=ps.length→(∀ z ∈ v::vs,0≤z∧z≤9999)→(∀ p ∈ ps.dropLast,p ≠ [])→(∀ p ∈ ps,Q9 p)→Q9 r→
  S5 ps (Lib.itoa v++fill ps vs++r) l=some (l++v::vs,r)
 | [],v,vs,r,l,h,_,_,_,_,_=>absurd rfl h
 | [p],v,vs,r,l,_,hl,hv,hne,hp,hr=>by
  have:vs= []:=by cases vs with
   |nil=>rfl
   |cons a b=>simp at hl
  subst this
  have h0:=hv v (by simp)
  have hnd:Q9 (p++r):=by
   cases p with
   |nil=>exact hr
   |cons c q=>intro d hd;exact hp (c::q) (by simp) d (by simpa using hd)
  rw[fill,List.append_assoc,S5,W6 h0.1 h0.2 hnd,if_neg oT,cD h0.1 h0.2 hnd,H3,eH h0.1]
  rfl
 |p::q::ps,v,vs,r,l,_,hl,hv,hne,hp,hr=>by
  cases vs with
  |nil=>simp at hl
  |cons u us=>
   have h0:=hv v (by simp)
   have hpn:=hne p (by simp)
   have hnd:Q9 (p++(Lib.itoa u++fill (q::ps) us++r)):=by
    cases p with
    |nil=>exact absurd rfl hpn
    |cons c t=>intro d hd;exact hp (c::t) (by simp) d (by simpa using hd)
   have e:Lib.itoa v++fill (p::q::ps) (u::us)++r=Lib.itoa v++(p++(Lib.itoa u++fill (q::ps) us++r)):=by
    rw[fill]
    ·simp
    ·simp
   rw[e,S5,W6 h0.1 h0.2 hnd,if_neg oT,cD h0.1 h0.2 hnd,H3,eH h0.1]
   simp only
   rw[jA (q::ps) u us r _ (by simp) (by simpa using hl) (fun z hz=>hv z (List.mem_cons_of_mem _ hz)) (fun z hz=>hne z (by simp at hz ⊢;exact .inr hz)) (fun z hz=>hp z (List.mem_cons_of_mem _ hz)) hr]
   simp
def jR:List UInt8:=32::V7
def J2 (p s:List UInt8):Option (List UInt8):=if p.length≤s.length∧s.drop (s.length - p.length)=p then some (s.take (s.length - p.length)) else none
theorem vV (p r:List UInt8):J2 p (r++p)=some r:=by
 unfold J2
 rw[if_pos ⟨by simp,by simp⟩]
 simp
def sS (k:Nat) (p:Bool) (m:List Int):n8:=if countB k=true then ⟨k,p,0,0⟩ else match m with
 | [a,b]=>⟨k,p,a,b⟩
 | [a]=>⟨k,p,a,0⟩
 |_=>⟨k,p,0,0⟩
def Z3 (k:Nat) (m:List Int) (rest:List UInt8):Int × List UInt8:=if countB k=true then (m.headD 0,rest) else match J2 jR rest with
 |none=>(1,rest)
 |some t=>(aB (I2 ((x9 [32] t).getD t)),eB ((x9 [32] t).getD t))
def bO (x:n8) (q:Int × List UInt8) (s:List UInt8):Option (n8 × Int):=if q.2= []∧(1≤q.1∧q.1≤200)∧F8 x∧B3 x q.1=s then some (x,q.1) else none
def iE (k:Nat) (p:Bool) (s:List UInt8):Option (n8 × Int):=match B7 (p5 k p) s with
 |none=>none
 |some (m,r)=>bO (sS k p m) (Z3 k m r) s
theorem TK {x y:n8} {q:Int × List UInt8} {s:List UInt8} {n:Int} (h:bO x q s=some (y,n)):dY s=some (y,n):=by
 unfold bO at h
 split at h
 ·rename_i hc
  cases h
  rw[← hc.2.2.2]
  exact pN hc.2.2.1 hc.2.1.1 hc.2.1.2
 ·cases h
theorem TL {k:Nat} {p:Bool} {s:List UInt8} {x:n8} {n:Int} (h:iE k p s=some (x,n)):dY s=some (x,n):=by
 unfold iE at h
 cases hm:B7 (p5 k p) s with
 |none=>rw[hm] at h;cases h
 |some r=>
  obtain ⟨m,r⟩:=r
  rw[hm] at h
  exact TK h
instance cA6 (r:List UInt8):Decidable (Q9 r):=decidable_of_iff (r.head?.all (fun c=> !B0 c)=true) (by
 cases r with
 |nil=>simp[Q9]
 |cons c r=>simp[Q9])
theorem UE:∀ k p,∀ w ∈ p5 k p,Q9 w:=by
 intro k p
 unfold p5
 split<;>cases p<;>decide
theorem UF:∀ k p,∀ w ∈ (p5 k p).tail.dropLast,w ≠ []:=by
 intro k p
 unfold p5
 split<;>cases p<;>decide
theorem VZ (x:n8) (n:Int):Q9 (J6 x n):=by
 unfold J6
 split
 ·intro c hc;cases hc;decide
 ·intro c hc;cases hc
theorem JC {x:n8} {n:Int} (hx:F8 x) (h0:1≤n) (h1:n≤200):B7 (p5 x.kind x.purl) (B3 x n)=some (if x.kind=2 then [] else (if x.kind=6∨x.kind=7 then [x.a,x.b] else if x.kind=1∨x.kind=8 then [n] else [x.a]),J6 x n):=by
 rw[pF n hx]
 have hd:=UE x.kind x.purl
 have hm:=UF x.kind x.purl
 have ht:=VZ x n
 have hb:=hx.bounds
 have two:∀ (p q:List UInt8) (v:Int),0≤v→v≤9999→Q9 q→∀ t,Q9 t→B7 [p,q] (fill [p,q] [v]++t)=some ([v],t):=fun p q v a b c t d=>by
  rw[fill,List.append_assoc,B7,H3]
  ·have:=jA [q] v [] t [] (by simp) rfl (by simp;omega) (by simp) (by simpa using c) d
   exact this
  ·simp
 have one:∀ p t:List UInt8,B7 [p] (p++t)=some ([],t):=fun p t=>by
  unfold B7
  simp only[H3]
  rfl
 have two':∀ (p q:List UInt8) (v u:Int),0≤v→v≤9999→Q9 q→∀ t,Q9 t→B7 [p,q] (fill [p,q] [v,u]++t)=some ([v],t):=fun p q v u a b c t d=>by
  have:=two p q v a b c t d
  have e:fill [p,q] [v,u]=fill [p,q] [v]:=by
   rw[fill,fill,fill,fill]<;>simp
  rw[e];exact this
 have three:∀ (p q r:List UInt8) (v u:Int),0≤v→v≤9999→0≤u→u≤9999→Q9 q→q ≠ []→Q9 r→∀ t,Q9 t→B7 [p,q,r] (fill [p,q,r] [v,u]++t)=some ([v,u],t):=fun p q r v u a b a' b' c c' d t e=>by
  rw[fill,List.append_assoc,B7,H3]
  ·have:=jA [q,r] v [u] t [] (by simp) rfl (by simp;omega) (by simpa using c') (by simpa using ⟨c,d⟩) e
   exact this
  ·simp
 obtain ⟨k,p,a,b⟩:=x
 unfold F8 at hx
 simp only at hx hb hd hm ht ⊢
 rcases hx with ⟨rfl|rfl,rfl,rfl⟩|⟨rfl,rfl,rfl,rfl⟩|⟨rfl|rfl|rfl,h2,h3,rfl⟩|⟨rfl|rfl,h2,h3⟩|⟨rfl,rfl,h2,h3,rfl⟩|⟨rfl,h2,h3,rfl⟩
 ·exact two _ _ n (by omega) (by omega) (hd _ (by simp[p5])) _ ht
 ·exact two _ _ n (by omega) (by omega) (hd _ (by simp[p5])) _ ht
 ·exact one _ _
 ·exact two' _ _ a 0 (by omega) (by omega) (hd _ (by simp[p5])) _ ht
 ·exact two' _ _ a 0 (by omega) (by omega) (hd _ (by simp[p5])) _ ht
 ·exact two' _ _ a 0 (by omega) (by omega) (hd _ (by simp[p5])) _ ht
 ·exact three _ _ _ a b (by omega) (by omega) (by omega) (by omega) (hd _ (by simp[p5])) (hm _ (by simp[p5])) (hd _ (by simp[p5])) _ ht
 ·exact three _ _ _ a b (by omega) (by omega) (by omega) (by omega) (hd _ (by simp[p5])) (hm _ (by simp[p5])) (hd _ (by simp[p5])) _ ht
 ·exact two' _ _ a 0 (by omega) (by omega) (hd _ (by simp[p5])) _ ht
 ·exact two' _ _ a 0 (by omega) (by omega) (hd _ (by simp[p5])) _ ht
theorem LV {x:n8} {n:Int} (hk:¬ (x.kind=1∨x.kind=8)) (h0:1≤n) (h1:n≤200) (m:List Int):Z3 x.kind m (J6 x n)=(n,[]):=by
 unfold Z3 countB
 rw[decide_eq_false hk,if_neg (by decide)]
 unfold J6
 by_cases h2:1<n
 ·rw[if_pos ⟨h2,fun e=>hk (.inl e),fun e=>hk (.inr e)⟩,show (32::(Lib.itoa n++32::V7))=(32::Lib.itoa n)++jR from by simp[jR],vV]
  have e:x9 [32] (32::Lib.itoa n)=some (Lib.itoa n):=H3 [32] (Lib.itoa n)
  have hd:Q9 []:=by decide
  have d1:=W6 (z:=n) (by omega) (by omega) hd
  have d2:=cD (z:=n) (by omega) (by omega) hd
  rw[List.append_nil] at d1 d2
  simp only[e,Option.getD_some,d1,d2,eH (show 0≤n by omega)]
 ·rw[if_neg (fun e=>h2 e.1)]
  have:n=1:=by omega
  subst this
  rfl
theorem aN6 {x:n8} {n:Int} (hx:F8 x) (h0:1≤n) (h1:n≤200):iE x.kind x.purl (B3 x n)=some (x,n):=by
 unfold iE
 rw[JC hx h0 h1]
 simp only
 have fin:∀ m,sS x.kind x.purl m=x→Z3 x.kind m (J6 x n)=(n,[])→bO (sS x.kind x.purl m) (Z3 x.kind m (J6 x n)) (B3 x n)=some (x,n):=fun m e1 e2=>by
  rw[e1,e2]
  unfold bO
  rw[if_pos ⟨rfl,⟨h0,h1⟩,hx,rfl⟩]
 have hb:=hx.bounds
 have hx':=hx
 unfold F8 at hx'
 refine fin _ ?_ ?_
 ·clear fin
  obtain ⟨k,p,a,b⟩:=x
  simp only at hx' ⊢
  rcases hx' with ⟨rfl|rfl,rfl,rfl⟩|⟨rfl,rfl,rfl,rfl⟩|⟨rfl|rfl|rfl,h2,h3,rfl⟩|⟨rfl|rfl,h2,h3⟩|⟨rfl,rfl,h2,h3,rfl⟩|⟨rfl,h2,h3,rfl⟩<;>rfl
 ·by_cases hk:x.kind=1∨x.kind=8
  ·have ht:J6 x n= []:=by unfold J6;rw[if_neg (by omega)]
   rw[ht]
   unfold Z3 countB
   rw[decide_eq_true hk,if_pos rfl]
   rcases hk with e|e<;>simp[e]
  ·exact LV hk h0 h1 _
def W0 (l:List UInt8):Option Int:=if l ≠ []∧l.length≤4∧(1<l.length→l[0]! ≠ 48)∧l.all B0=true then some (((Lib.decFrom 0 l).getD 0:Nat):Int) else none
theorem aH0 {cand:Nat→Bool→List UInt8→Option (n8 × Int)} (hof:∀ {x:n8} {n:Int},F8 x→1≤n→n≤200→cand x.kind x.purl (B3 x n)=some (x,n)) {s:List UInt8} (h:∀ k p,1≤k→k≤10→cand k p s=none):dY s=none:=by
 cases hr:dY s with
 |none=>rfl
 |some r=>
  obtain ⟨x,n⟩:=r
  obtain ⟨a,b,c⟩:=yR hr
  have:=hof a b.1 b.2
  rw[c,h x.kind x.purl a.bounds.1 a.bounds.2.1] at this
  cases this
end Go.Itp
namespace Go.Proofs.YtimmmnanllcfoaaDoor
open Go Go.Itp
set_option maxRecDepth 100000
set_option maxHeartbeats 400000
set_option linter.unusedSimpArgs false
set_option linter.unusedVariables false
def fL:Nat→List UInt8
 |3=> [102]|4=> [108]|5=> [109]|6=> [120]|7=> [121]|8=> [115]|10=> [111]
 |_=> []
def fA0:Nat→Int
 |3=>2|4=>2|5=>2|6=>1|7=>1|9=>1|10=>1
 |_=>0
def fA1:Nat→Int
 |3=>4|4=>4|5=>4|6=>6|7=>6|9=>200|10=>200
 |_=>0
def fB0:Nat→Int
 |6=>1|7=>1
 |_=>0
def fB1:Nat→Int
 |6=>6|7=>6
 |_=>0
def fS:Nat→Bool
 |2=>false|9=>false
 |_=>true
def fU:Nat→Nat
 |1=>1|2=>0|3=>2|4=>2|5=>1|6=>3|7=>3|8=>1|9=>0
 |_=>2
def fM:Nat→Nat
 |1=>1|2=>1|3=>1|4=>1|5=>2|6=>3|7=>3|8=>1|9=>2
 |_=>0
def bT (k:Nat):List Value:= [.string ⟨(fL k).toArray⟩,.int .i64 (fA0 k),.int .i64 (fA1 k),.int .i64 (fB0 k),.int .i64 (fB1 k),.bool (fS k),.int .i64 (fU k),.int .i64 (fM k)]
def UH:List D:=(bT 1++bT 2++bT 3++bT 4++bT 5++bT 6++bT 7++bT 8++bT 9++bT 10).map D.sc
theorem cF8 (s g u m:Value) (a b c d:Value):aC (VJ (VJ [.sc s,.sc (.int .i64 0),.sc (.int .i64 0),.sc (.int .i64 0),.sc (.int .i64 0),.sc (.bool false),.sc (.int .i64 0),.sc (.int .i64 0)] 1 [.sc a,.sc b]) 3 [.sc c,.sc d]) [(5,1,.sc g),(6,1,.sc u),(7,1,.sc m)]=some [.sc s,.sc a,.sc b,.sc c,.sc d,.sc g,.sc u,.sc m]:=(rfl)
theorem cF9 (nx t:Nat):N7 nx t 8 10 [.string ⟨#[]⟩,.int .i64 0,.int .i64 0,.int .i64 0,.int .i64 0,.bool false,.int .i64 0,.int .i64 0] [(0,8,.agg [.sc (.string ⟨#[]⟩),.sc (.int .i64 0),.sc (.int .i64 0),.sc (.int .i64 0),.sc (.int .i64 0),.sc (.bool true),.sc (.int .i64 1),.sc (.int .i64 1)]),(8,8,.agg [.sc (.string ⟨#[]⟩),.sc (.int .i64 0),.sc (.int .i64 0),.sc (.int .i64 0),.sc (.int .i64 0),.sc (.bool false),.sc (.int .i64 0),.sc (.int .i64 1)]),(16,8,.agg [.sc (.string ⟨#[102]⟩),.sc (.int .i64 2),.sc (.int .i64 4),.sc (.int .i64 0),.sc (.int .i64 0),.sc (.bool true),.sc (.int .i64 2),.sc (.int .i64 1)]),(24,8,.agg [.sc (.string ⟨#[108]⟩),.sc (.int .i64 2),.sc (.int .i64 4),.sc (.int .i64 0),.sc (.int .i64 0),.sc (.bool true),.sc (.int .i64 2),.sc (.int .i64 1)]),(32,8,.agg [.sc (.string ⟨#[109]⟩),.sc (.int .i64 2),.sc (.int .i64 4),.sc (.int .i64 0),.sc (.int .i64 0),.sc (.bool true),.sc (.int .i64 1),.sc (.int .i64 2)]),(40,8,.agg [.sc (.string ⟨#[120]⟩),.sc (.int .i64 1),.sc (.int .i64 6),.sc (.int .i64 1),.sc (.int .i64 6),.sc (.bool true),.sc (.int .i64 3),.sc (.int .i64 3)]),(48,8,.agg [.sc (.string ⟨#[121]⟩),.sc (.int .i64 1),.sc (.int .i64 6),.sc (.int .i64 1),.sc (.int .i64 6),.sc (.bool true),.sc (.int .i64 3),.sc (.int .i64 3)]),(56,8,.agg [.sc (.string ⟨#[115]⟩),.sc (.int .i64 0),.sc (.int .i64 0),.sc (.int .i64 0),.sc (.int .i64 0),.sc (.bool true),.sc (.int .i64 1),.sc (.int .i64 1)]),(64,8,.agg [.sc (.string ⟨#[]⟩),.sc (.int .i64 1),.sc (.int .i64 200),.sc (.int .i64 0),.sc (.int .i64 0),.sc (.bool false),.sc (.int .i64 0),.sc (.int .i64 2)]),(72,8,.agg [.sc (.string ⟨#[111]⟩),.sc (.int .i64 1),.sc (.int .i64 200),.sc (.int .i64 0),.sc (.int .i64 0),.sc (.bool true),.sc (.int .i64 2),.sc (.int .i64 0)])]=some (.ref nx 0 10 10,some (.row t 8 false false UH),[]):=(rfl)
theorem aE4 (k:Nat) (h1:1≤k) (h2:k≤10):D0 UH ((k - 1)*8) (some 8)=some (.agg ((bT k).map V.sc)):=by
 rcases (by omega:k=1∨k=2∨k=3∨k=4∨k=5∨k=6∨k=7∨k=8∨k=9∨k=10) with rfl|rfl|rfl|rfl|rfl|rfl|rfl|rfl|rfl|rfl<;>rfl
attribute [local irreducible] UH
theorem aI8 {x:n8} (h1:1≤x.kind) (h2:x.kind≤10):F8 x↔(fA0 x.kind≤x.a∧x.a≤fA1 x.kind)∧(fB0 x.kind≤x.b∧x.b≤fB1 x.kind)∧(x.purl=true→fS x.kind=true):=by
 obtain ⟨k,p,a,b⟩:=x
 simp only at h1 h2 ⊢
 unfold F8
 simp only
 rcases (by omega:k=1∨k=2∨k=3∨k=4∨k=5∨k=6∨k=7∨k=8∨k=9∨k=10) with rfl|rfl|rfl|rfl|rfl|rfl|rfl|rfl|rfl|rfl
 all_goals
  cases p<;>simp[fA0,fA1,fB0,fB1,fS]<;>omega
theorem aI9 {x:n8} (h:¬ (1≤x.kind∧x.kind≤10)):D3 x=false:=by
 rw[← Bool.not_eq_true,D6]
 intro hx
 exact h ⟨hx.bounds.1,hx.bounds.2.1⟩
def JA (x:n8) (h:Nat):Int:=if h=0 then 0 else if h=1 then 1 else if h=2 then x.a else x.a+x.b
theorem WF {x:n8} (h1:1≤x.kind) (h2:x.kind≤10):P4 x=JA x (fU x.kind)∧P3 x=JA x (fM x.kind):=by
 obtain ⟨k,p,a,b⟩:=x
 simp only at h1 h2 ⊢
 rcases (by omega:k=1∨k=2∨k=3∨k=4∨k=5∨k=6∨k=7∨k=8∨k=9∨k=10) with rfl|rfl|rfl|rfl|rfl|rfl|rfl|rfl|rfl|rfl
 all_goals
  simp[P4,P3,JA,fU,fM]
theorem aP7 (k:Nat):fU k≤3∧fM k≤3:=by
 constructor
 ·unfold fU;split<;>decide
 ·unfold fM;split<;>decide
abbrev nN (x:n8):V:= .agg [.sc (.int .u8 x.kind),.sc (.bool x.purl),.sc (.int .i64 x.a),.sc (.int .i64 x.b)]
theorem BE:Int.toNat 0=0:=rfl
theorem tn1:Int.toNat 1=1:=rfl
section
variable (w:World) (n:Nat)
theorem XK (k:Nat) (hk:1≤k) (hk2:k≤10):m6 (EN w (n+1)) 70 [.sc (.int .u8 k)] (.tup [.agg ((bT k).map V.sc),.sc (.bool true)]) ⟨[],0,0⟩:=by
 refine d7 rfl rfl (fun _ _=>rfl) (Nat.le_of_ble_eq_true rfl) (g9 w) rfl fun C hC h0=>?_
 have hld:=aE4 k hk hk2
 have hw:IntKind.u8.wrap ((k:Int) - 1)=((k - 1:Nat):Int):=by rw[uR _ (by omega) (by omega)];omega
 unfold bT at hld ⊢
 simp (disch:=first|omega|exact bd (by with_unfolding_all rfl)|(simp only[d6]<;>omega)) only[WA,Nat.reduceEqDiff,Nat.reduceLT,Nat.reduceAdd,↓reduceIte,reduceCtorEq,List.replicate,c70,cF8,↓cF9]
 rw[hw]
 simp (disch:=first|exact bd (by with_unfolding_all rfl)|(simp only[d6]<;>omega)) only[WA,Nat.reduceEqDiff,Nat.reduceLT,↓reduceIte,reduceCtorEq,hld]
 exact b8 rfl h0 rfl
theorem aQ0 (k:Nat) (hk:¬ (1≤k∧k≤10)) (hb:k<256):m6 (EN w (n+1)) 70 [.sc (.int .u8 k)] (.tup [.agg [.sc (.string ⟨#[]⟩),.sc (.int .i64 0),.sc (.int .i64 0),.sc (.int .i64 0),.sc (.int .i64 0),.sc (.bool false),.sc (.int .i64 0),.sc (.int .i64 0)],.sc (.bool false)]) ⟨[],0,0⟩:=by
 have hne:¬ (k:Int)<1→10<(k:Int):=by omega
 by_cases h1:(k:Int)<1
 all_goals
  refine d7 rfl rfl (fun _ _=>rfl) (Nat.le_of_ble_eq_true rfl) (g9 w) rfl fun C hC h0=>?_
  repeat' (first|(simp (disch:=first|omega|exact bd (by with_unfolding_all rfl)|(simp only[d6]<;>omega)) only[WA,Nat.reduceEqDiff,Nat.reduceLT,Nat.reduceAdd,↓reduceIte,reduceCtorEq,List.replicate,c70,cF8,↓cF9])|apply A2|((first|apply J4|apply A9|apply E9|apply J5|apply J3|apply F3)<;>intro _))
  all_goals try (exfalso;omega)
  exact b8 rfl h0 rfl
theorem SN (v lo hi:Int):m6 (EN w (n+1)) 71 [.sc (.int .i64 v),.agg [.sc (.int .i64 lo),.sc (.int .i64 hi)]] (.sc (.bool (decide (lo≤v∧v≤hi)))) ⟨[],0,0⟩:=by
 refine d7 rfl rfl (fun _ _=>rfl) (Nat.le_of_ble_eq_true rfl) (g9 w) rfl fun C hC h0=>?_
 by_cases h1:lo≤v
 ·by_cases h2:v≤hi
  ·rw[decide_eq_true ⟨h1,h2⟩]
   simp (disch:=first|omega|exact bd (by with_unfolding_all rfl)|fail) only[WA,Nat.reduceEqDiff,Nat.reduceLT,↓reduceIte,reduceCtorEq,c71,BE,tn1]
   all_goals try (exfalso;omega)
   exact b8 rfl h0 rfl
  ·rw[decide_eq_false (fun h=>h2 h.2)]
   simp (disch:=first|omega|exact bd (by with_unfolding_all rfl)|fail) only[WA,Nat.reduceEqDiff,Nat.reduceLT,↓reduceIte,reduceCtorEq,c71,BE,tn1]
   all_goals try (exfalso;omega)
   exact b8 rfl h0 rfl
 ·rw[decide_eq_false (fun h=>h1 h.1)]
  simp (disch:=first|omega|exact bd (by with_unfolding_all rfl)|fail) only[WA,Nat.reduceEqDiff,Nat.reduceLT,↓reduceIte,reduceCtorEq,c71,BE,tn1]
  all_goals try (exfalso;omega)
  exact b8 rfl h0 rfl
end
end Go.Proofs.YtimmmnanllcfoaaDoor
namespace Go.Proofs.YtimmmnanllcfoaaDoor
open Go Go.Itp
set_option maxRecDepth 100000
set_option maxHeartbeats 400000
set_option linter.unusedSimpArgs false
set_option linter.unusedVariables false
def r8 (L:List n8):List D:=L.flatMap fun x=> [.sc (.int .u8 x.kind),.sc (.bool x.purl),.sc (.int .i64 x.a),.sc (.int .i64 x.b)]
theorem z7 (L:List n8):(r8 L).length=L.length*4:=by
 induction L with
 |nil=>rfl
 |cons p L ih=>
  have e:r8 (p::L)= [.sc (.int .u8 p.kind),.sc (.bool p.purl),.sc (.int .i64 p.a),.sc (.int .i64 p.b)]++r8 L:=by simp[r8]
  rw[e,List.length_append,ih];simp;omega
theorem L9 (L:List n8) (k:Nat) (hk:k<L.length):D0 (r8 L) (k*4) (some 4)=some (nN L[k]!):=by
 have:=wA (fun x:n8=> [D.sc (.int .u8 x.kind),.sc (.bool x.purl),.sc (.int .i64 x.a),.sc (.int .i64 x.b)]) 4 L (fun _=>rfl) (by decide) k hk
 unfold r8
 rw[this]
 rfl
theorem ix0 (a b c d:V):wY 4 1 none (.agg [a,b,c,d]) (.sc (.int .i64 ((0:Nat):Int)))=some a:=(rfl)
theorem ix1 (a b c d:V):wY 4 1 none (.agg [a,b,c,d]) (.sc (.int .i64 ((1:Nat):Int)))=some b:=(rfl)
theorem ix2 (a b c d:V):wY 4 1 none (.agg [a,b,c,d]) (.sc (.int .i64 ((2:Nat):Int)))=some c:=(rfl)
theorem ix3 (a b c d:V):wY 4 1 none (.agg [a,b,c,d]) (.sc (.int .i64 ((3:Nat):Int)))=some d:=(rfl)
section
variable (w:World) (n:Nat)
theorem QQ (x:n8) (hk:x.kind<256):m6 (EN w (n+2)) 49 [nN x] (.sc (.int .i64 (if D3 x=true then 0 else 8))) ⟨[],0,0⟩:=by
 by_cases hr:1≤x.kind∧x.kind≤10
 ·have hf:=XK w n x.kind hr.1 hr.2
  have w1:=SN w n x.a (fA0 x.kind) (fA1 x.kind)
  have w2:=SN w n x.b (fB0 x.kind) (fB1 x.kind)
  have he:D3 x=(decide (fA0 x.kind≤x.a∧x.a≤fA1 x.kind) && (decide (fB0 x.kind≤x.b∧x.b≤fB1 x.kind) && (!x.purl||fS x.kind))):=by
   have h1:=aI8 hr.1 hr.2
   rw[Bool.eq_iff_iff,D6,h1]
   cases x.purl<;>simp
  rw[he]
  unfold bT at hf
  generalize decide (fA0 x.kind≤x.a∧x.a≤fA1 x.kind)=A at*
  generalize decide (fB0 x.kind≤x.b∧x.b≤fB1 x.kind)=B at*
  generalize fS x.kind=S at*
  obtain ⟨k,p,a,b⟩:=x
  simp only at hf w1 w2 ⊢
  have go:∀ e:Int,(A=false∧e=8)∨(A=true∧B=false∧e=8)∨(A=true∧B=true∧p=false∧e=0)∨(A=true∧B=true∧p=true∧S=false∧e=8)∨(A=true∧B=true∧p=true∧S=true∧e=0)→m6 (EN w (n+2)) 49 [nN ⟨k,p,a,b⟩] (.sc (.int .i64 e)) ⟨[],0,0⟩:=by
   rintro e (⟨rfl,rfl⟩|⟨rfl,rfl,rfl⟩|⟨rfl,rfl,rfl,rfl⟩|⟨rfl,rfl,rfl,rfl,rfl⟩|⟨rfl,rfl,rfl,rfl,rfl⟩)
   all_goals
    refine d7 rfl rfl (fun _ _=>rfl) (Nat.le_of_ble_eq_true rfl) (g9 w) rfl fun C hC h0=>?_
    repeat' (first|(simp (disch:=first|exact bd (by with_unfolding_all rfl)|fail) only[WA,Nat.reduceEqDiff,Nat.reduceLT,↓reduceIte,reduceCtorEq,c49]))
    refine a6 (by rw[hC];exact hf.flat rfl rfl) ?_
    repeat' (first|(simp (disch:=first|exact bd (by with_unfolding_all rfl)|(simp only[d6]<;>omega)) only[WA,Nat.reduceEqDiff,Nat.reduceLT,Nat.reduceAdd,↓reduceIte,reduceCtorEq,List.replicate]))
    refine a6 (by rw[hC];exact w1.flat rfl rfl) ?_
    repeat' (first|(simp (disch:=first|exact bd (by with_unfolding_all rfl)|fail) only[WA,Nat.reduceEqDiff,Nat.reduceLT,↓reduceIte,reduceCtorEq]))
   ·exact b8 rfl h0 rfl
   all_goals
    refine a6 (by rw[hC];exact w2.flat rfl rfl) ?_
    repeat' (first|(simp (disch:=first|exact bd (by with_unfolding_all rfl)|fail) only[WA,Nat.reduceEqDiff,Nat.reduceLT,↓reduceIte,reduceCtorEq]))
    exact b8 rfl h0 rfl
  refine go _ ?_
  cases A<;>cases B<;>cases p<;>cases S<;>simp
 ·have hf:=aQ0 w n x.kind hr hk
  rw[aI9 hr]
  obtain ⟨k,p,a,b⟩:=x
  refine d7 rfl rfl (fun _ _=>rfl) (Nat.le_of_ble_eq_true rfl) (g9 w) rfl fun C hC h0=>?_
  simp (disch:=first|exact bd (by with_unfolding_all rfl)|fail) only[WA,Nat.reduceEqDiff,Nat.reduceLT,↓reduceIte,reduceCtorEq,c49]
  refine a6 (by rw[hC];exact hf.flat rfl rfl) ?_
  simp (disch:=first|omega|exact bd (by with_unfolding_all rfl)|(simp only[d6]<;>omega)) only[WA,Nat.reduceEqDiff,Nat.reduceLT,Nat.reduceAdd,↓reduceIte,List.replicate]
  exact b8 rfl h0 rfl
theorem YS (x:n8) (h:Nat) (hh:h≤3) (ha: -1000000≤x.a∧x.a≤1000000) (hb: -1000000≤x.b∧x.b≤1000000):m6 (EN w (n+1)) 72 [nN x,.sc (.int .i64 h)] (.sc (.int .i64 (JA x h))) ⟨[],0,0⟩:=by
 obtain ⟨k,p,a,b⟩:=x
 simp only at ha hb
 rcases (by omega:h=0∨h=1∨h=2∨h=3) with rfl|rfl|rfl|rfl
 all_goals
  refine d7 rfl rfl (fun _ _=>rfl) (Nat.le_of_ble_eq_true rfl) (g9 w) rfl fun C hC h0=>?_
  repeat' (first|(simp (disch:=first|omega|exact bd (by with_unfolding_all rfl)|(simp only[d6]<;>omega)) only[WA,Nat.reduceEqDiff,Nat.reduceLT,↓reduceIte,reduceCtorEq,c72,ix0,ix1,ix2,ix3]))
  all_goals try (exfalso;omega)
  exact b8 rfl h0 rfl
theorem lD {f:n8→Int} {L:List n8} (h:∀ x ∈ L,0≤f x∧f x≤1000):0≤Q0 f L∧Q0 f L≤1000*L.length:=by
 induction L with
 |nil=>simp[Q0]
 |cons x L ih=>
  have h1:=h x (by simp)
  have h2:=ih fun y hy=>h y (List.mem_cons_of_mem _ hy)
  simp only[Q0,List.length_cons]
  omega
theorem lC {f:n8→Int} {L:List n8} {k:Nat} (hk:k<L.length):Q0 f (L.take (k+1))=Q0 f (L.take k)+f L[k]! :=by
 have app:∀ A B:List n8,Q0 f (A++B)=Q0 f A+Q0 f B:=by
  intro A B
  induction A with
  |nil=>simp[Q0]
  |cons x A ih=>simp only[List.cons_append,Q0,ih];omega
 rw[List.take_succ_eq_append_getElem hk,app,getElem!_pos _ k hk]
 simp[Q0]
theorem Y0 {x:n8} (h:F8 x):(0≤P4 x∧P4 x≤1000)∧0≤P3 x∧P3 x≤1000:=by
 have hb:=h.bounds
 unfold P4 P3
 constructor
 ·split
  ·omega
  split
  ·omega
  split<;>omega
 ·split
  ·omega
  split
  ·omega
  split<;>omega
theorem bW9 (s:Nat) (L:List n8) (hL:L.length≤200) (hok:L.all D3=true):m6 (EN w (n+2)) 50 [.sl s L.length (r8 L)] (.tup [.sc (.int .i64 (Q0 P4 L)),.sc (.int .i64 (Q0 P3 L))]) ⟨[],0,0⟩:=by
 refine d7 rfl rfl (fun _ _=>rfl) (Nat.le_of_ble_eq_true rfl) (g9 w) rfl fun C hC h0=>?_
 have hrn:C.E.rounds=C6:=by rw[hC,k8]
 have hil:=z7 L
 simp (disch:=first|exact bd (by with_unfolding_all rfl)|fail) only[WA,Nat.reduceEqDiff,Nat.reduceLT,↓reduceIte,reduceCtorEq,c50]
 all_goals try (exfalso;omega)
 refine y6 (fun m fr st=>∃ (k:Nat),m=L.length - k∧k≤L.length∧fr= [(2,.sc (.int .i64 (Q0 P4 (L.take k)))),(3,.sc (.int .i64 (Q0 P3 (L.take k)))),(8,.sl s L.length (r8 L)),(9,.sc (.int .i64 L.length)),(10,.sc (.int .i64 k))]∧st=⟨[],0,0⟩) L.length ?_ ⟨_,_,.refl _ _,0,by omega,Nat.zero_le _,rfl,rfl⟩ ?_
 ·rw[hrn];unfold C6;omega
 rintro m fr st ⟨k,rfl,hk,rfl,rfl⟩
 by_cases hlt:k<L.length
 case neg=>
  have:k=L.length:=by omega
  subst this
  rw[List.take_length]
  simp (disch:=first|omega|exact bd (by with_unfolding_all rfl)|fail) only[WA,Nat.reduceEqDiff,Nat.reduceLT,↓reduceIte,aM9]
  all_goals try (exfalso;omega)
  exact b8 rfl h0 rfl
 have hag:=L9 L k hlt
 have u1:=lC (f:=P4) hlt
 have u2:=lC (f:=P3) hlt
 have htk:∀ x ∈ L.take k,F8 x:=fun x hx=>D6.1 (List.all_eq_true.1 hok x (List.mem_of_mem_take hx))
 have b1:=lD (f:=P4) fun x hx=>(Y0 (htk x hx)).1
 have b2:=lD (f:=P3) fun x hx=>(Y0 (htk x hx)).2
 have hl2:(L.take k).length≤200:=by rw[List.length_take];omega
 have hx:F8 L[k]! :=D6.1 (List.all_eq_true.1 hok _ (by rw[getElem!_pos _ k hlt];exact List.getElem_mem hlt))
 generalize L[k]! =X at*
 have hb:=hx.bounds
 have c1:=Y0 hx
 have hf:=XK w n X.kind hb.1 hb.2.1
 have l1:=YS w n X (fU X.kind) (aP7 _).1 (by omega) (by omega)
 have l2:=YS w n X (fM X.kind) (aP7 _).2 (by omega) (by omega)
 have e:=WF hb.1 hb.2.1
 rw[← e.1] at l1
 rw[← e.2] at l2
 unfold bT at hf
 generalize Q0 P4 (L.take k)=U at*
 generalize Q0 P3 (L.take k)=M at*
 generalize P4 X=uu at*
 generalize P3 X=mm at*
 obtain ⟨xk,xp,xa,xb⟩:=X
 simp (disch:=first|omega|exact bd (by with_unfolding_all rfl)|(simp only[d6]<;>omega)) only[WA,Nat.reduceEqDiff,Nat.reduceLT,↓reduceIte,List.replicate,aM9,hag]
 all_goals try (exfalso;omega)
 refine a6 (by rw[hC];exact hf.flat rfl rfl) ?_
 simp (disch:=first|exact bd (by with_unfolding_all rfl)|(simp only[d6]<;>omega)) only[WA,Nat.reduceEqDiff,Nat.reduceLT,Nat.reduceAdd,↓reduceIte,reduceCtorEq,List.replicate]
 refine a6 (by rw[hC];exact l1.flat rfl rfl) ?_
 simp (disch:=first|omega|exact bd (by with_unfolding_all rfl)|fail) only[WA,Nat.reduceEqDiff,Nat.reduceLT,↓reduceIte,reduceCtorEq]
 refine a6 (by rw[hC];exact l2.flat rfl rfl) ?_
 simp (disch:=first|omega|exact bd (by with_unfolding_all rfl)|fail) only[WA,Nat.reduceEqDiff,Nat.reduceLT,↓reduceIte]
 all_goals try (exfalso;omega)
 refine ⟨L.length - (k+1),_,_,by omega,s9 [] 0 h0 rfl rfl rfl rfl,k+1,rfl,by omega,?_,rfl⟩
 rw[u1,u2]
 rfl
end
abbrev KP (L:List n8):Prop:=∀ x ∈ L,x.kind<256
theorem KP.at {L:List n8} (h:KP L) {k:Nat} (hk:k<L.length):L[k]!.kind<256:=h _ (by rw[getElem!_pos _ k hk];exact List.getElem_mem hk)
theorem GB {L:List n8} {k:Nat} (hk:k<L.length) (h:(L.take k).all D3=true) (h2:D3 L[k]! =true):(L.take (k+1)).all D3=true:=by
 rw[List.take_succ_eq_append_getElem hk,List.all_append,h]
 rw[getElem!_pos _ k hk] at h2
 simp[h2]
theorem RB {L:List n8} {k:Nat} (hk:k<L.length) (h2:D3 L[k]! =false):¬ L.all D3=true:=fun h=>by
 rw[getElem!_pos _ k hk] at h2
 have:=List.all_eq_true.1 h _ (List.getElem_mem hk)
 rw[this] at h2;cases h2
section
variable (w:World) (n:Nat)
theorem bJ5 (x:n8) (hk:x.kind<256):m6 (EN w (n+3)) 48 [nN x] (.sc (.bool (!D3 x))) ⟨[],0,0⟩:=by
 have hc:=QQ w n x hk
 cases he:D3 x with
 |true=>
  rw[he,if_pos rfl] at hc
  obtain ⟨xk,xp,xa,xb⟩:=x
  refine d7 rfl rfl (fun _ _=>rfl) (Nat.le_of_ble_eq_true rfl) (g9 w) rfl fun C hC h0=>?_
  simp (disch:=first|exact bd (by with_unfolding_all rfl)|fail) only[WA,Nat.reduceEqDiff,Nat.reduceLT,↓reduceIte,reduceCtorEq,c48]
  refine a6 (by rw[hC];exact hc.flat rfl rfl) ?_
  simp (disch:=first|exact bd (by with_unfolding_all rfl)|fail) only[WA,Nat.reduceEqDiff,Nat.reduceLT,↓reduceIte]
  exact b8 rfl h0 rfl
 |false=>
  rw[he,if_neg (by decide)] at hc
  obtain ⟨xk,xp,xa,xb⟩:=x
  refine d7 rfl rfl (fun _ _=>rfl) (Nat.le_of_ble_eq_true rfl) (g9 w) rfl fun C hC h0=>?_
  simp (disch:=first|exact bd (by with_unfolding_all rfl)|fail) only[WA,Nat.reduceEqDiff,Nat.reduceLT,↓reduceIte,reduceCtorEq,c48]
  refine a6 (by rw[hC];exact hc.flat rfl rfl) ?_
  simp (disch:=first|exact bd (by with_unfolding_all rfl)|(simp only[d6]<;>omega)) only[WA,Nat.reduceEqDiff,Nat.reduceLT,Int.reduceEq,↓reduceIte]
  exact b8 rfl h0 rfl
theorem aY9 (s:Nat) (L:List n8) (hL:L.length≤200) (hK:KP L):∃ r:Int,(L.all D3=true→r= -1)∧(¬ L.all D3=true→0≤r)∧
  m6 (EN w (n+4)) 69 [.sl s L.length (r8 L),.sc (.func (.func 48) #[] #[])] (.sc (.int .i64 r)) ⟨[],0,0⟩:=by
 have main:∀ (j:Nat),j≤L.length→(L.take j).all D3=true→(j<L.length→D3 L[j]! =false)→m6 (EN w (n+4)) 69 [.sl s L.length (r8 L),.sc (.func (.func 48) #[] #[])] (.sc (.int .i64 (if j<L.length then (j:Int) else -1))) ⟨[],0,0⟩:=by
  intro j hj hall hbad
  refine d7 rfl rfl (fun _ _=>rfl) (Nat.le_of_ble_eq_true rfl) (g9 w) rfl fun C hC h0=>?_
  have hrn:C.E.rounds=C6:=by rw[hC,k8]
  have hil:=z7 L
  simp (disch:=first|exact bd (by with_unfolding_all rfl)|fail) only[WA,Nat.reduceEqDiff,Nat.reduceLT,Int.reduceNeg,↓reduceIte,reduceCtorEq,c69]
  all_goals try (exfalso;omega)
  refine y6 (fun m fr st=>∃ (k:Nat),m=L.length - k∧k≤j∧fr= [(0,.sl s L.length (r8 L)),(1,.sc (.func (.func 48) #[] #[])),(7,.sc (.int .i64 L.length)),(8,.sc (.int .i64 k))]∧st=⟨[],0,0⟩) L.length ?_ ⟨_,_,.refl _ _,0,by omega,Nat.zero_le _,rfl,rfl⟩ ?_
  ·rw[hrn];unfold C6;omega
  rintro m fr st ⟨k,rfl,hk,rfl,rfl⟩
  by_cases hlt:k<L.length
  case neg=>
   rw[if_neg (by omega)]
   simp (disch:=first|omega|exact bd (by with_unfolding_all rfl)|fail) only[WA,Nat.reduceEqDiff,Nat.reduceLT,Int.reduceNeg,↓reduceIte,reduceCtorEq,WX]
   all_goals try (exfalso;omega)
   exact b8 rfl h0 rfl
  have hag:=L9 L k hlt
  have h1:=bJ5 w n L[k]! (hK.at hlt)
  by_cases hkj:k=j
  ·subst hkj
   rw[hbad hlt] at h1
   rw[if_pos hlt]
   generalize L[k]! =X at*
   obtain ⟨xk,xp,xa,xb⟩:=X
   simp (disch:=first|omega|exact bd (by with_unfolding_all rfl)|fail) only[WA,Nat.reduceEqDiff,Nat.reduceLT,Int.reduceNeg,↓reduceIte,reduceCtorEq,WX,hag]
   all_goals try (exfalso;omega)
   refine a6 (by rw[hC];exact h1.flat rfl rfl) ?_
   simp (disch:=first|exact bd (by with_unfolding_all rfl)|fail) only[WA,Nat.reduceEqDiff,Nat.reduceLT,Int.reduceNeg,↓reduceIte,reduceCtorEq]
   exact b8 rfl h0 rfl
  ·have ho:D3 L[k]! =true:=List.all_eq_true.1 hall _ (by
    rw[getElem!_pos _ k hlt]
    exact List.mem_iff_getElem.2 ⟨k,by rw[List.length_take];omega,List.getElem_take⟩)
   rw[ho] at h1
   generalize L[k]! =X at*
   obtain ⟨xk,xp,xa,xb⟩:=X
   simp (disch:=first|omega|exact bd (by with_unfolding_all rfl)|fail) only[WA,Nat.reduceEqDiff,Nat.reduceLT,Int.reduceNeg,↓reduceIte,reduceCtorEq,WX,hag]
   all_goals try (exfalso;omega)
   refine a6 (by rw[hC];exact h1.flat rfl rfl) ?_
   simp (disch:=first|omega|exact bd (by with_unfolding_all rfl)|fail) only[WA,Nat.reduceEqDiff,Nat.reduceLT,Int.reduceNeg,↓reduceIte,reduceCtorEq]
   exact ⟨L.length - (k+1),_,_,by omega,.refl _ _,k+1,rfl,by omega,rfl,rfl⟩
 have hex:∃ j,j≤L.length∧(L.take j).all D3=true∧(j<L.length→D3 L[j]! =false):=by
  have:∀ m,m≤L.length→(L.take m).all D3=true∨∃ j,j<m∧(L.take j).all D3=true∧D3 L[j]! =false:=by
   intro m
   induction m with
   |zero=>intro _;exact .inl rfl
   |succ m ih=>
    intro hm
    rcases ih (by omega) with h|⟨j,h1,h2,h3⟩
    ·cases hc:D3 L[m]! with
     |true=>exact .inl (GB (by omega) h hc)
     |false=>exact .inr ⟨m,by omega,h,hc⟩
    ·exact .inr ⟨j,by omega,h2,h3⟩
  rcases this L.length (Nat.le_refl _) with h|⟨j,h1,h2,h3⟩
  ·exact ⟨L.length,Nat.le_refl _,h,fun h=>absurd h (Nat.lt_irrefl _)⟩
  ·exact ⟨j,by omega,h2,fun _=>h3⟩
 obtain ⟨j,h1,h2,h3⟩:=hex
 refine ⟨_,fun hall=>?_,fun hall=>?_,main j h1 h2 h3⟩
 ·rw[if_neg fun h=>RB h (h3 h) hall]
 ·by_cases h:j<L.length
  ·rw[if_pos h];omega
  ·have:j=L.length:=by omega
   subst this
   rw[List.take_length] at h2
   exact absurd h2 hall
theorem QR (s:Nat) (L:List n8) (hL:L.length≤200) (hK:KP L):m6 (EN w (n+5)) 47 [.sl s L.length (r8 L),.sc (.func (.func 48) #[] #[])] (.sc (.bool (!(L.all D3)))) ⟨[],0,0⟩:=by
 obtain ⟨r,h1,h2,hr⟩:=aY9 w n s L hL hK
 cases ha:L.all D3 with
 |true=>
  have e:=h1 ha
  subst e
  refine d7 rfl rfl (fun _ _=>rfl) (Nat.le_of_ble_eq_true rfl) (g9 w) rfl fun C hC h0=>?_
  simp (disch:=first|exact bd (by with_unfolding_all rfl)|fail) only[WA,Nat.reduceEqDiff,Nat.reduceLT,↓reduceIte,reduceCtorEq,c47]
  refine a6 (by rw[hC];exact hr.flat rfl rfl) ?_
  simp (disch:=first|exact bd (by with_unfolding_all rfl)|fail) only[WA,Nat.reduceEqDiff,Nat.reduceLT,Int.reduceLE,Int.reduceNeg,↓reduceIte,reduceCtorEq]
  exact b8 rfl h0 rfl
 |false=>
  have e:=h2 (by rw[ha];decide)
  refine d7 rfl rfl (fun _ _=>rfl) (Nat.le_of_ble_eq_true rfl) (g9 w) rfl fun C hC h0=>?_
  simp (disch:=first|exact bd (by with_unfolding_all rfl)|fail) only[WA,Nat.reduceEqDiff,Nat.reduceLT,↓reduceIte,reduceCtorEq,c47]
  refine a6 (by rw[hC];exact hr.flat rfl rfl) ?_
  simp (disch:=first|omega|exact bd (by with_unfolding_all rfl)|fail) only[WA,Nat.reduceEqDiff,Nat.reduceLT,↓reduceIte,reduceCtorEq]
  all_goals try (exfalso;omega)
  exact b8 rfl h0 rfl
theorem JV (s:Nat) (L:List n8) (hL:L.length≤140737488351232) (hK:KP L):m6 (EN w (n+6)) 27 [.sl s L.length (r8 L)] (.sc (.int .i64 (L2 L))) ⟨[],0,0⟩:=by
 have hil:=z7 L
 unfold L2
 by_cases h2:200<L.length
 ·rw[if_pos h2]
  refine d7 rfl rfl (fun _ _=>rfl) (Nat.le_of_ble_eq_true rfl) (g9 w) rfl fun C hC h0=>?_
  simp (disch:=first|omega|exact bd (by with_unfolding_all rfl)|fail) only[WA,Nat.reduceEqDiff,Nat.reduceLT,↓reduceIte,reduceCtorEq,c27]
  all_goals try (exfalso;omega)
  exact b8 rfl h0 rfl
 rw[if_neg h2]
 have hc:=QR w n s L (by omega) hK
 cases ha:L.all D3 with
 |false=>
  rw[ha] at hc
  rw[if_neg (by decide)]
  refine d7 rfl rfl (fun _ _=>rfl) (Nat.le_of_ble_eq_true rfl) (g9 w) rfl fun C hC h0=>?_
  simp (disch:=first|omega|exact bd (by with_unfolding_all rfl)|fail) only[WA,Nat.reduceEqDiff,Nat.reduceLT,↓reduceIte,reduceCtorEq,c27]
  all_goals try (exfalso;omega)
  refine a6 (by rw[hC];exact hc.flat rfl rfl) ?_
  simp (disch:=first|exact bd (by with_unfolding_all rfl)|fail) only[WA,Nat.reduceEqDiff,Nat.reduceLT,↓reduceIte,reduceCtorEq]
  exact b8 rfl h0 rfl
 |true=>
  rw[ha] at hc
  rw[if_pos rfl]
  have hs:=bW9 w (n+3) s L (by omega) ha
  generalize Q0 P4 L=U at*
  generalize Q0 P3 L=M at*
  by_cases hm:200<U∨200<M
  ·rw[if_pos hm]
   have hmx:200<max U M:=by omega
   generalize hX:max U M=X at*
   refine d7 rfl rfl (fun _ _=>rfl) (Nat.le_of_ble_eq_true rfl) (g9 w) rfl fun C hC h0=>?_
   simp (disch:=first|omega|exact bd (by with_unfolding_all rfl)|fail) only[WA,Nat.reduceEqDiff,Nat.reduceLT,↓reduceIte,reduceCtorEq,c27]
   all_goals try (exfalso;omega)
   refine a6 (by rw[hC];exact hc.flat rfl rfl) ?_
   simp (disch:=first|exact bd (by with_unfolding_all rfl)|fail) only[WA,Nat.reduceEqDiff,Nat.reduceLT,↓reduceIte,reduceCtorEq]
   refine a6 (by rw[hC];exact hs.flat rfl rfl) ?_
   simp (disch:=first|omega|exact bd (by with_unfolding_all rfl)|fail) only[WA,Nat.reduceEqDiff,Nat.reduceLT,↓reduceIte,reduceCtorEq,uJ,hX]
   all_goals try (exfalso;omega)
   exact b8 rfl h0 rfl
  ·rw[if_neg hm]
   have hmx:max U M≤200:=by omega
   generalize hX:max U M=X at*
   refine d7 rfl rfl (fun _ _=>rfl) (Nat.le_of_ble_eq_true rfl) (g9 w) rfl fun C hC h0=>?_
   simp (disch:=first|omega|exact bd (by with_unfolding_all rfl)|fail) only[WA,Nat.reduceEqDiff,Nat.reduceLT,↓reduceIte,reduceCtorEq,c27]
   all_goals try (exfalso;omega)
   refine a6 (by rw[hC];exact hc.flat rfl rfl) ?_
   simp (disch:=first|exact bd (by with_unfolding_all rfl)|fail) only[WA,Nat.reduceEqDiff,Nat.reduceLT,↓reduceIte,reduceCtorEq]
   refine a6 (by rw[hC];exact hs.flat rfl rfl) ?_
   simp (disch:=first|omega|exact bd (by with_unfolding_all rfl)|fail) only[WA,Nat.reduceEqDiff,Nat.reduceLT,↓reduceIte,reduceCtorEq,uJ,hX]
   all_goals try (exfalso;omega)
   exact b8 rfl h0 rfl
end
end Go.Proofs.YtimmmnanllcfoaaDoor
namespace Go.Itp
set_option linter.unusedVariables false
set_option linter.unusedSimpArgs false
set_option maxRecDepth 10000
theorem kN {c:UInt8}:∀ (p r:List UInt8),c ∉ p→Lib.index (p++c::r) [c]=p.length
 | [],r,_=>by
  rw[List.nil_append,Lib.index]
  simp[List.isPrefixOf]
 |b::p,r,h=>by
  have hb:(c==b)=false:=by simpa using fun e=>h (by rw[e];simp)
  rw[List.cons_append,Lib.index,kN p r fun e=>h (List.mem_cons_of_mem _ e)]
  simp only[List.isPrefixOf,hb,Bool.false_and,Bool.false_eq_true,if_false,List.length_cons]
  rw[if_neg (by simp only[beq_iff_eq];omega)]
  omega
theorem rK {c:UInt8}:∀ (s:List UInt8),c ∉ s→Lib.index s [c]= -1
 | [],_=>rfl
 |b::p,h=>by
  have hb:(c==b)=false:=by simpa using fun e=>h (by rw[e];simp)
  rw[Lib.index,rK p fun e=>h (List.mem_cons_of_mem _ e)]
  simp[List.isPrefixOf,hb]
theorem cB {c:UInt8} {p r u:List UInt8} (h:c ∉ p) (hu:u ≠ [c]):Lib.replace (p++c::r) [c] u 1=p++u++r:=by
 have hi:=kN p r h
 have hc:=Lib.count_hit (s:=p++c::r) (sub:= [c]) (i:=p.length) (by simp) hi
 have hn:Lib.replaceNum (p++c::r) [c] 1=1:=by
  unfold Lib.replaceNum
  rw[if_neg (by omega)]
  rfl
 unfold Lib.replace
 rw[if_neg (by simpa using Ne.symm hu),hn,Lib.replaceK_hit _ _ _ _ _ hi,Lib.replaceK]
 simp
theorem kY {c:UInt8} {s u:List UInt8} (h:c ∉ s):Lib.replace s [c] u 1=s:=by
 unfold Lib.replace Lib.replaceNum
 rw[Lib.count_miss (rK s h)]
 split
 ·rfl
 ·rw[if_pos (by omega),Lib.replaceK]
theorem S8 {z:Int} (h:0≤z):Lib.itoa z ≠ [35]:=S4 h (by decide)
theorem PE {x:n8} {n:Int} (hx:F8 x) (h0:1≤n):B3 x n=if countB x.kind=true then Lib.replace (P2 x.kind x.purl) [35] (Lib.itoa n) 1 else Lib.replace (Lib.replace (P2 x.kind x.purl) [35] (Lib.itoa x.a) 1) [35] (Lib.itoa x.b) 1++J6 x n:=by
 rw[pF n hx]
 have hno:=DA x.kind x.purl
 have hb:=hx.bounds
 have i1:=S8 (z:=n) (by omega)
 have i2:=S8 (z:=x.a) (by omega)
 have i3:=S8 (z:=x.b) (by omega)
 have j2:(35:UInt8) ∉ Lib.itoa x.a:=aT (by omega) _ (by decide)
 have two:∀ (p q:List UInt8) (v:Int),(35:UInt8) ∉ p→Lib.itoa v ≠ [35]→Lib.replace (join 35 [p,q]) [35] (Lib.itoa v) 1=fill [p,q] [v]:=fun p q v h1 h2=>by
  rw[join,join,cB h1 h2,fill]
  ·simp[fill]
  ·simp
 have two':∀ (p q:List UInt8) (v u:Int),(35:UInt8) ∉ p→(35:UInt8) ∉ q→(35:UInt8) ∉ Lib.itoa v→Lib.itoa v ≠ [35]→Lib.replace (Lib.replace (join 35 [p,q]) [35] (Lib.itoa v) 1) [35] (Lib.itoa u) 1=fill [p,q] [v,u]:=fun p q v u h1 h3 h4 h2=>by
  rw[join,join,cB h1 h2,kY (by simp[h1,h3,h4]),fill]
  ·simp[fill]
  ·simp
 have three:∀ (p q r:List UInt8) (v u:Int),(35:UInt8) ∉ p→(35:UInt8) ∉ q→(35:UInt8) ∉ Lib.itoa v→Lib.itoa v ≠ [35]→Lib.itoa u ≠ [35]→Lib.replace (Lib.replace (join 35 [p,q,r]) [35] (Lib.itoa v) 1) [35] (Lib.itoa u) 1=fill [p,q,r] [v,u]:=fun p q r v u h1 h3 h4 h2 h5=>by
  rw[join,join,join,cB h1 h2,← List.append_assoc,cB (by simp[h1,h3,h4]) h5,fill]
  ·rw[fill]
   ·simp[fill]
   ·simp
  ·simp
 obtain ⟨k,p,a,b⟩:=x
 unfold F8 at hx
 simp only at hx hno i2 i3 j2 ⊢
 unfold P2
 rcases hx with ⟨rfl|rfl,rfl,rfl⟩|⟨rfl,rfl,rfl,rfl⟩|⟨rfl|rfl|rfl,h2,h3,rfl⟩|⟨rfl|rfl,h2,h3⟩|⟨rfl,rfl,h2,h3,rfl⟩|⟨rfl,h2,h3,rfl⟩
 ·rw[if_pos (by decide),show J6 ⟨1,p,0,0⟩ n= [] from by unfold J6;rw[if_neg (by simp)],List.append_nil]
  exact (two _ _ n (hno _ (by simp[p5])) i1).symm
 ·rw[if_pos (by decide),show J6 ⟨8,p,0,0⟩ n= [] from by unfold J6;rw[if_neg (by simp)],List.append_nil]
  exact (two _ _ n (hno _ (by simp[p5])) i1).symm
 ·rw[if_neg (by decide)]
  congr 1
  have h35:(35:UInt8) ∉ join 35 (p5 2 false):=hno _ (by simp[p5,join])
  rw[kY h35,kY h35]
  rfl
 ·rw[if_neg (by decide)]
  congr 1
  exact (two' _ _ a 0 (hno _ (by simp[p5])) (hno _ (by simp[p5])) j2 i2).symm
 ·rw[if_neg (by decide)]
  congr 1
  exact (two' _ _ a 0 (hno _ (by simp[p5])) (hno _ (by simp[p5])) j2 i2).symm
 ·rw[if_neg (by decide)]
  congr 1
  exact (two' _ _ a 0 (hno _ (by simp[p5])) (hno _ (by simp[p5])) j2 i2).symm
 ·rw[if_neg (by decide)]
  congr 1
  exact (three _ _ _ a b (hno _ (by simp[p5])) (hno _ (by simp[p5])) j2 i2 i3).symm
 ·rw[if_neg (by decide)]
  congr 1
  exact (three _ _ _ a b (hno _ (by simp[p5])) (hno _ (by simp[p5])) j2 i2 i3).symm
 ·rw[if_neg (by decide)]
  congr 1
  exact (two' _ _ a 0 (hno _ (by simp[p5])) (hno _ (by simp[p5])) j2 i2).symm
 ·rw[if_neg (by decide)]
  congr 1
  exact (two' _ _ a 0 (hno _ (by simp[p5])) (hno _ (by simp[p5])) j2 i2).symm
theorem mX:∀ s:List UInt8,(Lib.index s [44,32]= -1∧s6 s= [s])∨∃ x r,s=x++44::32::r∧Lib.index s [44,32]=x.length∧s6 s=x::s6 r
 | []=> .inl ⟨rfl,rfl⟩
 | [c]=> .inl ⟨by simp[Lib.index,List.isPrefixOf],rfl⟩
 |c::d::r=>by
  by_cases h:c=44∧d=32
  ·obtain ⟨rfl,rfl⟩:=h
   refine .inr ⟨[],r,rfl,?_,by rw[s6,if_pos ⟨rfl,rfl⟩]⟩
   rw[Lib.index]
   simp[List.isPrefixOf]
  ·have hp:List.isPrefixOf [44,32] (c::d::r)=false:=by
    simp only[List.isPrefixOf,Bool.and_true]
    rw[← Bool.not_eq_true]
    intro e
    simp only[Bool.and_eq_true,beq_iff_eq] at e
    exact h ⟨e.1.symm,e.2.symm⟩
   rcases mX (d::r) with ⟨h1,h2⟩|⟨x,q,h1,h2,h3⟩
   ·refine .inl ⟨?_,by rw[aA h,h2];rfl⟩
    rw[Lib.index,hp,h1]
    rfl
   ·refine .inr ⟨c::x,q,by rw[h1];rfl,?_,by rw[aA h,h3];rfl⟩
    rw[Lib.index,hp,h2]
    rw[if_neg (by decide),if_neg (by simp only[beq_iff_eq];omega)]
    simp
theorem cD2:∀ (m:Nat) (s:List UInt8),s.length≤m→(s6 s).length=Lib.countB ⟨s.toArray⟩ ⟨#[44,32]⟩+1
 |m,s,hm=>by
  show (s6 s).length=Lib.count s [44,32]+1
  rcases mX s with ⟨h1,h2⟩|⟨x,r,rfl,h2,h3⟩
  ·rw[h2,Lib.count_miss h1];rfl
  ·cases m with
   |zero=>simp at hm
   |succ m=>
    have ih:=cD2 m r (by simp at hm;omega)
    rw[h3,Lib.count_hit (by simp) h2,List.length_cons,ih]
    have e:(x++44::32::r).drop (x.length+([44,32]:List UInt8).length)=r:=by
     rw[show x++44::32::r=(x++ [44,32])++r from by simp,List.drop_left' (by simp)]
    rw[e]
    show Lib.count r [44,32]+1+1=_
    omega
theorem fW:∀ (s:List UInt8),(s6 s).length≤s.length+1
 | []=>Nat.le_refl _
 | [c]=>by simp[s6]
 |c::d::r=>by
  rw[s6]
  split
  ·have:=fW r;simp;omega
  ·have:=fW (d::r)
   cases h:s6 (d::r) with
   |nil=>simp[vR]
   |cons a b=>rw[h] at this;simp[vR] at this ⊢;omega
theorem nL:∀ (s:List UInt8),∀ w ∈ s6 s,w.length≤s.length
 | [],w,h=>by simp[s6] at h;simp[h]
 | [c],w,h=>by simp[s6] at h;simp[h]
 |c::d::r,w,h=>by
  rw[s6] at h
  split at h
  ·rcases List.mem_cons.1 h with rfl|h
   ·simp
   ·have:=nL r w h;simp;omega
  ·have ih:=nL (d::r)
   cases hs:s6 (d::r) with
   |nil=>rw[hs] at h;simp[vR] at h;subst h;simp
   |cons a b=>
    rw[hs] at h ih
    simp only[vR] at h
    rcases List.mem_cons.1 h with rfl|h
    ·have:=ih a (by simp);simp at this ⊢;omega
    ·have:=ih w (List.mem_cons_of_mem _ h);simp at this ⊢;omega
end Go.Itp
namespace Go.Proofs.YtimmmnanllcfoaaDoor
open Go Go.Itp
set_option maxRecDepth 100000
set_option maxHeartbeats 400000
set_option linter.unusedSimpArgs false
set_option linter.unusedVariables false
theorem TV (l:List UInt8) (c:UInt8):Lib.countB ⟨l.toArray⟩ ⟨[c].toArray⟩≤l.length:=by
 have:=Lib.countB_le ⟨[c].toArray⟩ (Nat.le_refl 1) l.length ⟨l.toArray⟩ (by rw[p8];exact Nat.le_refl _)
 rwa [p8] at this
theorem rE:∀ k p,(P2 k p).length≤60:=by
 intro k p
 unfold P2 p5
 split<;>cases p<;>decide
theorem rT (l u:List UInt8) (c:UInt8) (k:Int) (h1:l.length≤1000) (h2:u.length≤1000):l.length+Lib.countB ⟨l.toArray⟩ ⟨[c].toArray⟩*u.length≤140737488355328:=by
 have:=Nat.mul_le_mul (TV l c) h2
 have h3:l.length*1000≤1000*1000:=Nat.mul_le_mul_right _ h1
 omega
theorem bA (g:Bool) (k k':Nat) (p p':Bool) (a b a' b':Int):qV g [(0,0),(1,2),(2,0),(3,0)] (.agg [.sc (.int .u8 k),.sc (.bool p),.sc (.int .i64 a),.sc (.int .i64 b)]) (.agg [.sc (.int .u8 k'),.sc (.bool p'),.sc (.int .i64 a'),.sc (.int .i64 b')])=some (.sc (.bool (bH4 g (decide ((⟨k,p,a,b⟩:n8)=⟨k',p',a',b'⟩))))):=by
 rw[mR]
 have e:U1 [(0,0),(1,2),(2,0),(3,0)] [V.sc (.int .u8 k),.sc (.bool p),.sc (.int .i64 a),.sc (.int .i64 b)] [V.sc (.int .u8 k'),.sc (.bool p'),.sc (.int .i64 a'),.sc (.int .i64 b')]=some (decide ((k:Int)=k') && ((p==p') && (decide (a=a') && decide (b=b')))):=by
  simp only[dC,fE,iJ,fD,qK,Bool.and_true,A5,Option.bind_some]
 rw[e]
 simp only[Option.map_some]
 congr 4
 rw[Bool.eq_iff_iff]
 simp only[Bool.and_eq_true,beq_iff_eq,decide_eq_true_eq,n8.mk.injEq]
 constructor
 ·rintro ⟨h1,h2,h3,h4⟩;exact ⟨by omega,h2,h3,h4⟩
 ·rintro ⟨h1,h2,h3,h4⟩;exact ⟨by omega,h2,h3,h4⟩
section
variable (w:World) (n:Nat)
theorem bW6 (p:Bool):m6 (EN w (n+1)) 82 [.sc (.bool p)] (m8 (zI p)) ⟨[],0,0⟩:=by
 cases p
 all_goals
  refine d7 rfl rfl (fun _ _=>rfl) (Nat.le_of_ble_eq_true rfl) (g9 w) rfl fun C hC h0=>?_
  repeat' (first|(simp (disch:=first|exact bd (by with_unfolding_all rfl)|fail) only[WA,Nat.reduceEqDiff,Nat.reduceLT,↓reduceIte,reduceCtorEq,c82]))
  exact b8 rfl h0 rfl
theorem aP9 (k:Nat) (p:Bool) (h1:1≤k) (h2:k≤10):m6 (EN w (n+2)) 57 [.sc (.int .u8 k),.sc (.bool p)] (.tup [m8 (P2 k p),.sc (.bool (countB k))]) ⟨[],0,0⟩:=by
 have hs:=bW6 w n p
 unfold zI at hs
 cases p
 all_goals
  rcases (by omega:k=1∨k=3∨k=4∨k=2∨k=5∨k=6∨k=7∨k=8∨k=9∨k=10) with rfl|rfl|rfl|rfl|rfl|rfl|rfl|rfl|rfl|rfl
  iterate 3
   ·refine d7 rfl rfl (fun _ _=>rfl) (Nat.le_of_ble_eq_true rfl) (g9 w) rfl fun C hC h0=>?_
    repeat' (first|(simp (disch:=first|omega|exact bd (by with_unfolding_all rfl)|fail) only[WA,Nat.reduceEqDiff,Nat.reduceLT,↓reduceIte,reduceCtorEq,c57]))
    refine a6 (by rw[hC];exact hs.flat rfl rfl) ?_
    repeat' (first|(simp (disch:=first|exact bd (by with_unfolding_all rfl)|(simp only[d6]<;>omega)) only[WA,Nat.reduceEqDiff,Nat.reduceLT,↓reduceIte,K5]))
    exact b8 rfl h0 rfl
  all_goals
   refine d7 rfl rfl (fun _ _=>rfl) (Nat.le_of_ble_eq_true rfl) (g9 w) rfl fun C hC h0=>?_
   repeat' (first|(simp (disch:=first|omega|exact bd (by with_unfolding_all rfl)|(simp only[d6]<;>omega)) only[WA,Nat.reduceEqDiff,Nat.reduceLT,↓reduceIte,reduceCtorEq,c57,K5]))
   exact b8 rfl h0 rfl
theorem PG (x:n8) (hx:F8 x) (m:Int) (h0:1≤m) (h1:m≤1000):m6 (EN w (n+3)) 51 [nN x,.sc (.int .i64 m)] (m8 (B3 x m)) ⟨[],0,0⟩:=by
 have hb:=hx.bounds
 have hf:=aP9 w n x.kind x.purl hb.1 hb.2.1
 have hfl:=rE x.kind x.purl
 have hr:=PE hx h0
 have im:=UK w (n+1)
 have l1:=F6 (z:=m) (by omega) (by omega)
 have l2:=F6 (z:=x.a) (by omega) (by omega)
 have l3:=F6 (z:=x.b) (by omega) (by omega)
 have r1:=fun st=>VN w (n+1) st (P2 x.kind x.purl) [35] (Lib.itoa m) 1 (by omega) (Nat.le_refl 1) (rT _ _ 35 1 (by omega) (by omega))
 have r2:=fun st=>VN w (n+1) st (P2 x.kind x.purl) [35] (Lib.itoa x.a) 1 (by omega) (Nat.le_refl 1) (rT _ _ 35 1 (by omega) (by omega))
 have hlen2:(Lib.replace (P2 x.kind x.purl) [35] (Lib.itoa x.a) 1).length≤70:=by
  rcases N3 35 (P2 x.kind x.purl) with h|⟨p,q,e,h⟩
  ·rw[kY h];omega
  ·rw[e,cB h (S8 (by omega))]
   have:=congrArg List.length e
   simp only[List.length_append,List.length_cons] at this ⊢
   omega
 have r3:=fun st=>VN w (n+1) st (Lib.replace (P2 x.kind x.purl) [35] (Lib.itoa x.a) 1) [35] (Lib.itoa x.b) 1 (by omega) (Nat.le_refl 1) (rT _ _ 35 1 (by omega) (by omega))
 have hlen3:(Lib.replace (Lib.replace (P2 x.kind x.purl) [35] (Lib.itoa x.a) 1) [35] (Lib.itoa x.b) 1).length≤80:=by
  rcases N3 35 (Lib.replace (P2 x.kind x.purl) [35] (Lib.itoa x.a) 1) with h|⟨p,q,e,h⟩
  ·rw[kY h];omega
  ·rw[e,cB h (S8 (by omega))]
   have:=congrArg List.length e
   simp only[List.length_append,List.length_cons] at this ⊢
   omega
 rw[hr]
 have hk:countB x.kind=true↔x.kind=1∨x.kind=8:=by unfold countB;exact decide_eq_true_iff
 cases hc:countB x.kind with
 |true=>
  rw[hc] at hf
  rw[if_pos rfl]
  generalize P2 x.kind x.purl=F at*
  clear r2 r3 hlen2 hlen3 hr
  obtain ⟨xk,xp,xa,xb⟩:=x
  refine d7 rfl rfl (fun _ _=>rfl) (Nat.le_of_ble_eq_true rfl) (g9 w) rfl fun C hC h0=>?_
  simp (disch:=first|exact bd (by with_unfolding_all rfl)|fail) only[WA,Nat.reduceEqDiff,Nat.reduceLT,↓reduceIte,reduceCtorEq,c51]
  refine a6 (by rw[hC];exact hf.flat rfl rfl) ?_
  simp (disch:=first|exact bd (by with_unfolding_all rfl)|fail) only[WA,Nat.reduceEqDiff,Nat.reduceLT,↓reduceIte]
  refine a6 (by rw[hC];exact im _ m (by omega) (by omega)) ?_
  repeat' (first|(simp (disch:=fail) only[WA,m7,s8,Nat.reduceEqDiff,Nat.reduceLT,Nat.reduceAdd,Nat.reduceBEq,Int.reduceAdd,Int.reduceSub,Int.reduceLT,Int.reduceLE,Int.reduceEq,Int.reduceNeg,↓reduceIte,reduceCtorEq,List.replicate])|apply A2|((first|apply J4|apply A9|apply E9|apply J5|apply J3|apply F3)<;>intro _))
  refine a6 (by rw[hC];exact r1 _) ?_
  repeat' (first|(simp (disch:=fail) only[WA,m7,s8,Nat.reduceEqDiff,Nat.reduceLT,Nat.reduceAdd,Nat.reduceBEq,Int.reduceAdd,Int.reduceSub,Int.reduceLT,Int.reduceLE,Int.reduceEq,Int.reduceNeg,↓reduceIte,reduceCtorEq,List.replicate])|apply A2|((first|apply J4|apply A9|apply E9|apply J5|apply J3|apply F3)<;>intro _))
  exact b8 rfl h0 rfl
 |false=>
  rw[hc] at hf
  rw[if_neg (by decide)]
  have hkk:x.kind ≠ 1∧x.kind ≠ 8:=by
   rw[← Bool.not_eq_true,hk] at hc
   omega
  have ht:J6 x m=if 1<m then 32::(Lib.itoa m++jR) else []:=by
   unfold J6
   by_cases h:1<m
   ·rw[if_pos h,if_pos ⟨h,hkk⟩];rfl
   ·rw[if_neg h,if_neg fun hh=>h hh.1]
  rw[ht]
  generalize Lib.replace (Lib.replace (P2 x.kind x.purl) [35] (Lib.itoa x.a) 1) [35] (Lib.itoa x.b) 1=R3 at*
  generalize Lib.replace (P2 x.kind x.purl) [35] (Lib.itoa x.a) 1=R2 at*
  generalize P2 x.kind x.purl=F at*
  obtain ⟨xk,xp,xa,xb⟩:=x
  simp only at*
  by_cases hm:1<m
  ·rw[if_pos hm]
   refine d7 rfl rfl (fun _ _=>rfl) (Nat.le_of_ble_eq_true rfl) (g9 w) rfl fun C hC h0=>?_
   simp (disch:=first|exact bd (by with_unfolding_all rfl)|fail) only[WA,Nat.reduceEqDiff,Nat.reduceLT,↓reduceIte,reduceCtorEq,c51]
   refine a6 (by rw[hC];exact hf.flat rfl rfl) ?_
   simp (disch:=first|exact bd (by with_unfolding_all rfl)|fail) only[WA,Nat.reduceEqDiff,Nat.reduceLT,↓reduceIte]
   refine a6 (by rw[hC];exact im _ xa (by omega) (by omega)) ?_
   repeat' (first|(simp (disch:=fail) only[WA,m7,s8,Nat.reduceEqDiff,Nat.reduceLT,Nat.reduceAdd,Nat.reduceBEq,Int.reduceAdd,Int.reduceSub,Int.reduceLT,Int.reduceLE,Int.reduceEq,Int.reduceNeg,↓reduceIte,reduceCtorEq,List.replicate])|apply A2|((first|apply J4|apply A9|apply E9|apply J5|apply J3|apply F3)<;>intro _))
   refine a6 (by rw[hC];exact r2 _) ?_
   simp (disch:=first|omega|exact bd (by with_unfolding_all rfl)|fail) only[WA,Nat.reduceEqDiff,Nat.reduceLT,↓reduceIte]
   refine a6 (by rw[hC];exact im _ xb (by omega) (by omega)) ?_
   repeat' (first|(simp (disch:=fail) only[WA,m7,s8,Nat.reduceEqDiff,Nat.reduceLT,Nat.reduceAdd,Nat.reduceBEq,Int.reduceAdd,Int.reduceSub,Int.reduceLT,Int.reduceLE,Int.reduceEq,Int.reduceNeg,↓reduceIte,reduceCtorEq,List.replicate])|apply A2|((first|apply J4|apply A9|apply E9|apply J5|apply J3|apply F3)<;>intro _))
   refine a6 (by rw[hC];exact r3 _) ?_
   repeat' (first|(simp (disch:=fail) only[WA,m7,s8,Nat.reduceEqDiff,Nat.reduceLT,Nat.reduceAdd,Nat.reduceBEq,Int.reduceAdd,Int.reduceSub,Int.reduceLT,Int.reduceLE,Int.reduceEq,Int.reduceNeg,↓reduceIte,reduceCtorEq,List.replicate])|apply A2|((first|apply J4|apply A9|apply E9|apply J5|apply J3|apply F3)<;>intro _))
   all_goals try (exfalso;omega)
   refine a6 (by rw[hC];exact im _ m (by omega) (by omega)) ?_
   simp (disch:=first|exact bd (by with_unfolding_all rfl)|(simp only[d6]<;>omega)) only[WA,Nat.reduceEqDiff,Nat.reduceLT,↓reduceIte,K5,List.append_assoc]
   all_goals try (exfalso;omega)
   exact b8 rfl h0 rfl
  ·rw[if_neg hm,List.append_nil]
   refine d7 rfl rfl (fun _ _=>rfl) (Nat.le_of_ble_eq_true rfl) (g9 w) rfl fun C hC h0=>?_
   simp (disch:=first|exact bd (by with_unfolding_all rfl)|fail) only[WA,Nat.reduceEqDiff,Nat.reduceLT,↓reduceIte,reduceCtorEq,c51]
   refine a6 (by rw[hC];exact hf.flat rfl rfl) ?_
   simp (disch:=first|exact bd (by with_unfolding_all rfl)|fail) only[WA,Nat.reduceEqDiff,Nat.reduceLT,↓reduceIte]
   refine a6 (by rw[hC];exact im _ xa (by omega) (by omega)) ?_
   repeat' (first|(simp (disch:=fail) only[WA,m7,s8,Nat.reduceEqDiff,Nat.reduceLT,Nat.reduceAdd,Nat.reduceBEq,Int.reduceAdd,Int.reduceSub,Int.reduceLT,Int.reduceLE,Int.reduceEq,Int.reduceNeg,↓reduceIte,reduceCtorEq,List.replicate])|apply A2|((first|apply J4|apply A9|apply E9|apply J5|apply J3|apply F3)<;>intro _))
   refine a6 (by rw[hC];exact r2 _) ?_
   simp (disch:=first|omega|exact bd (by with_unfolding_all rfl)|fail) only[WA,Nat.reduceEqDiff,Nat.reduceLT,↓reduceIte]
   refine a6 (by rw[hC];exact im _ xb (by omega) (by omega)) ?_
   repeat' (first|(simp (disch:=fail) only[WA,m7,s8,Nat.reduceEqDiff,Nat.reduceLT,Nat.reduceAdd,Nat.reduceBEq,Int.reduceAdd,Int.reduceSub,Int.reduceLT,Int.reduceLE,Int.reduceEq,Int.reduceNeg,↓reduceIte,reduceCtorEq,List.replicate])|apply A2|((first|apply J4|apply A9|apply E9|apply J5|apply J3|apply F3)<;>intro _))
   refine a6 (by rw[hC];exact r3 _) ?_
   repeat' (first|(simp (disch:=fail) only[WA,m7,s8,Nat.reduceEqDiff,Nat.reduceLT,Nat.reduceAdd,Nat.reduceBEq,Int.reduceAdd,Int.reduceSub,Int.reduceLT,Int.reduceLE,Int.reduceEq,Int.reduceNeg,↓reduceIte,reduceCtorEq,List.replicate])|apply A2|((first|apply J4|apply A9|apply E9|apply J5|apply J3|apply F3)<;>intro _))
   all_goals try (exfalso;omega)
   exact b8 rfl h0 rfl
end
theorem zD (x:n8):∀ l:List n8,∃ t,t≤l.length∧(∀ i,i<t→l[i]! =x)∧(t<l.length→l[t]! ≠ x)∧L8 (x::l)=(x,t+1)::L8 (l.drop t)
 | []=>⟨0,Nat.le_refl _,fun i h=>absurd h (Nat.not_lt_zero _),fun h=>absurd h (Nat.not_lt_zero _),rfl⟩
 |y::l=>by
  by_cases hy:y=x
  ·subst hy
   obtain ⟨t,h1,h2,h3,h4⟩:=zD y l
   refine ⟨t+1,by simp;omega,fun i hi=>?_,fun h=>?_,?_⟩
   ·cases i with
    |zero=>rfl
    |succ i=>simpa using h2 i (by omega)
   ·have:=h3 (by simpa using h)
    simpa using this
   ·rw[L8,h4]
    simp
  ·refine ⟨0,Nat.zero_le _,fun i h=>absurd h (Nat.not_lt_zero _),fun _=>hy,?_⟩
   rw[L8]
   cases hr:L8 (y::l) with
   |nil=>exact absurd hr (pU (by simp))
   |cons z r=>
    obtain ⟨z,m⟩:=z
    have hz:z=y:=by
     have:=cE (y::l)
     have hp:=bJ (y::l) (z,m) (by rw[hr];simp)
     rw[hr,mT] at this
     obtain ⟨q,rfl⟩:∃ q,m=q+1:=⟨m - 1,by simp only at hp;omega⟩
     simp only[List.replicate_succ,List.cons_append] at this
     exact (List.cons.inj this).1
    rw[hz]
    simp only
    rw[if_neg hy,List.drop_zero,hr,hz]
theorem wC {L:List n8} {j:Nat} (h:j<L.length):L.drop j=L[j]! ::L.drop (j+1):=by
 rw[List.drop_eq_getElem_cons h,getElem!_pos _ j h]
theorem wB {L:List n8} {j i:Nat} (h:j+i<L.length):(L.drop j)[i]! =L[j+i]! :=by
 rw[getElem!_pos _ i (by rw[List.length_drop];omega),List.getElem_drop,getElem!_pos _ (j+i) h]
theorem aH5 (nx t:Nat) (b:ByteArray):N7 nx t 1 1 [.string ⟨#[]⟩] [(0,1,.sc (.string b))]=some (.ref nx 0 1 1,some (.row t 1 false false [.sc (.string b)]),[]):=(rfl)
theorem PF {x:n8} {m:Int} (hx:F8 x) (h0:1≤m) (h1:m≤1000):(B3 x m).length≤100:=by
 have hb:=hx.bounds
 have hfl:=rE x.kind x.purl
 have l1:=F6 (z:=m) (by omega) (by omega)
 have l2:=F6 (z:=x.a) (by omega) (by omega)
 have l3:=F6 (z:=x.b) (by omega) (by omega)
 have aux:∀ (F u:List UInt8),u ≠ [35]→(Lib.replace F [35] u 1).length≤F.length+u.length:=fun F u hu=>by
  rcases N3 35 F with h|⟨p,q,e,h⟩
  ·rw[kY h];omega
  ·rw[e,cB h hu];simp;omega
 rw[PE hx h0]
 split
 ·have:=aux (P2 x.kind x.purl) (Lib.itoa m) (S8 (by omega))
  omega
 ·have a1:=aux (P2 x.kind x.purl) (Lib.itoa x.a) (S8 (by omega))
  have a2:=aux (Lib.replace (P2 x.kind x.purl) [35] (Lib.itoa x.a) 1) (Lib.itoa x.b) (S8 (by omega))
  have ht:(J6 x m).length≤11:=by
   unfold J6
   split
   ·have:V7.length=5:=rfl
    simp only[List.length_cons,List.length_append,this];omega
   ·simp
  rw[List.length_append]
  omega
theorem YL:∀ (ws:List (List UInt8)) (b:Nat),(∀ w ∈ ws,w.length≤b)→(jnC ws).length≤ws.length*(b+2)
 | [],b,_=>by simp[jnC]
 |w::ws,b,h=>by
  have ih:=YL ws b fun x hx=>h x (List.mem_cons_of_mem _ hx)
  have hw:=h w (by simp)
  have e:(ws.length+1)*(b+2)=ws.length*(b+2)+(b+2):=Nat.succ_mul _ _
  cases ws with
  |nil=>simp[jnC];omega
  |cons v r=>
   rw[oU w (by simp)]
   simp only[List.length_append,List.length_cons] at ih e ⊢
   omega
theorem FK:∀ L:List n8,(L8 L).length≤L.length
 | []=>Nat.le_refl _
 |x::l=>by
  have ih:=FK l
  rw[L8]
  cases h:L8 l with
  |nil=>simp
  |cons y r=>
   obtain ⟨y,m⟩:=y
   rw[h] at ih
   simp only[List.length_cons] at ih ⊢
   split<;>simp<;>omega
section
variable (w:World) (n:Nat)
theorem SQ {C:C5} (hC:C.E=EN w (n+3)) (s:Nat) (L:List n8) (hL:L.length≤200) (j t:Nat) (hj:j+1+t≤L.length) (ht:∀ i,i<t→(L.drop (j+1))[i]! =L[j]!) (hn:t<(L.drop (j+1)).length→(L.drop (j+1))[t]! ≠ L[j]!) (q:Nat) (st:l8) {K:List KF} {P:A8}
  (hgo:gK C K (.exit 2) [(0,.sl s L.length (r8 L)),(3,.gr 2 0 q),(4,.sc (.int .i64 j)),(5,.sc (.int .i64 ((j+1+t:Nat):Int))),(29,.sc (.bool false))] st P) (hst0:st.own.length=st.own.length):
  gL C [0,3,4,5] LN K [(0,.sl s L.length (r8 L)),(3,.gr 2 0 q),(4,.sc (.int .i64 j)),(5,.sc (.int .i64 ((j+1:Nat):Int)))] st P:=by
 have hrn:C.E.rounds=C6:=by rw[hC,k8]
 have hil:=z7 L
 have hdl:(L.drop (j+1)).length=L.length - (j+1):=List.length_drop
 refine y6 (fun m fr st'=>∃ k:Nat,m=t - k∧k≤t∧fr= [(0,.sl s L.length (r8 L)),(3,.gr 2 0 q),(4,.sc (.int .i64 j)),(5,.sc (.int .i64 ((j+1+k:Nat):Int)))]∧st'=st) t ?_ ⟨_,_,.refl _ _,0,by omega,Nat.zero_le _,rfl,rfl⟩ ?_
 ·rw[hrn];unfold C6;omega
 rintro m fr st' ⟨k,rfl,hk,rfl,rfl⟩
 have hagj:=L9 L j (by omega)
 by_cases hlt:j+1+k<L.length
 ·have hag:=L9 L (j+1+k) hlt
  have hdk:=wB (L:=L) (j:=j+1) (i:=k) hlt
  by_cases hkt:k<t
  ·have he:=ht k hkt
   rw[hdk] at he
   rw[he] at hag
   generalize L[j]! =X at*
   obtain ⟨xk,xp,xa,xb⟩:=X
   simp (disch:=first|omega|exact bd (by with_unfolding_all rfl)|(simp only[d6]<;>omega)) only[WA,m7,s8,Nat.reduceEqDiff,Nat.reduceLT,↓reduceIte,reduceCtorEq,LN,hag,hagj,↓bA]
   exact ⟨t - (k+1),_,_,by omega,.refl _ _,k+1,rfl,by omega,by rw[show ((j+1+k:Nat):Int)+1=((j+1+(k+1):Nat):Int) from by omega],rfl⟩
  ·have:k=t:=by omega
   subst this
   have he:=hn (by omega)
   rw[hdk] at he
   have hd:=decide_eq_false he
   generalize L[j]! =X at*
   generalize L[j+1+k]! =Y at*
   obtain ⟨xk,xp,xa,xb⟩:=X
   obtain ⟨yk,yp,ya,yb⟩:=Y
   simp (disch:=first|omega|exact bd (by with_unfolding_all rfl)|fail) only[WA,m7,s8,Nat.reduceEqDiff,Nat.reduceLT,↓reduceIte,reduceCtorEq,LN,hag,hagj,↓bA,hd]
   exact hgo
 ·have:k=t:=by omega
  subst this
  simp (disch:=first|omega|exact bd (by with_unfolding_all rfl)|fail) only[WA,m7,s8,Nat.reduceEqDiff,Nat.reduceLT,↓reduceIte,reduceCtorEq,LN]
  exact hgo
theorem aB9 (s:Nat) (L:List n8) (hL:L.length≤200) (hok:L.all D3=true):m6 (EN w (n+4)) 28 [.sl s L.length (r8 L)] (m8 (A6 L)) ⟨[],0,0⟩:=by
 have hil:=z7 L
 have hrl:=FK L
 have hP:∀ x ∈ L,F8 x:=fun x hx=>D6.1 (List.all_eq_true.1 hok x hx)
 unfold A6
 by_cases hn:L= []
 ·subst hn
  rw[if_pos rfl]
  refine d7 rfl rfl (fun _ _=>rfl) (Nat.le_of_ble_eq_true rfl) (g9 w) rfl fun C hC h0=>?_
  simp (disch:=first|omega|exact bd (by with_unfolding_all rfl)|fail) only[WA,Nat.reduceEqDiff,Nat.reduceLT,↓reduceIte,reduceCtorEq,c28]
  exact b8 rfl h0 rfl
 rw[if_neg hn]
 have hln:0<L.length:=List.length_pos_iff.2 hn
 refine d7 rfl rfl (fun _ _=>rfl) (Nat.le_of_ble_eq_true rfl) (g9 w) rfl fun C hC h0=>?_
 have hrn:C.E.rounds=C6:=by rw[hC,k8]
 simp (disch:=first|omega|exact bd (by with_unfolding_all rfl)|fail) only[WA,Nat.reduceEqDiff,Nat.reduceLT,↓reduceIte,reduceCtorEq,c28]
 all_goals try (exfalso;omega)
 refine y6 (fun m fr st=>∃ (j:Nat) (R:List (n8 × Nat)),m=L.length - j∧j≤L.length∧L8 L=R++L8 (L.drop j)∧fr= [(0,.sl s L.length (r8 L)),(3,.gr 2 0 R.length),(4,.sc (.int .i64 j))]∧st=⟨[(0,.gro 9 1 false ((R.map phr).map sD))],1,0⟩) L.length ?_ ⟨_,_,P0 3 9 1 rfl,0,[],by omega,Nat.zero_le _,rfl,rfl,rfl⟩ ?_
 ·rw[hrn];unfold C6;omega
 rintro m fr st ⟨j,R,rfl,hj,hR,rfl,rfl⟩
 have hRl:R.length≤200:=by
  have:=congrArg List.length hR
  rw[List.length_append] at this
  omega
 by_cases hlt:j<L.length
 ·obtain ⟨t,h1,h2,h3,h4⟩:=zD L[j]! (L.drop (j+1))
  rw[← wC hlt] at h4
  have hdl:(L.drop (j+1)).length=L.length - (j+1):=List.length_drop
  rw[hdl] at h1
  have hXP:F8 L[j]! :=hP _ (by rw[getElem!_pos _ j hlt];exact List.getElem_mem hlt)
  have hph:=PG w n L[j]! hXP ((t+1:Nat):Int) (by omega) (by omega)
  have hag:=L9 L j hlt
  rw[List.drop_drop] at h4
  have hR2:L8 L=(R++ [(L[j]!,t+1)])++L8 (L.drop (j+1+t)):=by rw[hR,h4];simp
  simp (disch:=first|omega|exact bd (by with_unfolding_all rfl)|fail) only[WA,Nat.reduceEqDiff,Nat.reduceLT,↓reduceIte,reduceCtorEq,aM7]
  all_goals try (exfalso;omega)
  rw[show (j:Int)+1=((j+1:Nat):Int) from rfl]
  refine SQ w n hC s L hL j t (by omega) h2 h3 _ _ ?_ rfl
  have hdiff:((j+1+t:Nat):Int) - j=((t+1:Nat):Int):=by omega
  generalize L[j]! =X at*
  obtain ⟨xk,xp,xa,xb⟩:=X
  simp (disch:=first|omega|exact bd (by with_unfolding_all rfl)|fail) only[WA,Nat.reduceEqDiff,Nat.reduceLT,↓reduceIte,reduceCtorEq,hag,hdiff]
  refine a6 (by rw[hC];exact hph.flat rfl rfl) ?_
  simp (disch:=first|omega|exact bd (by with_unfolding_all rfl)|(simp only[d6]<;>omega)) only[WA,Nat.reduceEqDiff,Nat.reduceLT,Nat.reduceAdd,↓reduceIte,reduceCtorEq,aH5]
  all_goals try (exfalso;omega)
  refine ⟨L.length - (j+1+t),_,_,by omega,s9 [(2,0)] 1 h0 rfl rfl rfl rfl,j+1+t,R++ [(⟨xk,xp,xa,xb⟩,t+1)],rfl,by omega,hR2,?_,?_⟩
  ·rw[List.length_append];rfl
  ·simp only[List.map_append];rfl
 ·have:j=L.length:=by omega
  subst this
  rw[List.drop_length,L8,List.append_nil] at hR
  have hlen:=YL (R.map phr) 100 fun w hw=>by
   obtain ⟨r,hr,rfl⟩:=List.mem_map.1 hw
   have:=bJ L r (by rw[hR];exact hr)
   exact PF (hP _ this.2.2) (by omega) (by omega)
  rw[List.length_map] at hlen
  have hj:=bT6 w (n+2) ⟨[],0,0⟩ 2 (by decide) (R.map phr) [44,32] (by rw[List.length_map];omega) (by rw[← UL];omega)
  rw[← UL] at hj
  rw[hR]
  have h1:∀ st:l8,f8 st.own 0=some (.gro 9 1 false ((R.map phr).map sD))→J7 st.own [.gr 2 0 R.length,.sc (.string ⟨#[44,32]⟩)]=some [.sl 2 (R.map phr).length ((R.map phr).map sD),.sc (.string ⟨#[44,32]⟩)]:=fun st h=>by
   have e:x7 st.own (.gr 2 0 R.length)=some (.sl 2 R.length ((R.map phr).map sD)):=by
    simp only[x7,cY,h,List.length_map,Nat.mul_one]
    rw[if_pos (by simp)]
    rfl
   rw[List.length_map]
   show (x7 st.own (.gr 2 0 R.length)).bind _=_
   rw[e]
   rfl
  simp (disch:=first|omega|exact bd (by with_unfolding_all rfl)|fail) only[WA,Nat.reduceEqDiff,Nat.reduceLT,↓reduceIte,reduceCtorEq,aM7]
  all_goals try (exfalso;omega)
  refine a6 (by rw[hC];exact (m6.ofO hj).flat rfl (h1 _ rfl)) ?_
  repeat' (first|(simp (disch:=fail) only[WA,m7,s8,Nat.reduceEqDiff,Nat.reduceLT,Nat.reduceAdd,Nat.reduceBEq,Int.reduceAdd,Int.reduceSub,Int.reduceLT,Int.reduceLE,Int.reduceEq,Int.reduceNeg,↓reduceIte,reduceCtorEq,List.replicate])|apply A2|((first|apply J4|apply A9|apply E9|apply J5|apply J3|apply F3)<;>intro _))
  exact b8 rfl h0 rfl
end
set_option maxHeartbeats 1000000
theorem cD1 (c:UInt8):∀ (m:Nat) (s:List UInt8),s.length≤m→(n4 c s).length=Lib.countB ⟨s.toArray⟩ ⟨[c].toArray⟩+1
 |m,s,hm=>by
  show (n4 c s).length=Lib.count s [c]+1
  rcases N3 c s with h1|⟨x,r,rfl,h1⟩
  ·rw[L1 h1,Lib.count_miss (rK s h1)];rfl
  ·cases m with
   |zero=>simp at hm
   |succ m=>
    have ih:=cD1 c m r (by simp at hm;omega)
    rw[E7 r h1,Lib.count_hit (by simp) (kN x r h1),List.length_cons,ih]
    have e:(x++c::r).drop (x.length+ [c].length)=r:=by
     rw[show x++c::r=(x++ [c])++r from by simp,List.drop_left' (by simp)]
    rw[e]
    show Lib.count r [c]+1+1=_
    omega
theorem fR {n:Nat} {l:List D}:bM [] (.sl 3 n l):=eC rfl
theorem sJ {C:C5} {st:l8} {v:V} {s n:Nat} {l:List D} (hs:x7 st.own v=some (.sl s n l)) (hrow:E1 st.ro st.own (cT v)=true) (hk:s ≠ 1∨n ≠ 0) (h0:C.w0.nx=0) (hro:st.ro=0):M3 C [(0,v)] st [(0,.sl 3 n l)] ⟨[],0,0⟩:=
 (eK (t:=0) (v:=v) rfl hs hrow).trans ((M2 (t:=0) (v:= .sl s n l) (v':= .sl 3 n l) rfl (pV hk)).trans (s9 [] 0 h0 hro rfl rfl rfl))
theorem SD (e o k n c:Nat) (j:IntKind) (b:Int) (h0:0≤b) (h1:b≤c) (hc:c<1000000000000) (hc0:c ≠ 0):aE e none (some (.int j b)) none (.ref o k n c)=some (.ref o k b.toNat c):=by
 have h2:Nat.blt c v6=true:=by rw[Nat.blt_eq];unfold v6;omega
 have h3:Nat.beq c 0=false:=SW.2 hc0
 have h4:nK n c none (some (.int j b)) none=some (0,b.toNat,c,false):=by
  simp only[nK,w5,h2,if_true,r6]
  rw[if_pos ⟨h0,h1⟩]
  simp[h3,h2]
 simp only[aE,h4,Option.map_some]
 simp
def dM (dn:List (List UInt8)) (N:Nat):List D:=dn.map sD++List.replicate (N - dn.length) (sD [])
theorem DE (dn:List (List UInt8)) (N:Nat) (h:dn.length≤N):(dM dn N).length=N:=by simp[dM];omega
theorem kK (dn:List (List UInt8)) (x:List UInt8) (N:Nat) (h:dn.length<N):(dM dn N).set dn.length (sD x)=dM (dn++ [x]) N:=by
 unfold dM
 rw[List.set_append_right _ _ (by simp),List.length_map,Nat.sub_self,show N - dn.length=(N - (dn.length+1))+1 by omega,List.replicate_succ,List.length_append]
 simp
theorem DC (dn:List (List UInt8)) (N:Nat) (h:dn.length=N):dM dn N=dn.map sD:=by simp[dM,h]
section
variable (w:World) (n:Nat)
theorem aS3 (l:List UInt8) (c:UInt8) (hl:l.length≤1000000):m6 (EN w (n+5)) 56 [m8 l,m8 [c],.sc (.int .i64 0),.sc (.int .i64 (-1))] (.sl 3 (n4 c l).length ((n4 c l).map sD)) ⟨[],0,0⟩:=by
 refine y9 rfl rfl (fun _ _=>rfl) (Nat.le_of_ble_eq_true rfl) (g9 w) fR rfl fun C hC h0=>?_
 have h1:(ByteArray.mk [c].toArray).size=1:=rfl
 have hne:¬ (ByteArray.mk [c].toArray=ByteArray.mk #[]):=fun h=>by
  have:=congrArg (fun b:ByteArray=>b.data.toList) h
  simp at this
 have hsz:=p8 l
 have hcw:=cD1 c l.length l (Nat.le_refl _)
 have hwl:=(Go.Itp.words_len (c:=c) l.length (s:=l) (Nat.le_refl _)).1
 simp (disch:=first|exact bd (by with_unfolding_all rfl)|(simp only[d6]<;>omega)) only[WA,Nat.reduceEqDiff,Nat.reduceLT,Nat.reduceAdd,Int.reduceLT,Int.reduceNeg,↓reduceIte,reduceCtorEq,c56,hne]
 refine a6 (by rw[hC];exact XB w (n+3) _ l [c] (by omega) (Nat.le_refl 1)) ?_
 generalize hN:Lib.countB ⟨l.toArray⟩ ⟨[c].toArray⟩=N at*
 have hmin:min ((N:Int)+1) (((ByteArray.mk l.toArray).size:Int)+1)=((N+1:Nat):Int):=by rw[hsz];omega
 have hNs:((N+1:Nat):Int) - 1=(N:Int):=by omega
 have hN1:(((N+1:Nat):Int)).toNat=N+1:=by omega
 have hr0:D.sc (Value.string ⟨#[]⟩)::List.replicate N (D.sc (Value.string ⟨#[]⟩))=dM [] (N+1):=by simp[dM,sD,List.replicate_succ]
 simp (disch:=first|omega|exact bd (by with_unfolding_all rfl)|fail) only[WA,Nat.reduceEqDiff,Nat.reduceLT,Int.reduceNeg,↓reduceIte,reduceCtorEq,List.replicate,uK,hmin,hN1,hNs]
 rw[hr0]
 refine y6 (fun m fr st=>∃ (dn:List (List UInt8)) (r:List UInt8),m=r.length∧r.length≤1000000∧n4 c l=dn++n4 c r∧fr= [(0,m8 r),(1,m8 [c]),(2,.sc (.int .i64 0)),(3,.sc (.int .i64 N)),(9,.ref 0 0 (N+1) (N+1)),(10,.sc (.int .i64 dn.length))]∧st=⟨[(0,.row 9 1 false false (dM dn (N+1)))],1,0⟩) l.length ?_ ⟨_,_,.refl _ _,[],l,rfl,hl,rfl,?_,rfl⟩ ?_
 ·rw[hC,k8];unfold C6;omega
 ·simp
 rintro m fr st ⟨dn,r,rfl,hrl,hw,rfl,rfl⟩
 have hdl:dn.length+(n4 c r).length=N+1:=by rw[← hcw,hw,List.length_append]
 have hfl:=DE dn (N+1) (by omega)
 have hfs:=kK dn r (N+1) (by have:=List.length_pos_iff.2 (eL c r);omega)
 rcases N3 c r with hf|⟨x,r',rfl,hf⟩
 ·have hwr:=L1 hf
  rw[hwr] at hw hdl
  have hd:dn.length=N:=by simpa using hdl
  have hcw':(dn++ [r]).length=N+1:=by simp[hd]
  simp (disch:=first|omega|exact bd (by with_unfolding_all rfl)|(simp only[d6]<;>omega)) only[WA,Nat.reduceEqDiff,Nat.reduceLT,↓reduceIte,reduceCtorEq,LP]
  all_goals try (exfalso;omega)
  have hv:=SD 1 0 0 (N+1) (N+1) .i64 ((dn.length:Int)+1) (by omega) (by omega) (by omega) (by omega)
  have hvN:((dn.length:Int)+1).toNat=N+1:=by omega
  rw[hvN] at hv
  simp (disch:=first|exact bd (by with_unfolding_all rfl)|fail) only[WA,Nat.reduceEqDiff,Nat.reduceLT,↓reduceIte,hv]
  refine sJ (s:=0) ?_ rfl (.inl (by decide)) h0 rfl
  rw[show D.sc (Value.string ⟨r.toArray⟩)=sD r from rfl,hfs,DC _ _ (by simp;omega),hw,hcw']
  exact FS rfl (by simp[hd])
 ·have hi:=kN x r' hf
  have hwr:=E7 r' hf
  have hlen:(x++c::r').length=x.length+r'.length+1:=by simp;omega
  have hwp:=List.length_pos_iff.2 (eL c r')
  have hdN:dn.length<N:=by rw[hwr] at hdl;simp at hdl;omega
  have e1:=pX (x++c::r') .i64 x.length (by omega) (by rw[hlen];omega)
  have e2:=aX (x++c::r') .i64 ((x.length:Int)+1) (by omega) (by rw[hlen];omega)
  rw[Int.toNat_natCast,List.take_left] at e1
  rw[show ((x.length:Int)+1).toNat=x.length+1 by omega,show (x++c::r').drop (x.length+1)=r' by rw[← List.drop_drop];simp] at e2
  have h1i:((1:Nat):Int)=1:=rfl
  have hfx:=kK dn x (N+1) (by omega)
  simp (disch:=first|omega|exact bd (by with_unfolding_all rfl)|fail) only[WA,Nat.reduceEqDiff,Nat.reduceLT,↓reduceIte,reduceCtorEq,LP]
  refine a6 (by rw[hC];exact YK w (n+3) _ _ [c] (by omega)) ?_
  rw[hi]
  simp (disch:=first|omega|exact bd (by with_unfolding_all rfl)|(simp only[d6]<;>omega)) only[WA,Nat.reduceEqDiff,Nat.reduceLT,↓reduceIte,reduceCtorEq,h1,h1i,e1,e2,Int.add_zero]
  all_goals try (exfalso;omega)
  refine ⟨_,_,_,?_,.refl _ _,dn++ [x],r',rfl,by omega,?_,?_,?_⟩
  ·rw[hlen];omega
  ·rw[hw,hwr];simp
  ·simp
  ·rw[← hfx];rfl
theorem aA0 (l:List UInt8) (c:UInt8) (hl:l.length≤1000000):m6 (EN w (n+6)) 31 [m8 l,m8 [c]] (.sl 3 (n4 c l).length ((n4 c l).map sD)) ⟨[],0,0⟩:=by
 refine y9 rfl rfl (fun _ _=>rfl) (Nat.le_of_ble_eq_true rfl) (g9 w) fR rfl fun C hC h0=>?_
 simp (disch:=first|exact bd (by with_unfolding_all rfl)|fail) only[WA,Nat.reduceEqDiff,Nat.reduceLT,Int.reduceNeg,↓reduceIte,reduceCtorEq,c31]
 refine l5 (by rw[hC];exact aS3 w n l c hl) rfl rfl (fun _=>rfl) ?_
 repeat' (first|(simp (disch:=fail) only[WA,m7,s8,Nat.reduceEqDiff,Nat.reduceLT,Nat.reduceAdd,Nat.reduceBEq,Int.reduceAdd,Int.reduceSub,Int.reduceLT,Int.reduceLE,Int.reduceEq,Int.reduceNeg,↓reduceIte,reduceCtorEq,List.replicate])|apply A2|((first|apply J4|apply A9|apply E9|apply J5|apply J3|apply F3)<;>intro _))
 exact s9 [] 0 h0 rfl rfl rfl rfl
theorem aE7 (l:List UInt8) (hl:l.length≤1000000):m6 (EN w (n+5)) 56 [m8 l,m8 [44,32],.sc (.int .i64 0),.sc (.int .i64 (-1))] (.sl 3 (s6 l).length ((s6 l).map sD)) ⟨[],0,0⟩:=by
 refine y9 rfl rfl (fun _ _=>rfl) (Nat.le_of_ble_eq_true rfl) (g9 w) fR rfl fun C hC h0=>?_
 have h1:(ByteArray.mk #[44,32]).size=2:=rfl
 have hne:¬ (ByteArray.mk #[44,32]=ByteArray.mk #[]):=fun h=>by
  have:=congrArg (fun b:ByteArray=>b.data.toList) h
  simp at this
 have hsz:=p8 l
 have hcw:=cD2 l.length l (Nat.le_refl _)
 have hwl:=fW l
 simp (disch:=first|exact bd (by with_unfolding_all rfl)|(simp only[d6]<;>omega)) only[WA,Nat.reduceEqDiff,Nat.reduceLT,Nat.reduceAdd,Int.reduceLT,Int.reduceNeg,↓reduceIte,reduceCtorEq,c56,hne]
 refine a6 (by rw[hC];exact XB w (n+3) _ l [44,32] (by omega) (by decide)) ?_
 generalize hN:Lib.countB ⟨l.toArray⟩ ⟨#[44,32]⟩=N at*
 have hmin:min ((N:Int)+1) (((ByteArray.mk l.toArray).size:Int)+1)=((N+1:Nat):Int):=by rw[hsz];omega
 have hNs:((N+1:Nat):Int) - 1=(N:Int):=by omega
 have hN1:(((N+1:Nat):Int)).toNat=N+1:=by omega
 have hr0:D.sc (Value.string ⟨#[]⟩)::List.replicate N (D.sc (Value.string ⟨#[]⟩))=dM [] (N+1):=by simp[dM,sD,List.replicate_succ]
 simp (disch:=first|omega|exact bd (by with_unfolding_all rfl)|fail) only[WA,Nat.reduceEqDiff,Nat.reduceLT,Int.reduceNeg,↓reduceIte,reduceCtorEq,List.replicate,uK,hmin,hN1,hNs]
 rw[hr0]
 refine y6 (fun m fr st=>∃ (dn:List (List UInt8)) (r:List UInt8),m=r.length∧r.length≤1000000∧s6 l=dn++s6 r∧fr= [(0,m8 r),(1,m8 [44,32]),(2,.sc (.int .i64 0)),(3,.sc (.int .i64 N)),(9,.ref 0 0 (N+1) (N+1)),(10,.sc (.int .i64 dn.length))]∧st=⟨[(0,.row 9 1 false false (dM dn (N+1)))],1,0⟩) l.length ?_ ⟨_,_,.refl _ _,[],l,rfl,hl,rfl,?_,rfl⟩ ?_
 ·rw[hC,k8];unfold C6;omega
 ·simp
 rintro m fr st ⟨dn,r,rfl,hrl,hw,rfl,rfl⟩
 have hdl:dn.length+(s6 r).length=N+1:=by rw[← hcw,hw,List.length_append]
 have hfl:=DE dn (N+1) (by omega)
 have hfs:=kK dn r (N+1) (by have:=List.length_pos_iff.2 (sA r);omega)
 rcases mX r with ⟨hi0,hwr⟩|⟨x,r',rfl,hi,hwr⟩
 ·rw[hwr] at hw hdl
  have hd:dn.length=N:=by simpa using hdl
  have hcw':(dn++ [r]).length=N+1:=by simp[hd]
  simp (disch:=first|omega|exact bd (by with_unfolding_all rfl)|(simp only[d6]<;>omega)) only[WA,Nat.reduceEqDiff,Nat.reduceLT,↓reduceIte,reduceCtorEq,LP]
  all_goals try (exfalso;omega)
  have hv:=SD 1 0 0 (N+1) (N+1) .i64 ((dn.length:Int)+1) (by omega) (by omega) (by omega) (by omega)
  have hvN:((dn.length:Int)+1).toNat=N+1:=by omega
  rw[hvN] at hv
  simp (disch:=first|exact bd (by with_unfolding_all rfl)|fail) only[WA,Nat.reduceEqDiff,Nat.reduceLT,↓reduceIte,hv]
  refine sJ (s:=0) ?_ rfl (.inl (by decide)) h0 rfl
  rw[show D.sc (Value.string ⟨r.toArray⟩)=sD r from rfl,hfs,DC _ _ (by simp;omega),hw,hcw']
  exact FS rfl (by simp[hd])
 ·have hlen:(x++44::32::r').length=x.length+r'.length+2:=by simp;omega
  have hwp:=List.length_pos_iff.2 (sA r')
  have hdN:dn.length<N:=by rw[hwr] at hdl;simp at hdl;omega
  have e1:=pX (x++44::32::r') .i64 x.length (by omega) (by rw[hlen];omega)
  have e2:=aX (x++44::32::r') .i64 ((x.length:Int)+2) (by omega) (by rw[hlen];omega)
  rw[Int.toNat_natCast,List.take_left] at e1
  rw[show ((x.length:Int)+2).toNat=x.length+2 by omega,show (x++44::32::r').drop (x.length+2)=r' by rw[← List.drop_drop];simp] at e2
  have h1i:((2:Nat):Int)=2:=rfl
  have hfx:=kK dn x (N+1) (by omega)
  simp (disch:=first|omega|exact bd (by with_unfolding_all rfl)|fail) only[WA,Nat.reduceEqDiff,Nat.reduceLT,↓reduceIte,reduceCtorEq,LP]
  refine a6 (by rw[hC];exact YK w (n+3) _ _ [44,32] (by omega)) ?_
  rw[hi]
  simp (disch:=first|omega|exact bd (by with_unfolding_all rfl)|(simp only[d6]<;>omega)) only[WA,Nat.reduceEqDiff,Nat.reduceLT,↓reduceIte,reduceCtorEq,h1,h1i,e1,e2,Int.add_zero]
  all_goals try (exfalso;omega)
  refine ⟨_,_,_,?_,.refl _ _,dn++ [x],r',rfl,by omega,?_,?_,?_⟩
  ·rw[hlen];omega
  ·rw[hw,hwr];simp
  ·simp
  ·rw[← hfx];rfl
theorem aZ3 (l:List UInt8) (hl:l.length≤1000000):m6 (EN w (n+6)) 31 [m8 l,m8 [44,32]] (.sl 3 (s6 l).length ((s6 l).map sD)) ⟨[],0,0⟩:=by
 refine y9 rfl rfl (fun _ _=>rfl) (Nat.le_of_ble_eq_true rfl) (g9 w) fR rfl fun C hC h0=>?_
 simp (disch:=first|exact bd (by with_unfolding_all rfl)|fail) only[WA,Nat.reduceEqDiff,Nat.reduceLT,Int.reduceNeg,↓reduceIte,reduceCtorEq,c31]
 refine l5 (by rw[hC];exact aE7 w n l hl) rfl rfl (fun _=>rfl) ?_
 repeat' (first|(simp (disch:=fail) only[WA,m7,s8,Nat.reduceEqDiff,Nat.reduceLT,Nat.reduceAdd,Nat.reduceBEq,Int.reduceAdd,Int.reduceSub,Int.reduceLT,Int.reduceLE,Int.reduceEq,Int.reduceNeg,↓reduceIte,reduceCtorEq,List.replicate])|apply A2|((first|apply J4|apply A9|apply E9|apply J5|apply J3|apply F3)<;>intro _))
 exact s9 [] 0 h0 rfl rfl rfl rfl
end
set_option maxHeartbeats 400000
section
variable (w:World) (n:Nat)
theorem NU (s p:List UInt8) (hs:s.length≤1000000):m6 (EN w (n+1)) 88 [m8 s,m8 p] (.sc (.bool (x9 p s).isSome)) ⟨[],0,0⟩:=by
 have h1:=p8 s
 have h2:=p8 p
 unfold x9
 by_cases hl:p.length≤s.length
 ·have e1:=pX s .i64 p.length (by omega) (by omega)
  rw[Int.toNat_natCast] at e1
  by_cases he:s.take p.length=p
  ·rw[if_pos ⟨hl,he⟩]
   rw[he] at e1
   refine d7 rfl rfl (fun _ _=>rfl) (Nat.le_of_ble_eq_true rfl) (g9 w) rfl fun C hC h0=>?_
   simp (disch:=first|omega|exact bd (by with_unfolding_all rfl)|(simp only[d6]<;>omega)) only[WA,Nat.reduceEqDiff,Nat.reduceLT,↓reduceIte,reduceCtorEq,c88,h1,h2,e1]
   all_goals try (exfalso;omega)
   exact b8 rfl h0 rfl
  ·rw[if_neg fun h=>he h.2]
   have he2:¬ ((⟨(s.take p.length).toArray⟩:ByteArray)=⟨p.toArray⟩):=by rw[aH];exact he
   generalize s.take p.length=T at*
   refine d7 rfl rfl (fun _ _=>rfl) (Nat.le_of_ble_eq_true rfl) (g9 w) rfl fun C hC h0=>?_
   simp (disch:=first|omega|exact bd (by with_unfolding_all rfl)|fail) only[WA,Nat.reduceEqDiff,Nat.reduceLT,↓reduceIte,reduceCtorEq,c88,h1,h2,e1,he2]
   all_goals try (exfalso;omega)
   exact b8 rfl h0 rfl
 ·rw[if_neg fun h=>hl h.1]
  refine d7 rfl rfl (fun _ _=>rfl) (Nat.le_of_ble_eq_true rfl) (g9 w) rfl fun C hC h0=>?_
  simp (disch:=first|omega|exact bd (by with_unfolding_all rfl)|fail) only[WA,Nat.reduceEqDiff,Nat.reduceLT,↓reduceIte,reduceCtorEq,c88,h1,h2]
  all_goals try (exfalso;omega)
  exact b8 rfl h0 rfl
theorem aZ {p s t:List UInt8} (h:x9 p s=some t):p.length≤s.length∧t=s.drop p.length:=by
 unfold x9 at h
 split at h
 ·rename_i hc;cases h;exact ⟨hc.1,rfl⟩
 ·cases h
theorem qQ {p s t:List UInt8} (h:J2 p s=some t):p.length≤s.length∧t=s.take (s.length - p.length):=by
 unfold J2 at h
 split at h
 ·rename_i hc;cases h;exact ⟨hc.1,rfl⟩
 ·cases h
theorem aD4 (s p:List UInt8) (hs:s.length≤1000000):m6 (EN w (n+2)) 66 [m8 s,m8 p] (.tup [m8 ((x9 p s).getD s),.sc (.bool (x9 p s).isSome)]) ⟨[],0,0⟩:=by
 have h1:=p8 s
 have h2:=p8 p
 have hh:=NU w n s p hs
 cases hc:x9 p s with
 |none=>
  rw[hc] at hh
  refine d7 rfl rfl (fun _ _=>rfl) (Nat.le_of_ble_eq_true rfl) (g9 w) rfl fun C hC h0=>?_
  simp (disch:=first|exact bd (by with_unfolding_all rfl)|fail) only[WA,Nat.reduceEqDiff,Nat.reduceLT,↓reduceIte,reduceCtorEq,c66]
  refine a6 (by rw[hC];exact hh.flat rfl rfl) ?_
  simp (disch:=first|exact bd (by with_unfolding_all rfl)|fail) only[WA,Nat.reduceEqDiff,Nat.reduceLT,↓reduceIte,reduceCtorEq,Option.isSome_none]
  exact b8 rfl h0 rfl
 |some t=>
  rw[hc] at hh
  obtain ⟨hl,ht⟩:=aZ hc
  have e1:=aX s .i64 p.length (by omega) (by omega)
  rw[Int.toNat_natCast,← ht] at e1
  refine d7 rfl rfl (fun _ _=>rfl) (Nat.le_of_ble_eq_true rfl) (g9 w) rfl fun C hC h0=>?_
  simp (disch:=first|exact bd (by with_unfolding_all rfl)|fail) only[WA,Nat.reduceEqDiff,Nat.reduceLT,↓reduceIte,reduceCtorEq,c66]
  refine a6 (by rw[hC];exact hh.flat rfl rfl) ?_
  simp (disch:=first|exact bd (by with_unfolding_all rfl)|fail) only[WA,Nat.reduceEqDiff,Nat.reduceLT,↓reduceIte,reduceCtorEq,Option.isSome_some,h2,e1]
  exact b8 rfl h0 rfl
theorem vU (s p:List UInt8) (hs:s.length≤1000000):m6 (EN w (n+3)) 40 [m8 s,m8 p] (.tup [m8 ((x9 p s).getD s),.sc (.bool (x9 p s).isSome)]) ⟨[],0,0⟩:=by
 have hh:=aD4 w n s p hs
 generalize (x9 p s).getD s=T at*
 generalize (x9 p s).isSome=B at*
 refine d7 rfl rfl (fun _ _=>rfl) (Nat.le_of_ble_eq_true rfl) (g9 w) rfl fun C hC h0=>?_
 simp (disch:=first|exact bd (by with_unfolding_all rfl)|fail) only[WA,Nat.reduceEqDiff,Nat.reduceLT,↓reduceIte,reduceCtorEq,c40]
 refine a6 (by rw[hC];exact hh.flat rfl rfl) ?_
 simp (disch:=first|exact bd (by with_unfolding_all rfl)|fail) only[WA,Nat.reduceEqDiff,Nat.reduceLT,↓reduceIte,reduceCtorEq]
 exact b8 rfl h0 rfl
theorem WE (s p:List UInt8) (hs:s.length≤1000000):m6 (EN w (n+2)) 83 [m8 s,m8 p] (m8 ((x9 p s).getD s)) ⟨[],0,0⟩:=by
 have h1:=p8 s
 have h2:=p8 p
 have hh:=NU w n s p hs
 cases hc:x9 p s with
 |none=>
  rw[hc] at hh
  refine d7 rfl rfl (fun _ _=>rfl) (Nat.le_of_ble_eq_true rfl) (g9 w) rfl fun C hC h0=>?_
  simp (disch:=first|exact bd (by with_unfolding_all rfl)|fail) only[WA,Nat.reduceEqDiff,Nat.reduceLT,↓reduceIte,reduceCtorEq,c83]
  refine a6 (by rw[hC];exact hh.flat rfl rfl) ?_
  simp (disch:=first|exact bd (by with_unfolding_all rfl)|fail) only[WA,Nat.reduceEqDiff,Nat.reduceLT,↓reduceIte,reduceCtorEq,Option.isSome_none]
  exact b8 rfl h0 rfl
 |some t=>
  rw[hc] at hh
  obtain ⟨hl,ht⟩:=aZ hc
  have e1:=aX s .i64 p.length (by omega) (by omega)
  rw[Int.toNat_natCast,← ht] at e1
  refine d7 rfl rfl (fun _ _=>rfl) (Nat.le_of_ble_eq_true rfl) (g9 w) rfl fun C hC h0=>?_
  simp (disch:=first|exact bd (by with_unfolding_all rfl)|fail) only[WA,Nat.reduceEqDiff,Nat.reduceLT,↓reduceIte,reduceCtorEq,c83]
  refine a6 (by rw[hC];exact hh.flat rfl rfl) ?_
  simp (disch:=first|exact bd (by with_unfolding_all rfl)|fail) only[WA,Nat.reduceEqDiff,Nat.reduceLT,↓reduceIte,reduceCtorEq,Option.isSome_some,h2,e1]
  exact b8 rfl h0 rfl
theorem aJ2 (s p:List UInt8) (hs:s.length≤1000000):m6 (EN w (n+3)) 59 [m8 s,m8 p] (m8 ((x9 p s).getD s)) ⟨[],0,0⟩:=by
 have hh:=WE w n s p hs
 generalize (x9 p s).getD s=T at*
 refine d7 rfl rfl (fun _ _=>rfl) (Nat.le_of_ble_eq_true rfl) (g9 w) rfl fun C hC h0=>?_
 simp (disch:=first|exact bd (by with_unfolding_all rfl)|fail) only[WA,Nat.reduceEqDiff,Nat.reduceLT,↓reduceIte,reduceCtorEq,c59]
 refine a6 (by rw[hC];exact hh.flat rfl rfl) ?_
 repeat' (first|(simp (disch:=fail) only[WA,m7,s8,Nat.reduceEqDiff,Nat.reduceLT,Nat.reduceAdd,Nat.reduceBEq,Int.reduceAdd,Int.reduceSub,Int.reduceLT,Int.reduceLE,Int.reduceEq,Int.reduceNeg,↓reduceIte,reduceCtorEq,List.replicate])|apply A2|((first|apply J4|apply A9|apply E9|apply J5|apply J3|apply F3)<;>intro _))
 exact b8 rfl h0 rfl
theorem aS4 (s p:List UInt8) (hs:s.length≤1000000):m6 (EN w (n+1)) 87 [m8 s,m8 p] (.sc (.bool (J2 p s).isSome)) ⟨[],0,0⟩:=by
 have h1:=p8 s
 have h2:=p8 p
 unfold J2
 by_cases hl:p.length≤s.length
 ·have e1:=aX s .i64 ((s.length:Int) - p.length) (by omega) (by omega)
  rw[show ((s.length:Int) - p.length).toNat=s.length - p.length from by omega] at e1
  by_cases he:s.drop (s.length - p.length)=p
  ·rw[if_pos ⟨hl,he⟩]
   rw[he] at e1
   refine d7 rfl rfl (fun _ _=>rfl) (Nat.le_of_ble_eq_true rfl) (g9 w) rfl fun C hC h0=>?_
   simp (disch:=first|omega|exact bd (by with_unfolding_all rfl)|(simp only[d6]<;>omega)) only[WA,Nat.reduceEqDiff,Nat.reduceLT,↓reduceIte,reduceCtorEq,c87,h1,h2,e1]
   all_goals try (exfalso;omega)
   exact b8 rfl h0 rfl
  ·rw[if_neg fun h=>he h.2]
   have he2:¬ ((⟨(s.drop (s.length - p.length)).toArray⟩:ByteArray)=⟨p.toArray⟩):=by rw[aH];exact he
   generalize s.drop (s.length - p.length)=T at*
   refine d7 rfl rfl (fun _ _=>rfl) (Nat.le_of_ble_eq_true rfl) (g9 w) rfl fun C hC h0=>?_
   simp (disch:=first|omega|exact bd (by with_unfolding_all rfl)|fail) only[WA,Nat.reduceEqDiff,Nat.reduceLT,↓reduceIte,reduceCtorEq,c87,h1,h2,e1,he2]
   all_goals try (exfalso;omega)
   exact b8 rfl h0 rfl
 ·rw[if_neg fun h=>hl h.1]
  refine d7 rfl rfl (fun _ _=>rfl) (Nat.le_of_ble_eq_true rfl) (g9 w) rfl fun C hC h0=>?_
  simp (disch:=first|omega|exact bd (by with_unfolding_all rfl)|fail) only[WA,Nat.reduceEqDiff,Nat.reduceLT,↓reduceIte,reduceCtorEq,c87,h1,h2]
  all_goals try (exfalso;omega)
  exact b8 rfl h0 rfl
theorem aD5 (s p:List UInt8) (hs:s.length≤1000000):m6 (EN w (n+2)) 65 [m8 s,m8 p] (.tup [m8 ((J2 p s).getD s),.sc (.bool (J2 p s).isSome)]) ⟨[],0,0⟩:=by
 have h1:=p8 s
 have h2:=p8 p
 have hh:=aS4 w n s p hs
 cases hc:J2 p s with
 |none=>
  rw[hc] at hh
  refine d7 rfl rfl (fun _ _=>rfl) (Nat.le_of_ble_eq_true rfl) (g9 w) rfl fun C hC h0=>?_
  simp (disch:=first|exact bd (by with_unfolding_all rfl)|fail) only[WA,Nat.reduceEqDiff,Nat.reduceLT,↓reduceIte,reduceCtorEq,c65]
  refine a6 (by rw[hC];exact hh.flat rfl rfl) ?_
  simp (disch:=first|exact bd (by with_unfolding_all rfl)|fail) only[WA,Nat.reduceEqDiff,Nat.reduceLT,↓reduceIte,reduceCtorEq,Option.isSome_none]
  exact b8 rfl h0 rfl
 |some t=>
  rw[hc] at hh
  obtain ⟨hl,ht⟩:=qQ hc
  have e1:=pX s .i64 ((s.length:Int) - p.length) (by omega) (by omega)
  rw[show ((s.length:Int) - p.length).toNat=s.length - p.length from by omega,← ht] at e1
  refine d7 rfl rfl (fun _ _=>rfl) (Nat.le_of_ble_eq_true rfl) (g9 w) rfl fun C hC h0=>?_
  simp (disch:=first|exact bd (by with_unfolding_all rfl)|fail) only[WA,Nat.reduceEqDiff,Nat.reduceLT,↓reduceIte,reduceCtorEq,c65]
  refine a6 (by rw[hC];exact hh.flat rfl rfl) ?_
  simp (disch:=first|omega|exact bd (by with_unfolding_all rfl)|fail) only[WA,Nat.reduceEqDiff,Nat.reduceLT,↓reduceIte,reduceCtorEq,Option.isSome_some,h1,h2,e1]
  exact b8 rfl h0 rfl
theorem vW (s p:List UInt8) (hs:s.length≤1000000):m6 (EN w (n+3)) 39 [m8 s,m8 p] (.tup [m8 ((J2 p s).getD s),.sc (.bool (J2 p s).isSome)]) ⟨[],0,0⟩:=by
 have hh:=aD5 w n s p hs
 generalize (J2 p s).getD s=T at*
 generalize (J2 p s).isSome=B at*
 refine d7 rfl rfl (fun _ _=>rfl) (Nat.le_of_ble_eq_true rfl) (g9 w) rfl fun C hC h0=>?_
 simp (disch:=first|exact bd (by with_unfolding_all rfl)|fail) only[WA,Nat.reduceEqDiff,Nat.reduceLT,↓reduceIte,reduceCtorEq,c39]
 refine a6 (by rw[hC];exact hh.flat rfl rfl) ?_
 simp (disch:=first|exact bd (by with_unfolding_all rfl)|fail) only[WA,Nat.reduceEqDiff,Nat.reduceLT,↓reduceIte,reduceCtorEq]
 exact b8 rfl h0 rfl
theorem MJ (s:List UInt8):(I2 s).length≤4∧(I2 s).length≤s.length∧I2 s=s.take (I2 s).length∧(∀ i,i<(I2 s).length→B0 s[i]! =true)∧((I2 s).length<4→(I2 s).length<s.length→B0 s[(I2 s).length]! =false):=by
 have aux:∀ (m:Nat) (l:List UInt8),((l.take m).takeWhile B0).length≤m∧((l.take m).takeWhile B0).length≤l.length∧(l.take m).takeWhile B0=l.take ((l.take m).takeWhile B0).length∧(∀ i,i<((l.take m).takeWhile B0).length→B0 l[i]! =true)∧(((l.take m).takeWhile B0).length<m→((l.take m).takeWhile B0).length<l.length→B0 l[((l.take m).takeWhile B0).length]! =false):=by
  intro m
  induction m with
  |zero=>intro l;simp
  |succ m ih=>
   intro l
   cases l with
   |nil=>simp
   |cons c l=>
    obtain ⟨h1,h2,h3,h4,h5⟩:=ih l
    rw[List.take_succ_cons,List.takeWhile_cons]
    cases hc:B0 c with
    |false=>simp[hc]
    |true=>
     simp only[if_true,List.length_cons,List.take_succ_cons]
     refine ⟨by omega,by omega,by rw[← h3],fun i hi=>?_,fun a b=>?_⟩
     ·cases i with
      |zero=>simpa using hc
      |succ i=>simpa using h4 i (by omega)
     ·have:=h5 (by omega) (by omega)
      simpa using this
 exact aux 4 s
theorem aJ3 {s:List UInt8} {k:Nat} (hk:k<s.length):aB (s.take (k+1))=10*aB (s.take k)+((s[k]!.toNat:Int) - 48):=by
 rw[List.take_succ_eq_append_getElem hk,sE,getElem!_pos s k hk]
theorem WG:∀ (n:Nat) (l:List UInt8),l.length=n→(∀ c ∈ l,B0 c=true)→0≤aB l∧aB l<10 ^ l.length:=by
 intro n
 induction n with
 |zero=>
  intro l hl _
  have:=List.eq_nil_of_length_eq_zero hl
  subst this
  simp[aB]
 |succ n ih=>
  intro l hl h
  rcases List.eq_nil_or_concat l with rfl|⟨q,d,rfl⟩
  ·simp at hl
  ·have h1:=ih q (by simpa using hl) fun c hc=>h c (by simp[hc])
   have h2:=h d (by simp)
   simp only[B0,Bool.and_eq_true,decide_eq_true_eq] at h2
   rw[List.concat_eq_append,sE,List.length_append,List.length_singleton,Int.pow_succ]
   omega
theorem cG3 {s:List UInt8} {k:Nat} (hk:k≤(I2 s).length):0≤aB (s.take k)∧aB (s.take k)<10000:=by
 obtain ⟨h1,h2,h3,h4,h5⟩:=MJ s
 have hb:=WG _ (s.take k) rfl fun c hc=>by
  obtain ⟨i,hi,rfl⟩:=List.mem_iff_getElem.1 hc
  rw[List.length_take] at hi
  have:=h4 i (by omega)
  rw[getElem!_pos s i (by omega)] at this
  rw[List.getElem_take];exact this
 refine ⟨hb.1,Int.lt_of_lt_of_le hb.2 ?_⟩
 have hl:(s.take k).length≤4:=by rw[List.length_take];omega
 rcases (by omega:(s.take k).length=0∨(s.take k).length=1∨(s.take k).length=2∨(s.take k).length=3∨(s.take k).length=4) with h|h|h|h|h<;>rw[h]<;>decide
theorem OS (s:List UInt8) (hs:s.length≤1000000):m6 (EN w (n+1)) 58 [m8 s] (.tup [.sc (.int .i64 (aB (I2 s))),m8 (eB s),.sc (.bool (decide (I2 s ≠ [])))]) ⟨[],0,0⟩:=by
 refine d7 rfl rfl (fun _ _=>rfl) (Nat.le_of_ble_eq_true rfl) (g9 w) rfl fun C hC h0=>?_
 have hrn:C.E.rounds=C6:=by rw[hC,k8]
 have hsz:=p8 s
 obtain ⟨h1,h2,h3,h4,h5⟩:=MJ s
 have hv:=fun k (hk:k≤(I2 s).length)=>cG3 hk
 have hne:decide (I2 s ≠ [])=decide (0<(I2 s).length):=by
  rw[Bool.eq_iff_iff,decide_eq_true_iff,decide_eq_true_iff,List.length_pos_iff]
 rw[hne]
 unfold eB
 have hval:aB (I2 s)=aB (s.take (I2 s).length):=congrArg aB h3
 rw[hval]
 generalize (I2 s).length=d at*
 simp (disch:=first|exact bd (by with_unfolding_all rfl)|fail) only[WA,Nat.reduceEqDiff,Nat.reduceLT,↓reduceIte,reduceCtorEq,c58]
 refine y6 (fun m fr st=>∃ k:Nat,m=d - k∧k≤d∧fr= [(0,m8 s),(2,.sc (.int .i64 (aB (s.take k)))),(5,.sc (.int .i64 k))]∧st=⟨[],0,0⟩) d ?_ ⟨_,_,.refl _ _,0,by omega,Nat.zero_le _,rfl,rfl⟩ ?_
 ·rw[hrn];unfold C6;omega
 rintro m fr st ⟨k,rfl,hk,rfl,rfl⟩
 have hvk:=hv k hk
 by_cases hlt:k<d
 ·have hdg:=h4 k hlt
  have hb:=Q6 s .i64 k (by omega) (by omega)
  rw[Int.toNat_natCast] at hb
  have hst:=aJ3 (s:=s) (k:=k) (by omega)
  have hvk1:=hv (k+1) hlt
  simp only[B0,Bool.and_eq_true,decide_eq_true_eq] at hdg
  generalize s[k]!.toNat=b at*
  generalize aB (s.take k)=v at*
  have e1:IntKind.u8.wrap ((b:Int) - 48)=((b - 48:Nat):Int):=by rw[uR _ (by omega) (by omega)];omega
  simp (disch:=first|omega|exact bd (by with_unfolding_all rfl)|fail) only[WA,Nat.reduceEqDiff,Nat.reduceLT,↓reduceIte,reduceCtorEq,LQ,hsz,hb,e1]
  all_goals try (exfalso;omega)
  refine ⟨_,_,_,by omega,.refl _ _,k+1,rfl,hlt,?_,rfl⟩
  rw[hst,show (b:Int) - 48=((b - 48:Nat):Int) from by omega]
  rfl
 ·have:k=d:=by omega
  subst this
  have e1:=aX s .i64 k (by omega) (by omega)
  rw[Int.toNat_natCast] at e1
  by_cases hb4:k<4∧k<s.length
  ·have hdg:=h5 hb4.1 hb4.2
   have hb:=Q6 s .i64 k (by omega) (by omega)
   rw[Int.toNat_natCast] at hb
   have hdg2:¬ (48≤s[k]!.toNat∧s[k]!.toNat≤57):=fun h=>by
    have:B0 s[k]! =true:=by simp only[B0,Bool.and_eq_true,decide_eq_true_eq];exact h
    rw[hdg] at this;cases this
   generalize s[k]!.toNat=b at*
   generalize aB (s.take k)=v at*
   rcases (by omega:b<48∨57<b) with h|h
   all_goals
    repeat' (first|(simp (disch:=first|omega|exact bd (by with_unfolding_all rfl)|fail) only[WA,m7,s8,Nat.reduceEqDiff,Nat.reduceLT,↓reduceIte,reduceCtorEq,LQ,hsz,hb,e1])|apply A2|((first|apply J4|apply A9|apply E9|apply J5|apply J3|apply F3)<;>intro _))
    all_goals try (exfalso;omega)
    rw[show decide ((0:Int)<k)=decide (0<k) from decide_eq_decide.2 (by omega)]
    exact b8 rfl h0 rfl
  ·generalize aB (s.take k)=v at*
   rcases (by omega:¬ k<s.length∨(k<s.length∧¬ k<4)) with h|h
   ·simp (disch:=first|omega|exact bd (by with_unfolding_all rfl)|fail) only[WA,m7,s8,Nat.reduceEqDiff,Nat.reduceLT,↓reduceIte,reduceCtorEq,LQ,hsz,e1]
    all_goals try (exfalso;omega)
    rw[show decide ((0:Int)<k)=decide (0<k) from decide_eq_decide.2 (by omega)]
    exact b8 rfl h0 rfl
   ·simp (disch:=first|omega|exact bd (by with_unfolding_all rfl)|fail) only[WA,m7,s8,Nat.reduceEqDiff,Nat.reduceLT,↓reduceIte,reduceCtorEq,LQ,hsz,e1]
    all_goals try (exfalso;omega)
    exact b8 rfl h0 rfl
end
def jB:Option (List Int × List UInt8)→V
 |none=> .tup [.sl 3 0 [],m8 [],.sc (.bool false)]
 |some (m,r)=> .tup [.sl 3 m.length (m.map iD),m8 r,.sc (.bool true)]
theorem FE (nx t:Nat) (z:Int):N7 nx t 1 1 [.int .i64 0] [(0,1,.sc (.int .i64 z))]=some (.ref nx 0 1 1,some (.row t 1 false false [.sc (.int .i64 z)]),[]):=(rfl)
theorem aZ1 {H:E4} {o t n:Nat} {z:Bool} {l:List D} (h:f8 H o=some (.gro t 1 z l)) (hl:l.length=n):x7 H (.gr 2 o n)=some (.sl 2 n l):=by
 simp only[x7,cY,h,Nat.mul_one]
 rw[if_pos ⟨hl,by decide,by decide,by decide⟩]
 rfl
theorem EY (s:List UInt8):(eB s).length≤s.length:=by unfold eB;rw[List.length_drop];omega
section
variable (w:World) (n:Nat)
theorem JB (s form:List UInt8) (hs:s.length≤100000) (hf:form.length≤1000):m6 (EN w (n+7)) 38 [m8 s,m8 form] (jB (B7 (n4 35 form) s)) ⟨[],0,0⟩:=by
 have hsp:=aA0 w n form 35 (by omega)
 have hwl:=(Go.Itp.words_len (c:=35) form.length (s:=form) (Nat.le_refl _))
 have hwn:=eL 35 form
 generalize n4 35 form=f at*
 refine y9 rfl rfl (fun _ _=>rfl) (Nat.le_of_ble_eq_true rfl) (g9 w) (by cases B7 f s<;>exact VT) rfl fun C hC h0=>?_
 have hrn:C.E.rounds=C6:=by rw[hC,k8]
 simp (disch:=first|exact bd (by with_unfolding_all rfl)|fail) only[WA,Nat.reduceEqDiff,Nat.reduceLT,↓reduceIte,reduceCtorEq,c38]
 refine l5 (by rw[hC];exact hsp) rfl rfl (fun _=>rfl) ?_
 simp (disch:=first|exact bd (by with_unfolding_all rfl)|fail) only[WA,Nat.reduceEqDiff,Nat.reduceLT,↓reduceIte,reduceCtorEq]
 refine y6 (fun m fr st=>∃ (k:Nat) (t:List UInt8) (l:List Int),m=f.length - k∧k≤f.length∧t.length≤s.length∧l.length≤k∧(if k=0 then t=s∧l= [] else B7 f s=S5 (f.drop k) t l)∧fr= [(0,m8 t),(4,.gr 2 0 l.length),(17,.sl 3 f.length (f.map sD)),(18,.sc (.int .i64 f.length)),(19,.sc (.int .i64 k))]∧st=⟨[(0,.gro 3 1 false (l.map iD))],1,0⟩) f.length ?_ ⟨_,_,P0 4 3 1 rfl,0,s,[],by omega,Nat.zero_le _,Nat.le_refl _,Nat.le_refl _,by rw[if_pos rfl];exact ⟨rfl,rfl⟩,rfl,rfl⟩ ?_
 ·rw[hrn];unfold C6;omega
 rintro m fr st ⟨k,t,l,rfl,hk,htl,hll,hinv,rfl,rfl⟩
 by_cases hlt:k<f.length
 ·have hfk:f.drop k=f[k]! ::f.drop (k+1):=by rw[List.drop_eq_getElem_cons hlt,getElem!_pos f k hlt]
  have hpl:f[k]!.length≤1000:=by
   have:=hwl.2 f[k]! (by rw[getElem!_pos f k hlt];exact List.getElem_mem hlt)
   omega
  generalize hp:f[k]! =p at*
  by_cases hk0:k=0
  ·subst hk0
   rw[if_pos rfl] at hinv
   obtain ⟨rfl,rfl⟩:=hinv
   have hcp:=vU w (n+3) t p (by omega)
   rw[List.drop_zero] at hfk
   have hm:B7 f t=match x9 p t with
     |none=>none
     |some t'=>S5 (f.drop 1) t' []:=by rw[hfk];rfl
   cases hc:x9 p t with
   |none=>
    rw[hc] at hcp hm
    rw[hm]
    simp (disch:=first|omega|exact bd (by with_unfolding_all rfl)|fail) only[WA,Nat.reduceEqDiff,Nat.reduceLT,↓reduceIte,reduceCtorEq,vL,hp]
    all_goals try (exfalso;omega)
    refine a6 (by rw[hC];exact hcp.flat rfl rfl) ?_
    simp (disch:=first|exact bd (by with_unfolding_all rfl)|fail) only[WA,Nat.reduceEqDiff,Nat.reduceLT,↓reduceIte,reduceCtorEq,Option.isSome_none]
    exact gE h0 rfl
   |some t'=>
    rw[hc] at hcp hm
    have hle:=aZ hc
    have htl':t'.length≤t.length:=by rw[hle.2,List.length_drop];omega
    simp (disch:=first|omega|exact bd (by with_unfolding_all rfl)|fail) only[WA,Nat.reduceEqDiff,Nat.reduceLT,↓reduceIte,reduceCtorEq,vL,hp]
    all_goals try (exfalso;omega)
    refine a6 (by rw[hC];exact hcp.flat rfl rfl) ?_
    simp (disch:=first|omega|exact bd (by with_unfolding_all rfl)|fail) only[WA,Nat.reduceEqDiff,Nat.reduceLT,↓reduceIte,reduceCtorEq,Option.isSome_some,Option.getD_some]
    exact ⟨f.length - 1,_,_,by omega,.refl _ _,1,t',[],rfl,by omega,htl',Nat.zero_le _,by rw[if_neg (by decide)];exact hm,rfl,rfl⟩
  ·rw[if_neg hk0] at hinv
   rw[hfk,S5] at hinv
   have hnum:=OS w (n+5) t (by omega)
   by_cases hd:I2 t= []
   ·rw[if_pos hd] at hinv
    rw[hinv]
    rw[hd,show decide (([]:List UInt8) ≠ [])=false from rfl] at hnum
    simp (disch:=first|omega|exact bd (by with_unfolding_all rfl)|fail) only[WA,Nat.reduceEqDiff,Nat.reduceLT,↓reduceIte,reduceCtorEq,vL,hp]
    all_goals try (exfalso;omega)
    refine a6 (by rw[hC];exact hnum.flat rfl rfl) ?_
    simp (disch:=first|exact bd (by with_unfolding_all rfl)|fail) only[WA,Nat.reduceEqDiff,Nat.reduceLT,↓reduceIte,reduceCtorEq]
    exact gE h0 rfl
   ·rw[if_neg hd] at hinv
    rw[decide_eq_true hd] at hnum
    have hrl:=EY t
    generalize aB (I2 t)=v at*
    generalize eB t=r at*
    have hcp:=vU w (n+3) r p (by omega)
    cases hc:x9 p r with
    |none=>
     rw[hc] at hcp hinv
     rw[hinv]
     simp (disch:=first|omega|exact bd (by with_unfolding_all rfl)|fail) only[WA,Nat.reduceEqDiff,Nat.reduceLT,↓reduceIte,reduceCtorEq,vL,hp]
     all_goals try (exfalso;omega)
     refine a6 (by rw[hC];exact hnum.flat rfl rfl) ?_
     simp (disch:=first|omega|exact bd (by with_unfolding_all rfl)|(simp only[d6]<;>omega)) only[WA,Nat.reduceEqDiff,Nat.reduceLT,Nat.reduceAdd,↓reduceIte,reduceCtorEq,FE]
     all_goals try (exfalso;omega)
     refine a6 (by rw[hC];exact hcp.flat rfl rfl) ?_
     simp (disch:=first|exact bd (by with_unfolding_all rfl)|fail) only[WA,Nat.reduceEqDiff,Nat.reduceLT,↓reduceIte,reduceCtorEq,Option.isSome_none]
     exact gE h0 rfl
    |some t'=>
     rw[hc] at hcp hinv
     have hle:=aZ hc
     have htl':t'.length≤r.length:=by rw[hle.2,List.length_drop];omega
     simp (disch:=first|omega|exact bd (by with_unfolding_all rfl)|fail) only[WA,Nat.reduceEqDiff,Nat.reduceLT,↓reduceIte,reduceCtorEq,vL,hp]
     all_goals try (exfalso;omega)
     refine a6 (by rw[hC];exact hnum.flat rfl rfl) ?_
     simp (disch:=first|omega|exact bd (by with_unfolding_all rfl)|(simp only[d6]<;>omega)) only[WA,Nat.reduceEqDiff,Nat.reduceLT,Nat.reduceAdd,↓reduceIte,reduceCtorEq,FE]
     all_goals try (exfalso;omega)
     refine a6 (by rw[hC];exact hcp.flat rfl rfl) ?_
     simp (disch:=first|omega|exact bd (by with_unfolding_all rfl)|fail) only[WA,Nat.reduceEqDiff,Nat.reduceLT,↓reduceIte,reduceCtorEq,Option.isSome_some,Option.getD_some]
     refine ⟨f.length - (k+1),_,_,by omega,s9 [(2,0)] 1 h0 rfl rfl rfl rfl,k+1,t',l++ [v],rfl,by omega,by omega,by rw[List.length_append];simp;omega,by rw[if_neg (by omega)];exact hinv,by rw[List.length_append];rfl,by rw[List.map_append];rfl⟩
 ·have:k=f.length:=by omega
  subst this
  have hpos:=List.length_pos_iff.2 hwn
  rw[if_neg (by omega),List.drop_length,S5] at hinv
  rw[hinv]
  unfold jB
  simp (disch:=first|omega|exact bd (by with_unfolding_all rfl)|fail) only[WA,Nat.reduceEqDiff,Nat.reduceLT,↓reduceIte,reduceCtorEq,vL]
  all_goals try (exfalso;omega)
  refine aK7 (s:=2) (n:=l.length) (l:=l.map iD) ?_ rfl (.inl (by omega)) h0 rfl
  exact aZ1 rfl (by simp)
end
end Go.Proofs.YtimmmnanllcfoaaDoor
namespace Go.Itp
def AC.l:AC→AC
 | .seq a _=>a
 |x=>x
def AC.r:AC→AC
 | .seq _ b=>b
 |x=>x
def AC.b:AC→AC
 | .block _ b=>b
 |x=>x
end Go.Itp
namespace Go.Proofs.YtimmmnanllcfoaaDoor
open Go Go.Itp
set_option maxRecDepth 100000
set_option maxHeartbeats 400000
set_option linter.unusedSimpArgs false
set_option linter.unusedVariables false
abbrev cN (x:n8):Go.Itp.Obj:= .box 48 1 [.sc (.int .u8 x.kind),.sc (.bool x.purl),.sc (.int .i64 x.a),.sc (.int .i64 x.b)]
def BC:AC:=AC.b (AC.l (AC.r (AC.r N4)))
def lG:AC:=AC.r (AC.r (AC.r (AC.r (AC.r (AC.r BC)))))
def BR:AC:=AC.r lG
theorem VC {x:n8} {m:Int} {s:List UInt8}:(¬ (⟨(B3 x m).toArray⟩:ByteArray)=⟨s.toArray⟩)↔B3 x m ≠ s:=by rw[aH]
section
variable (w:World) (n:Nat)
theorem PX (G:V) {fr:List (Nat × V)} {C:C5} (hC:C.E=EN w (n+7)) (s:List UInt8) (hs:s.length≤100000) (x:n8) (hx:x.kind<256) (j k:Int) (m:Int) (r:List UInt8) (hr:r.length≤100000) {T S:AC} (hT:T=BR) {P:A8}
  (hgo:bO x (m,r) s=none→gK C [KF.seq S] .normal [(0,m8 s),(2,.ptr 0 0),(5,.sc (.int .u8 k)),(7,.ptr 1 0),(8,.sc (.int .i64 m)),(20,.sc (.int .i64 j)),(106,.sc (.bool false))] ⟨[(1,cN x),(0,cN uE)],2,0⟩ P)
  (hret:∀ fr st,bO x (m,r) s=some (x,m)→f8 fr 2=some (.ptr 0 0)→f8 fr 3=some (.sc (.int .i64 m))→f8 fr 4=some (.sc (.bool true))→f8 st.own 0=some (cN x)→st.ro=0→P .ret fr st)
  (hfr:fr= [(0,m8 s),(2,.ptr 0 0),(5,.sc (.int .u8 k)),(7,.ptr 1 0),(8,.sc (.int .i64 m)),(12,m8 r),(20,.sc (.int .i64 j))]∨fr= [(0,m8 s),(2,.ptr 0 0),(5,.sc (.int .u8 k)),(7,.ptr 1 0),(8,.sc (.int .i64 m)),(12,m8 r),(14,G),(20,.sc (.int .i64 j)),(77,.sc (.bool false))]):
  gK C [KF.seq T,KF.block 3,KF.seq S] .normal fr ⟨[(1,cN x),(0,cN uE)],2,0⟩ P:=by
 rcases hfr with hfr|hfr<;>subst hfr
 all_goals
  have hck:=QQ w (n+5) x hx
  have hph:=fun h1 h2 h3=>PG w (n+4) x h1 m h2 h3
  have hn:¬ (r= []∧(1≤m∧m≤200)∧F8 x∧B3 x m=s)→bO x (m,r) s=none:=fun h=>by unfold bO;rw[if_neg h]
  have hy:(r= []∧(1≤m∧m≤200)∧F8 x∧B3 x m=s)→bO x (m,r) s=some (x,m):=fun h=>by unfold bO;rw[if_pos h]
  have hemp:((⟨r.toArray⟩:ByteArray)=⟨#[]⟩)=(r= []):=aH r []
  generalize bO x (m,r) s=cc at*
  subst hT
  by_cases h1:r= []
  case neg=>
   have hgo:=hgo (hn fun h=>h1 h.1)
   obtain ⟨xk,xp,xa,xb⟩:=x
   simp (disch:=first|exact bd (by with_unfolding_all rfl)|fail) only[WA,Nat.reduceEqDiff,Nat.reduceLT,↓reduceIte,reduceCtorEq,BR,lG,BC,AC.r,AC.l,AC.b,N4,hemp,h1]
   exact hgo
  by_cases h2:1≤m
  case neg=>
   have hgo:=hgo (hn fun h=>h2 h.2.1.1)
   obtain ⟨xk,xp,xa,xb⟩:=x
   simp (disch:=first|omega|exact bd (by with_unfolding_all rfl)|(simp only[d6]<;>omega)) only[WA,Nat.reduceEqDiff,Nat.reduceLT,↓reduceIte,reduceCtorEq,BR,lG,BC,AC.r,AC.l,AC.b,N4,hemp,h1]
   all_goals try (exfalso;omega)
   exact hgo
  by_cases h3:m≤200
  case neg=>
   have hgo:=hgo (hn fun h=>h3 h.2.1.2)
   obtain ⟨xk,xp,xa,xb⟩:=x
   simp (disch:=first|omega|exact bd (by with_unfolding_all rfl)|(simp only[d6]<;>omega)) only[WA,Nat.reduceEqDiff,Nat.reduceLT,↓reduceIte,reduceCtorEq,BR,lG,BC,AC.r,AC.l,AC.b,N4,hemp,h1]
   all_goals try (exfalso;omega)
   exact hgo
  cases h4:D3 x with
  |false=>
   have hgo:=hgo (hn fun h=>by rw[D6.2 h.2.2.1] at h4;cases h4)
   rw[h4,if_neg (by decide)] at hck
   obtain ⟨xk,xp,xa,xb⟩:=x
   simp (disch:=first|omega|exact bd (by with_unfolding_all rfl)|(simp only[d6]<;>omega)) only[WA,Nat.reduceEqDiff,Nat.reduceLT,↓reduceIte,reduceCtorEq,BR,lG,BC,AC.r,AC.l,AC.b,N4,hemp,h1]
   all_goals try (exfalso;omega)
   refine a6 (by rw[hC];exact hck.flat rfl rfl) ?_
   simp (disch:=first|exact bd (by with_unfolding_all rfl)|fail) only[WA,Nat.reduceEqDiff,Nat.reduceLT,Int.reduceEq,↓reduceIte,reduceCtorEq]
   exact hgo
  |true=>
   have hP:=D6.1 h4
   rw[h4,if_pos rfl] at hck
   have hph:=hph hP h2 (by omega)
   by_cases h5:B3 x m=s
   ·have hret:=fun fr st=>hret fr st (hy ⟨h1,⟨h2,h3⟩,hP,h5⟩)
    rw[h5] at hph
    clear hgo hn hy
    obtain ⟨xk,xp,xa,xb⟩:=x
    simp (disch:=first|omega|exact bd (by with_unfolding_all rfl)|(simp only[d6]<;>omega)) only[WA,Nat.reduceEqDiff,Nat.reduceLT,↓reduceIte,reduceCtorEq,BR,lG,BC,AC.r,AC.l,AC.b,N4,hemp,h1]
    all_goals try (exfalso;omega)
    refine a6 (by rw[hC];exact hck.flat rfl rfl) ?_
    simp (disch:=first|exact bd (by with_unfolding_all rfl)|(simp only[d6]<;>omega)) only[WA,Nat.reduceEqDiff,Nat.reduceLT,↓reduceIte,reduceCtorEq]
    refine a6 (by rw[hC];exact hph.flat rfl rfl) ?_
    simp (disch:=first|exact bd (by with_unfolding_all rfl)|(simp only[d6]<;>omega)) only[WA,Nat.reduceEqDiff,Nat.reduceLT,↓reduceIte,reduceCtorEq]
    exact hret _ _ rfl rfl rfl rfl rfl
   ·have hgo:=hgo (hn fun h=>h5 h.2.2.2)
    have h5':=VC.2 h5
    generalize B3 x m=ph at*
    obtain ⟨xk,xp,xa,xb⟩:=x
    simp (disch:=first|omega|exact bd (by with_unfolding_all rfl)|(simp only[d6]<;>omega)) only[WA,Nat.reduceEqDiff,Nat.reduceLT,↓reduceIte,reduceCtorEq,BR,lG,BC,AC.r,AC.l,AC.b,N4,hemp,h1]
    all_goals try (exfalso;omega)
    refine a6 (by rw[hC];exact hck.flat rfl rfl) ?_
    simp (disch:=first|exact bd (by with_unfolding_all rfl)|(simp only[d6]<;>omega)) only[WA,Nat.reduceEqDiff,Nat.reduceLT,↓reduceIte,reduceCtorEq]
    refine a6 (by rw[hC];exact hph.flat rfl rfl) ?_
    simp (disch:=first|exact bd (by with_unfolding_all rfl)|fail) only[WA,Nat.reduceEqDiff,Nat.reduceLT,↓reduceIte,reduceCtorEq,h5']
    exact hgo
theorem kW (G11:V) {fr:List (Nat × V)} {C:C5} (hC:C.E=EN w (n+7)) (s:List UInt8) (hs:s.length≤100000) (x:n8) (hx:x.kind<256) (j k:Int) (m:List Int) (m0:Int) (r:List UInt8) (hr:r.length≤100000) (hm0:m0=if countB x.kind=true then m.headD 0 else 1) {T S:AC} (hT:T=lG) {P:A8}
  (hgo:bO x (Z3 x.kind m r) s=none→∀ m',gK C [KF.seq S] .normal [(0,m8 s),(2,.ptr 0 0),(5,.sc (.int .u8 k)),(7,.ptr 1 0),(8,.sc (.int .i64 m')),(20,.sc (.int .i64 j)),(106,.sc (.bool false))] ⟨[(1,cN x),(0,cN uE)],2,0⟩ P)
  (hret:∀ fr st m',bO x (Z3 x.kind m r) s=some (x,m')→f8 fr 2=some (.ptr 0 0)→f8 fr 3=some (.sc (.int .i64 m'))→f8 fr 4=some (.sc (.bool true))→f8 st.own 0=some (cN x)→st.ro=0→P .ret fr st)
  (hfr:fr= [(0,m8 s),(2,.ptr 0 0),(5,.sc (.int .u8 k)),(7,.ptr 1 0),(8,.sc (.int .i64 m0)),(10,.sc (.bool (countB x.kind))),(12,m8 r),(20,.sc (.int .i64 j))]∨fr= [(0,m8 s),(2,.ptr 0 0),(5,.sc (.int .u8 k)),(7,.ptr 1 0),(8,.sc (.int .i64 m0)),(10,.sc (.bool (countB x.kind))),(11,G11),(12,m8 r),(20,.sc (.int .i64 j)),(60,.sc (.bool false))]):
  gK C [KF.seq T,KF.block 3,KF.seq S] .normal fr ⟨[(1,cN x),(0,cN uE)],2,0⟩ P:=by
 rcases hfr with hfr|hfr<;>subst hfr
 all_goals
  have hcs:=vW w (n+4) r jR (by omega)
  have hchk:=fun (m':Int) (r':List UInt8) (hr':r'.length≤100000) (e:Z3 x.kind m r=(m',r'))=>PX w n .dead hC s hs x hx j k m' r' hr' (T:=BR) (S:=S) rfl (P:=P) (fun h=>hgo (by rw[e];exact h) m') (fun fr st h=>hret fr st m' (by rw[e];exact h)) (Or.inl rfl)
  have hchkG:=fun (G:V) (m':Int) (r':List UInt8) (hr':r'.length≤100000) (e:Z3 x.kind m r=(m',r'))=>PX w n G hC s hs x hx j k m' r' hr' (T:=BR) (S:=S) rfl (P:=P) (fun h=>hgo (by rw[e];exact h) m') (fun fr st h=>hret fr st m' (by rw[e];exact h)) (Or.inr rfl)
  clear hgo hret
  subst hT
  obtain ⟨T2,hT2⟩:∃ T2,T2=BR:=⟨_,rfl⟩
  rw[← hT2] at hchk hchkG
  have hc:lG= .seq (AC.l lG) T2:=by rw[hT2];rfl
  rw[hc]
  cases hcn:countB x.kind with
  |true=>
   rw[hcn,if_pos rfl] at hm0
   have e:Z3 x.kind m r=(m0,r):=by unfold Z3;rw[if_pos hcn,hm0]
   generalize (J2 jR r).getD r=G at*
   have hchk:=hchkG (m8 G) m0 r hr e
   cases hB:(J2 jR r).isSome with
   |true=>
    rw[hB] at hcs
    simp (disch:=first|exact bd (by with_unfolding_all rfl)|fail) only[WA,Nat.reduceEqDiff,Nat.reduceLT,↓reduceIte,reduceCtorEq,lG,BC,AC.r,AC.l,AC.b,N4]
    refine a6 (by rw[hC];exact hcs.flat rfl rfl) ?_
    simp (disch:=first|exact bd (by with_unfolding_all rfl)|fail) only[WA,Nat.reduceEqDiff,Nat.reduceLT,↓reduceIte,reduceCtorEq]
    exact hchk
   |false=>
    rw[hB] at hcs
    simp (disch:=first|exact bd (by with_unfolding_all rfl)|fail) only[WA,Nat.reduceEqDiff,Nat.reduceLT,↓reduceIte,reduceCtorEq,lG,BC,AC.r,AC.l,AC.b,N4]
    refine a6 (by rw[hC];exact hcs.flat rfl rfl) ?_
    simp (disch:=first|exact bd (by with_unfolding_all rfl)|fail) only[WA,Nat.reduceEqDiff,Nat.reduceLT,↓reduceIte,reduceCtorEq]
    exact hchk
  |false=>
   rw[hcn,if_neg (by decide)] at hm0
   cases hcu:J2 jR r with
   |none=>
    have e:Z3 x.kind m r=(m0,r):=by unfold Z3;rw[if_neg (by rw[hcn];decide),hcu,hm0]
    have hchk:=hchkG (m8 r) m0 r hr e
    rw[hcu] at hcs
    simp (disch:=first|exact bd (by with_unfolding_all rfl)|fail) only[WA,Nat.reduceEqDiff,Nat.reduceLT,↓reduceIte,reduceCtorEq,lG,BC,AC.r,AC.l,AC.b,N4]
    refine a6 (by rw[hC];exact hcs.flat rfl rfl) ?_
    simp (disch:=first|exact bd (by with_unfolding_all rfl)|fail) only[WA,Nat.reduceEqDiff,Nat.reduceLT,↓reduceIte,reduceCtorEq,Option.isSome_none,Option.getD_none]
    exact hchk
   |some t=>
    have hle:=qQ hcu
    have htl:t.length≤r.length:=by rw[hle.2,List.length_take];omega
    have htr:=aJ2 w (n+4) t [32] (by omega)
    have hul:((x9 [32] t).getD t).length≤t.length:=by
     cases hp:x9 [32] t with
     |none=>exact Nat.le_refl _
     |some u=>have:=aZ hp;simp only[Option.getD_some];rw[this.2,List.length_drop];omega
    have e:Z3 x.kind m r=(aB (I2 ((x9 [32] t).getD t)),eB ((x9 [32] t).getD t)):=by unfold Z3;rw[if_neg (by rw[hcn];decide),hcu]
    generalize (x9 [32] t).getD t=u at*
    have hnm:=OS w (n+6) u (by omega)
    have hrl:=EY u
    have hchk:=hchk _ _ (by omega) e
    generalize aB (I2 u)=nv at*
    generalize eB u=rv at*
    generalize decide (I2 u ≠ [])=bv at*
    rw[hcu] at hcs
    simp (disch:=first|exact bd (by with_unfolding_all rfl)|fail) only[WA,Nat.reduceEqDiff,Nat.reduceLT,↓reduceIte,reduceCtorEq,lG,BC,AC.r,AC.l,AC.b,N4]
    refine a6 (by rw[hC];exact hcs.flat rfl rfl) ?_
    simp (disch:=first|exact bd (by with_unfolding_all rfl)|fail) only[WA,Nat.reduceEqDiff,Nat.reduceLT,↓reduceIte,reduceCtorEq,Option.isSome_some,Option.getD_some]
    refine a6 (by rw[hC];exact htr.flat rfl rfl) ?_
    repeat' (first|(simp (disch:=fail) only[WA,m7,s8,Nat.reduceEqDiff,Nat.reduceLT,Nat.reduceAdd,Nat.reduceBEq,Int.reduceAdd,Int.reduceSub,Int.reduceLT,Int.reduceLE,Int.reduceEq,Int.reduceNeg,↓reduceIte,reduceCtorEq,List.replicate])|apply A2|((first|apply J4|apply A9|apply E9|apply J5|apply J3|apply F3)<;>intro _))
    refine a6 (by rw[hC];exact hnm.flat rfl rfl) ?_
    simp (disch:=first|exact bd (by with_unfolding_all rfl)|fail) only[WA,Nat.reduceEqDiff,Nat.reduceLT,↓reduceIte,reduceCtorEq]
    exact hchk
end
end Go.Proofs.YtimmmnanllcfoaaDoor
namespace Go.Proofs.YtimmmnanllcfoaaDoor
open Go Go.Itp
set_option maxRecDepth 100000
set_option maxHeartbeats 400000
set_option linter.unusedSimpArgs false
set_option linter.unusedVariables false
def aX5:Option (n8 × Int)→V
 |none=> .tup [nN uE,.sc (.int .i64 0),.sc (.bool false)]
 |some (x,m)=> .tup [nN x,.sc (.int .i64 m),.sc (.bool true)]
theorem bJ0 (T1:AC) (h:T1=lG):N4= .seq (AC.l N4) (.seq (AC.l (AC.r N4)) (.seq (.block 3 (.seq (AC.l BC) (.seq (AC.l (AC.r BC)) (.seq (AC.l (AC.r (AC.r BC))) (.seq (AC.l (AC.r (AC.r (AC.r BC)))) (.seq (AC.l (AC.r (AC.r (AC.r (AC.r BC))))) (.seq (AC.l (AC.r (AC.r (AC.r (AC.r (AC.r BC)))))) T1))))))) (AC.r (AC.r (AC.r N4))))):=by rw[h];rfl
section
variable (w:World) (n:Nat)
theorem dl1 (a:Int):D0 [iD a] 0 none=some (.sc (.int .i64 a)):=(rfl)
theorem cK9 (a b:Int):D0 [iD a,iD b] 0 none=some (.sc (.int .i64 a)):=(rfl)
theorem cL0 (a b:Int):D0 [iD a,iD b] 1 none=some (.sc (.int .i64 b)):=(rfl)
theorem VM {C:C5} (hC:C.E=EN w (n+7)) (s:List UInt8) (hs:s.length≤100000) (k:Nat) (hk1:1≤k) (hk2:k≤10) (p:Bool) (j:Nat) (hj:j<2) (hp:decide ((j:Int)=1)=p) {P:A8}
  (hgo:iE k p s=none→∀ x,P .normal [(0,m8 s),(2,.ptr 0 0),(5,.sc (.int .u8 k)),(20,.sc (.int .i64 ((j:Int)+1)))] ⟨[(1,cN x),(0,cN uE)],2,0⟩)
  (hret:∀ fr st x m',iE k p s=some (x,m')→f8 fr 2=some (.ptr 0 0)→f8 fr 3=some (.sc (.int .i64 m'))→f8 fr 4=some (.sc (.bool true))→f8 st.own 0=some (cN x)→st.ro=0→P .ret fr st):
  gC C N4 [] [(0,m8 s),(2,.ptr 0 0),(5,.sc (.int .u8 k)),(20,.sc (.int .i64 j))] ⟨[(0,cN uE)],1,0⟩ P:=by
 have hf:=aP9 w (n+5) k p hk1 hk2
 have hm:=JB w n s (P2 k p) hs (by have:=rE k p;omega)
 rw[MW] at hm
 have hlen:=fun m r (h:B7 (p5 k p) s=some (m,r))=>nA (f:=p5 k p) (by unfold p5;split<;>simp) h
 have hfl:(p5 k p).length=if countB k=true then 2 else if k=2 then 1 else if k=6∨k=7 then 3 else 2:=by
  rcases (by omega:k=1∨k=2∨k=3∨k=4∨k=5∨k=6∨k=7∨k=8∨k=9∨k=10) with rfl|rfl|rfl|rfl|rfl|rfl|rfl|rfl|rfl|rfl<;>cases p<;>rfl
 have hcand:iE k p s=match B7 (p5 k p) s with
   |none=>none
   |some (m,r)=>bO (sS k p m) (Z3 k m r) s:=rfl
 obtain ⟨T1,hT1⟩:∃ T1,T1=lG:=⟨_,rfl⟩
 rw[bJ0 T1 hT1]
 cases hM:B7 (p5 k p) s with
 |none=>
  rw[hM] at hm hcand
  unfold jB at hm
  have hgo:=hgo hcand
  simp (disch:=first|omega|exact bd (by with_unfolding_all rfl)|(simp only[d6]<;>omega)) only[WA,Nat.reduceEqDiff,Nat.reduceLT,Nat.reduceAdd,↓reduceIte,reduceCtorEq,List.replicate,BC,AC.r,AC.l,AC.b,N4,hp]
  all_goals try (exfalso;omega)
  refine a6 (by rw[hC];exact hf.flat rfl rfl) ?_
  simp (disch:=first|exact bd (by with_unfolding_all rfl)|fail) only[WA,Nat.reduceEqDiff,Nat.reduceLT,↓reduceIte,reduceCtorEq]
  refine l5 (by rw[hC];exact hm) rfl rfl (fun _=>rfl) ?_
  simp (disch:=first|omega|exact bd (by with_unfolding_all rfl)|fail) only[WA,Nat.reduceEqDiff,Nat.reduceLT,↓reduceIte,reduceCtorEq]
  exact hgo ⟨k,p,0,0⟩
 |some mr=>
  obtain ⟨m,r⟩:=mr
  have hl:=hlen m r hM
  rw[hM] at hm hcand
  unfold jB at hm
  simp only at hcand
  rw[hcand] at hgo hret
  clear hcand hM hlen
  cases hcn:countB k with
  |true=>
   rw[hcn,if_pos rfl] at hfl
   obtain ⟨a,rfl⟩:∃ a,m= [a]:=by
    cases m with
    |nil=>simp at hl;omega
    |cons a q=>cases q with
     |nil=>exact ⟨a,rfl⟩
     |cons b c=>simp at hl;omega
   rw[hcn] at hf
   have hx:sS k p [a]=⟨k,p,0,0⟩:=by unfold sS;rw[if_pos hcn]
   rw[hx] at hgo hret
   have htail:=fun S hg=>kW w n .dead hC s hs ⟨k,p,0,0⟩ (by simp only;omega) j k [a] a r (by omega) (by simp only[hcn,if_true];rfl) hT1 (S:=S) (P:=P) hg (fun fr st m'=>hret fr st _ m') (Or.inl rfl)
   clear hret
   simp (disch:=first|omega|exact bd (by with_unfolding_all rfl)|(simp only[d6]<;>omega)) only[WA,Nat.reduceEqDiff,Nat.reduceLT,Nat.reduceAdd,↓reduceIte,reduceCtorEq,List.replicate,BC,AC.r,AC.l,AC.b,N4,hp]
   all_goals try (exfalso;omega)
   refine a6 (by rw[hC];exact hf.flat rfl rfl) ?_
   simp (disch:=first|exact bd (by with_unfolding_all rfl)|fail) only[WA,Nat.reduceEqDiff,Nat.reduceLT,↓reduceIte,reduceCtorEq]
   refine l5 (by rw[hC];exact hm) rfl rfl (fun _=>rfl) ?_
   simp (disch:=first|omega|exact bd (by with_unfolding_all rfl)|fail) only[WA,Nat.reduceEqDiff,Nat.reduceLT,↓reduceIte,reduceCtorEq,List.map_cons,List.map_nil,BE,dl1]
   simp only[hcn] at htail
   refine htail _ fun hn m'=>?_
   simp (disch:=first|omega|exact bd (by with_unfolding_all rfl)|fail) only[WA,Nat.reduceEqDiff,Nat.reduceLT,↓reduceIte,reduceCtorEq]
   exact hgo hn _
  |false=>
   rw[hcn,if_neg (by decide)] at hfl
   rw[hcn] at hf
   have hxx:∀ m,sS k p m=match m with
     | [a,b]=>⟨k,p,a,b⟩
     | [a]=>⟨k,p,a,0⟩
     |_=>⟨k,p,0,0⟩:=fun m=>by unfold sS;rw[if_neg (by rw[hcn];decide)];try rfl
   rw[hxx] at hgo hret
   by_cases h2:k=2
   ·rw[if_pos h2] at hfl
    obtain rfl:m= []:=List.eq_nil_of_length_eq_zero (by omega)
    simp only at hgo hret
    have htail:=fun S hg=>kW w n (.sl 3 0 []) hC s hs ⟨k,p,0,0⟩ (by simp only;omega) j k [] 1 r (by omega) (by simp only[hcn,Bool.false_eq_true,if_false]) hT1 (S:=S) (P:=P) hg (fun fr st m'=>hret fr st _ m') (Or.inr rfl)
    clear hret
    simp (disch:=first|omega|exact bd (by with_unfolding_all rfl)|(simp only[d6]<;>omega)) only[WA,Nat.reduceEqDiff,Nat.reduceLT,Nat.reduceAdd,↓reduceIte,reduceCtorEq,List.replicate,BC,AC.r,AC.l,AC.b,N4,hp]
    all_goals try (exfalso;omega)
    refine a6 (by rw[hC];exact hf.flat rfl rfl) ?_
    simp (disch:=first|exact bd (by with_unfolding_all rfl)|fail) only[WA,Nat.reduceEqDiff,Nat.reduceLT,↓reduceIte,reduceCtorEq]
    refine l5 (by rw[hC];exact hm) rfl rfl (fun _=>rfl) ?_
    simp (disch:=first|omega|exact bd (by with_unfolding_all rfl)|fail) only[WA,Nat.reduceEqDiff,Nat.reduceLT,↓reduceIte,reduceCtorEq,List.map_nil]
    simp only[hcn] at htail
    refine htail _ fun hn m'=>?_
    simp (disch:=first|omega|exact bd (by with_unfolding_all rfl)|fail) only[WA,Nat.reduceEqDiff,Nat.reduceLT,↓reduceIte,reduceCtorEq]
    exact hgo hn _
   rw[if_neg h2] at hfl
   by_cases h67:k=6∨k=7
   ·rw[if_pos h67] at hfl
    obtain ⟨a,b,rfl⟩:∃ a b,m= [a,b]:=by
     cases m with
     |nil=>simp at hl;omega
     |cons a q=>cases q with
      |nil=>simp at hl;omega
      |cons b c=>cases c with
       |nil=>exact ⟨a,b,rfl⟩
       |cons d e=>simp at hl;omega
    simp only at hgo hret
    have htail:=fun S hg=>kW w n .dead hC s hs ⟨k,p,a,b⟩ (by simp only;omega) j k [a,b] 1 r (by omega) (by simp only[hcn,Bool.false_eq_true,if_false]) hT1 (S:=S) (P:=P) hg (fun fr st m'=>hret fr st _ m') (Or.inl rfl)
    clear hret
    simp (disch:=first|omega|exact bd (by with_unfolding_all rfl)|(simp only[d6]<;>omega)) only[WA,Nat.reduceEqDiff,Nat.reduceLT,Nat.reduceAdd,↓reduceIte,reduceCtorEq,List.replicate,BC,AC.r,AC.l,AC.b,N4,hp]
    all_goals try (exfalso;omega)
    refine a6 (by rw[hC];exact hf.flat rfl rfl) ?_
    simp (disch:=first|exact bd (by with_unfolding_all rfl)|fail) only[WA,Nat.reduceEqDiff,Nat.reduceLT,↓reduceIte,reduceCtorEq]
    refine l5 (by rw[hC];exact hm) rfl rfl (fun _=>rfl) ?_
    repeat' (first|(simp (disch:=first|omega|exact bd (by with_unfolding_all rfl)|(simp only[d6]<;>omega)) only[WA,m7,s8,Nat.reduceEqDiff,Nat.reduceLT,Nat.reduceAdd,↓reduceIte,reduceCtorEq,List.map_cons,List.map_nil,BE,tn1,cK9,cL0])|apply A2|((first|apply J4|apply A9|apply E9|apply J5|apply J3|apply F3)<;>intro _))
    simp only[hcn] at htail
    refine htail _ fun hn m'=>?_
    simp (disch:=first|omega|exact bd (by with_unfolding_all rfl)|fail) only[WA,Nat.reduceEqDiff,Nat.reduceLT,↓reduceIte,reduceCtorEq]
    exact hgo hn _
   ·rw[if_neg h67] at hfl
    obtain ⟨a,rfl⟩:∃ a,m= [a]:=by
     cases m with
     |nil=>simp at hl;omega
     |cons a q=>cases q with
      |nil=>exact ⟨a,rfl⟩
      |cons b c=>simp at hl;omega
    simp only at hgo hret
    have htail:=fun S hg=>kW w n .dead hC s hs ⟨k,p,a,0⟩ (by simp only;omega) j k [a] 1 r (by omega) (by simp only[hcn,Bool.false_eq_true,if_false]) hT1 (S:=S) (P:=P) hg (fun fr st m'=>hret fr st _ m') (Or.inl rfl)
    clear hret
    simp (disch:=first|omega|exact bd (by with_unfolding_all rfl)|(simp only[d6]<;>omega)) only[WA,Nat.reduceEqDiff,Nat.reduceLT,Nat.reduceAdd,↓reduceIte,reduceCtorEq,List.replicate,BC,AC.r,AC.l,AC.b,N4,hp]
    all_goals try (exfalso;omega)
    refine a6 (by rw[hC];exact hf.flat rfl rfl) ?_
    simp (disch:=first|exact bd (by with_unfolding_all rfl)|fail) only[WA,Nat.reduceEqDiff,Nat.reduceLT,↓reduceIte,reduceCtorEq]
    refine l5 (by rw[hC];exact hm) rfl rfl (fun _=>rfl) ?_
    simp (disch:=first|omega|exact bd (by with_unfolding_all rfl)|(simp only[d6]<;>omega)) only[WA,Nat.reduceEqDiff,Nat.reduceLT,↓reduceIte,reduceCtorEq,List.map_cons,List.map_nil,BE,dl1]
    simp only[hcn] at htail
    refine htail _ fun hn m'=>?_
    simp (disch:=first|omega|exact bd (by with_unfolding_all rfl)|fail) only[WA,Nat.reduceEqDiff,Nat.reduceLT,↓reduceIte,reduceCtorEq]
    exact hgo hn _
theorem bW2 (s:List UInt8) (hs:s.length≤100000):m6 (EN w (n+8)) 32 [m8 s] (aX5 (dY s)) ⟨[],0,0⟩:=by
 refine d7 rfl rfl (fun _ _=>rfl) (Nat.le_of_ble_eq_true rfl) (g9 w) (by rcases dY s with _|⟨x,m⟩<;>rfl) fun C hC h0=>?_
 have hrn:C.E.rounds=C6:=by rw[hC,k8]
 simp (disch:=first|exact bd (by with_unfolding_all rfl)|fail) only[WA,Nat.reduceEqDiff,Nat.reduceLT,↓reduceIte,reduceCtorEq,List.replicate,c32]
 refine y6 (fun m fr st=>∃ k:Nat,m=11 - k∧1≤k∧k≤11∧(∀ k' p,1≤k'→k'<k→iE k' p s=none)∧fr= [(0,m8 s),(2,.ptr 0 0),(5,.sc (.int .u8 k))]∧st=⟨[(0,cN uE)],1,0⟩) 10 ?_ ⟨_,_,.refl _ _,1,by omega,Nat.le_refl _,by omega,fun k' p h1 h2=>absurd h2 (by omega),rfl,rfl⟩ ?_
 ·rw[hrn];unfold C6;omega
 rintro m fr st ⟨k,rfl,hk1,hk,hno,rfl,rfl⟩
 by_cases hlt:k≤10
 ·have hw1:IntKind.u8.wrap ((k:Int)+1)=((k+1:Nat):Int):=by rw[uR _ (by omega) (by omega)];omega
  simp (disch:=first|omega|exact bd (by with_unfolding_all rfl)|fail) only[WA,Nat.reduceEqDiff,Nat.reduceLT,↓reduceIte,reduceCtorEq,aM8]
  all_goals try (exfalso;omega)
  refine y6 (fun m fr st=>∃ j:Nat,m=2 - j∧j≤2∧(0<j→iE k false s=none)∧(1<j→iE k true s=none)∧fr= [(0,m8 s),(2,.ptr 0 0),(5,.sc (.int .u8 k)),(20,.sc (.int .i64 j))]∧st=⟨[(0,cN uE)],1,0⟩) 2 ?_ ⟨_,_,.refl _ _,0,by omega,Nat.zero_le _,fun h=>absurd h (by omega),fun h=>absurd h (by omega),rfl,rfl⟩ ?_
  ·rw[hrn];unfold C6;omega
  rintro m fr st ⟨j,rfl,hj,hj0,hj1,rfl,rfl⟩
  by_cases hjl:j<2
  ·have hp:decide ((j:Int)=1)=decide (j=1):=decide_eq_decide.2 (by omega)
   refine VM w n hC s hs k hk1 hlt (decide (j=1)) j hjl hp (fun hn x=>?_) (fun fr st x m' hc e2 e3 e4 e5 e6=>?_)
   ·simp (disch:=fail) only[WA]
    refine ⟨2 - (j+1),_,_,by omega,s9 [(0,0)] 1 h0 rfl rfl rfl rfl,j+1,rfl,by omega,fun _=>?_,fun h1=>?_,rfl,rfl⟩
    ·rcases (by omega:j=0∨j=1) with rfl|rfl
     ·exact hn
     ·exact hj0 (by decide)
    ·obtain rfl:j=1:=by omega
     exact hn
   ·rw[TL hc]
    simp (disch:=fail) only[WA,e2,e3,e4,e5]
    exact b8 rfl h0 e6
  ·have:j=2:=by omega
   subst this
   simp (disch:=first|omega|exact bd (by with_unfolding_all rfl)|fail) only[WA,Nat.reduceEqDiff,Nat.reduceLT,↓reduceIte,reduceCtorEq,N4]
   all_goals try (exfalso;omega)
   rw[hw1]
   refine ⟨11 - (k+1),_,_,by omega,.refl _ _,k+1,rfl,by omega,by omega,fun k' p a b=>?_,rfl,rfl⟩
   rcases (by omega:k'<k∨k'=k) with h|rfl
   ·exact hno k' p a h
   ·cases p
    ·exact hj0 (by decide)
    ·exact hj1 (by decide)
 ·have:k=11:=by omega
  subst this
  have hr:dY s=none:=aH0 (cand:=iE) (fun hx a b=>aN6 hx a b) fun k p h1 h2=>hno k p h1 (by omega)
  rw[hr]
  simp (disch:=first|omega|exact bd (by with_unfolding_all rfl)|(simp only[d6]<;>omega)) only[WA,Nat.reduceEqDiff,Nat.reduceLT,↓reduceIte,reduceCtorEq,aM8]
  all_goals try (exfalso;omega)
  exact b8 rfl h0 rfl
end
end Go.Proofs.YtimmmnanllcfoaaDoor
