/- What is proved: the law WordsApart returns true for every input. Conditions: none beyond the card's own.
   Texts: C41VA, S41D, H41V, P41a, P41b, P41c, P41d, P41e, Q41a, Q41b, Q41c, P41f, Q41d, Q41e, Q41f, Q41g, Q41h, Q41i, Q41j.
-/
import Derived.Test.YtimmmnanllcfoaaDoorPart4
import Derived.Test.YtimmmnanllcfoaaDoorProg
import Derived.Shelf.Strings.Builder1
import Derived.Shelf.Strings.Builder2
import Derived.Shelf.Strings.OnBuilder
import Derived.Shelf.Utf8.RuneCount
import Derived.Shelf.Strconv.Itoa0
import Derived.Shelf.Strconv.Itoa1
import Derived.Shelf.LaysM
import Derived.Shelf.Strconv.Itoa2
import Derived.Shelf.Strconv.Itoa3
import Derived.Shelf.Strings.Search1
import Derived.Shelf.Strings.Search2
import Derived.Shelf.Strings.Search3
import Derived.Shelf.Strings.Count
import Derived.Shelf.Strings.Shaped
import Derived.Shelf.Strings.Split
import Derived.Shelf.Strings.Replace
import Derived.Shelf.Strings.SplitShaped
import Derived.Shelf.Unicode.Decode
import Derived.Shelf.Strings.RuneCount
import Derived.Shelf.Strings.Explode
import Derived.Shelf.Unicode.DecodeSlow
import Derived.Shelf.Unicode.DecodeAny
import Derived.KernelRfl
import Derived.Lib.Join
import Derived.Lib.Replace
import Derived.Lib.Bytealg
namespace Go.Proofs.YtimmmnanllcfoaaDoor
open Go Go.Itp
set_option maxRecDepth 100000
/- raddle/raddlelaw41.WordsApart -/
def c8:s5:=⟨.seq (.ops [b9 4 (.mov (.const (.bool false)))] [0,1]) (.seq (.ops [b9 12 (.callF 24 []),a8 5 12] [0,1,5]) (.seq (.seq (.ops [a8 13 0,Q4 14 9 13,a8 15 14,B4 16 15 (.mov (.tmp 1)),B4 17 15 (.callF 9 [.tmp 16]),b9 18 (.pick (.tmp 15) (.const (.bool true)) (.tmp 17)),a8 19 18,B4 20 19 (.mov (.tmp 5)),B4 21 19 (.un .not (.tmp 20)),b9 22 (.pick (.tmp 19) (.const (.bool true)) (.tmp 21))] [0,1,5,22]) (.cond (.tmp 22) (.seq (.ops [a8 23 5,a8 4 23] [4]) (.ret)) (.skip))) (.seq (.ops [a8 25 0,Q4 26 10 25,a8 24 26,I0 27 24 0,I0 28 24 1,a8 6 27,a8 7 28] [0,1,5,6,7]) (.seq (.ops [a8 30 1,Q4 31 10 30,a8 29 31,I0 32 29 0,I0 33 29 1,a8 8 32,a8 9 33] [0,1,5,6,7,8,9]) (.seq (.seq (.ops [a8 34 7,p6 35 34 .neq (r5 0),a8 36 35,B4 37 36 (.mov (.tmp 9)),B4 38 36 (.bin .neq (.tmp 37) (r5 0)),b9 39 (.pick (.tmp 36) (.const (.bool true)) (.tmp 38))] [0,1,5,6,8,39]) (.cond (.tmp 39) (.seq (.ops [a8 40 5,a8 4 40] [4]) (.ret)) (.skip))) (.seq (.seq (.ops [a8 41 6,a8 42 8,p6 43 41 .eql (.tmp 42),a8 44 0,a8 45 1,b9 46 (.callF 14 [(.tmp 44),(.tmp 45)]),b9 47 (.eqB true (.tmp 43) (.tmp 46))] [0,1,5,6,8,47]) (.cond (.tmp 47) (.seq (.ops [b9 4 (.mov (.const (.bool false)))] [4]) (.ret)) (.skip))) (.seq (.ops [b9 49 (.mkRow 48 4 0 [(.int .u8 0),(.bool false),(.int .i64 0),(.int .i64 0)] []),a8 50 0,b9 51 (.app 48 4 24 (.tmp 49) (.tmp 50)),a8 52 1,b9 53 (.app 48 4 24 (.tmp 51) (.tmp 52)),Q4 54 10 53,a8 48 54,I0 55 48 0,I0 56 48 1,a8 10 55,a8 11 56] [0,1,5,6,8,10,11]) (.seq (.seq (.draw [a8 57 11,p6 58 57 .neq (r5 0),a8 59 58,B4 60 59 (.mov (.tmp 0)),B4 61 59 (.len false (.tmp 60)),B4 62 59 (.bin .eql (.tmp 61) (r5 0)),b9 63 (.pick (.tmp 59) (.const (.bool true)) (.tmp 62)),a8 64 63,B4 65 64 (.mov (.tmp 1)),B4 66 64 (.len false (.tmp 65)),B4 67 64 (.bin .eql (.tmp 66) (r5 0)),b9 68 (.pick (.tmp 64) (.const (.bool true)) (.tmp 67)),a8 69 68,B4 70 69 (.mov (.tmp 0)),B4 71 69 (.mov (.tmp 0)),B4 72 69 (.len false (.tmp 71)),B4 73 69 (.bin .sub (.tmp 72) (r5 1)),B4 74 69 (.idxS 4 (.tmp 70) (.tmp 73)),B4 75 69 (.load (some 4) (.tmp 74)),
  B4 76 69 (.mov (.tmp 1)),B4 77 69 (.idxS 4 (.tmp 76) (r5 0)),B4 78 69 (.load (some 4) (.tmp 77))] [B4 79 69 (.eqAgg false [(0,0),(1,2),(2,0),(3,0)] (.tmp 75) (.tmp 78)),b9 80 (.pick (.tmp 69) (.const (.bool true)) (.tmp 79))] [[],[],[],[],[],[],[],[],[],[],[],[],[],[],[],[],[],[],[],[],[],[]] [5,6,8,10,11,80]) (.cond (.tmp 80) (.seq (.ops [a8 81 5,a8 82 81,w8 83 82 (.mov (.tmp 11)),w8 84 82 (.bin .eql (.tmp 83) (r5 0)),w8 85 82 (.mov (.tmp 84)),B4 86 85 (.mov (.tmp 11)),B4 87 85 (.bin .eql (.tmp 86) (r5 4)),w8 88 82 (.pick (.tmp 85) (.const (.bool true)) (.tmp 87)),b9 89 (.pick (.tmp 82) (.tmp 88) (.const (.bool false))),a8 4 89] [4]) (.ret)) (.skip))) (.seq (.ops [a8 90 5,a8 91 90,w8 92 91 (.mov (.tmp 10)),w8 93 91 (.mov (.tmp 6)),w8 94 91 (.bin .add (.tmp 93) (.const (.string ⟨#[44,32]⟩))),w8 95 91 (.mov (.tmp 8)),w8 96 91 (.bin .add (.tmp 94) (.tmp 95)),w8 97 91 (.bin .eql (.tmp 92) (.tmp 96)),b9 98 (.pick (.tmp 91) (.tmp 97) (.const (.bool false))),a8 4 98] [4]) (.ret)))))))))),99,[(4,none)],true⟩
theorem ok8:r8 Tryd.prog 8 c8:= .code ⟨Tryd.f8,_,c8.code,Tryd.func8,rfl,by kernel_rfl,rfl,by kernel_rfl,by kernel_rfl⟩
/- raddle/raddleref25.Great -/
def c9:s5:=⟨.seq (.ops [b9 2 (.mov (.const (.bool false)))] [0]) (.seq (.ops [a8 3 0,b9 4 (.len false (.tmp 3)),p6 5 4 .gtr (r5 60),a8 6 5,w8 7 6 (.mov (.tmp 0)),w8 8 6 (.len false (.tmp 7)),w8 9 6 (.bin .leq (.tmp 8) (r5 200)),b9 10 (.pick (.tmp 6) (.tmp 9) (.const (.bool false))),a8 11 10,B4 12 11 (.mov (.tmp 0)),B4 13 11 (.len false (.tmp 12)),B4 14 11 (.bin .gtr (.tmp 13) (r5 300)),b9 15 (.pick (.tmp 11) (.const (.bool true)) (.tmp 14)),a8 2 15] [2]) (.ret)),16,[(2,none)],true⟩
theorem ok9:r8 Tryd.prog 9 c9:= .code ⟨Tryd.f9,_,c9.code,Tryd.func9,rfl,by kernel_rfl,rfl,by kernel_rfl,by kernel_rfl⟩
/- raddle/p5.Cells -/
def c10:s5:=⟨.seq (.ops [b9 2 (.mov (.const (.string ⟨#[]⟩))),D7 3 0] [0]) (.seq (.seq (.ops [a8 6 0,Q4 7 27 6,a8 4 7] [0,4]) (.seq (.ops [a8 8 4,p6 9 8 .neq (r5 0)] [0,4,9]) (.cond (.tmp 9) (.seq (.ops [a8 10 4,b9 2 (.mov (.const (.string ⟨#[]⟩))),a8 3 10] [2,3]) (.ret)) (.skip)))) (.seq (.ops [a8 11 0,Q4 12 28 11,a8 5 12] [5]) (.seq (.seq (.ops [a8 13 5,b9 14 (.len true (.tmp 13)),p6 15 14 .gtr (r5 2000)] [5,15]) (.cond (.tmp 15) (.seq (.ops [b9 2 (.mov (.const (.string ⟨#[]⟩))),D7 3 4] [2,3]) (.ret)) (.skip))) (.seq (.ops [a8 16 5,a8 2 16,D7 3 0] [2,3]) (.ret))))),17,[(2,none),(3,none)],true⟩
theorem cI1:r8 Tryd.prog 10 c10:= .code ⟨Tryd.f10,_,c10.code,Tryd.func10,rfl,by kernel_rfl,rfl,by kernel_rfl,by kernel_rfl⟩
/- raddle/p5.ParseCells -/
def WC:AC:= .seq (.ops [p6 39 38 .lss (.tmp 37)] [0,4,7,16,17,18,37,38,39]) (.seq (.cond (.tmp 39) (.skip) (.exit 2)) (.seq (.block 3 (.ops [a8 40 4,b9 41 (.load (some 4) (.tmp 7)),b9 42 (.mkRow 48 4 1 [(.int .u8 0),(.bool false),(.int .i64 0),(.int .i64 0)] [(0,4,(.tmp 41))]),b9 43 (.app 48 4 24 (.tmp 40) (.tmp 42)),a8 4 43] [0,4,7,16,17,18,37,38])) (.ops [p6 44 38 .add (r5 1),a8 38 44] [0,4,7,16,17,18,37,38])))
def vD:AC:= .seq (.ops [p6 19 18 .lss (.tmp 17)] [0,4,16,17,18,19]) (.seq (.cond (.tmp 19) (.skip) (.exit 0)) (.seq (.block 1 (.seq (.ops [b9 20 (.idxS 1 (.tmp 16) (.tmp 18)),L9 21 20,a8 6 21] [0,4,6,16,17,18]) (.seq (.ops [a8 23 6,Q4 24 32 23,a8 22 24,I0 25 22 0,I0 26 22 1,I0 27 22 2,b9 7 (.alloc 48 [(1,(.int .u8 0)),(1,(.bool false)),(2,(.int .i64 0))]),⟨none,none,.store 4 (.tmp 7) (.tmp 25)⟩,a8 8 26,a8 9 27] [0,4,7,8,9,16,17,18]) (.seq (.seq (.ops [a8 28 9,b9 29 (.un .not (.tmp 28)),a8 30 29,B4 31 30 (.mov (.tmp 4)),B4 32 30 (.len false (.tmp 31)),B4 33 30 (.mov (.tmp 8)),B4 34 30 (.bin .add (.tmp 32) (.tmp 33)),B4 35 30 (.bin .gtr (.tmp 34) (r5 200)),b9 36 (.pick (.tmp 30) (.const (.bool true)) (.tmp 35))] [0,4,7,8,16,17,18,36]) (.cond (.tmp 36) (.seq (.ops [b9 2 (.mov (.const (.slice none 0 0))),D7 3 12] [2,3]) (.ret)) (.skip))) (.seq (.ops [a8 37 8,D7 38 0] [0,4,7,16,17,18,37,38]) (.block 2 (.loop [0,4,7,16,17,18,37,38] WC))))))) (.ops [p6 45 18 .add (r5 1),a8 18 45] [0,4,16,17,18])))
def c12:s5:=⟨.seq (.ops [b9 2 (.mov (.const (.slice none 0 0))),D7 3 0] [0]) (.seq (.seq (.ops [a8 10 0,b9 11 (.len true (.tmp 10)),p6 12 11 .gtr (r5 2000)] [0,12]) (.cond (.tmp 12) (.seq (.ops [b9 2 (.mov (.const (.slice none 0 0))),D7 3 12] [2,3]) (.ret)) (.skip))) (.seq (.seq (.ops [a8 13 0,b9 14 (.bin .eql (.tmp 13) (.const (.string ⟨#[110,111,116,104,105,110,103]⟩)))] [0,14]) (.cond (.tmp 14) (.seq (.ops [b9 2 (.mov (.const (.slice none 0 0))),D7 3 0] [2,3]) (.ret)) (.skip))) (.seq (.ops [b9 4 (.mov (.const (.slice none 0 0)))] [0,4]) (.seq (.seq (.ops [a8 15 0,b9 16 (.callF 31 [(.tmp 15),(.const (.string ⟨#[44,32]⟩))]),b9 17 (.len false (.tmp 16)),D7 18 0] [0,4,16,17,18]) (.block 0 (.loop [0,4,16,17,18] vD))) (.seq (.seq (.ops [a8 46 4,Q4 47 27 46,p6 48 47 .neq (r5 0),a8 49 48,B4 50 49 (.mov (.tmp 4)),B4 51 49 (.callF 28 [.tmp 50]),B4 52 49 (.mov (.tmp 0)),B4 53 49 (.bin .neq (.tmp 51) (.tmp 52)),b9 54 (.pick (.tmp 49) (.const (.bool true)) (.tmp 53))] [4,54]) (.cond (.tmp 54) (.seq (.ops [b9 2 (.mov (.const (.slice none 0 0))),D7 3 12] [2,3]) (.ret)) (.skip))) (.seq (.ops [a8 55 4,a8 2 55,D7 3 0] [2,3]) (.ret))))))),56,[(2,none),(3,none)],true⟩
theorem cI2:r8 Tryd.prog 12 c12:= .code ⟨Tryd.f12,_,c12.code,Tryd.func12,rfl,by kernel_rfl,rfl,by kernel_rfl,by kernel_rfl⟩
/- raddle/raddleref25.Same -/
def WD:AC:= .seq (.seq (.ops [a8 11 5,a8 12 0,b9 13 (.len false (.tmp 12)),p6 14 11 .lss (.tmp 13)] [0,1,5,14]) (.cond (.tmp 14) (.skip) (.exit 0))) (.seq (.block 1 (.seq (.draw [a8 17 0,a8 18 5,b9 19 (.idxS 4 (.tmp 17) (.tmp 18)),b9 20 (.load (some 4) (.tmp 19)),a8 21 1,a8 22 5,b9 23 (.idxS 4 (.tmp 21) (.tmp 22)),b9 24 (.load (some 4) (.tmp 23))] [b9 25 (.eqAgg true [(0,0),(1,2),(2,0),(3,0)] (.tmp 20) (.tmp 24))] [[],[],[],[],[],[],[],[]] [0,1,5,25]) (.cond (.tmp 25) (.seq (.ops [b9 4 (.mov (.const (.bool false)))] [4]) (.ret)) (.skip)))) (.ops [a8 15 5,p6 16 15 .add (r5 1),a8 5 16] [0,1,5]))
def c14:s5:=⟨.seq (.ops [b9 4 (.mov (.const (.bool false)))] [0,1]) (.seq (.seq (.ops [a8 6 0,b9 7 (.len false (.tmp 6)),a8 8 1,b9 9 (.len false (.tmp 8)),p6 10 7 .neq (.tmp 9)] [0,1,10]) (.cond (.tmp 10) (.seq (.ops [b9 4 (.mov (.const (.bool false)))] [4]) (.ret)) (.skip))) (.seq (.seq (.ops [D7 5 0] [0,1,5]) (.block 0 (.loop [0,1,5] WD))) (.seq (.ops [b9 4 (.mov (.const (.bool true)))] [4]) (.ret)))),26,[(4,none)],true⟩
theorem cI3:r8 Tryd.prog 14 c14:= .code ⟨Tryd.f14,_,c14.code,Tryd.func14,rfl,by kernel_rfl,rfl,by kernel_rfl,by kernel_rfl⟩
/- raddle/p5.Row -/
def c15:s5:=⟨.seq (.ops [b9 2 (.box 36 (.tmp 0)),b9 4 (.mov (.const (.string ⟨#[]⟩))),D7 5 0] [1,2]) (.seq (.seq (.ops [P2 9 1 2,L9 10 9,Q4 11 27 10,a8 6 11] [1,2,6]) (.seq (.ops [a8 12 6,p6 13 12 .neq (r5 0)] [1,2,6,13]) (.cond (.tmp 13) (.seq (.ops [a8 14 6,b9 4 (.mov (.const (.string ⟨#[]⟩))),a8 5 14] [4,5]) (.ret)) (.skip)))) (.seq (.seq (.ops [a8 15 1,p6 16 15 .lss (r5 1),a8 17 16,B4 18 17 (.mov (.tmp 1)),B4 19 17 (.bin .gtr (.tmp 18) (r5 100)),b9 20 (.pick (.tmp 17) (.const (.bool true)) (.tmp 19))] [1,2,20]) (.cond (.tmp 20) (.seq (.ops [b9 4 (.mov (.const (.string ⟨#[]⟩))),D7 5 2] [4,5]) (.ret)) (.skip))) (.seq (.ops [P2 22 1 2,L9 23 22,Q4 24 10 23,a8 21 24,I0 25 21 0,I0 26 21 1,a8 7 25,a8 8 26] [1,2,7,8]) (.seq (.seq (.ops [a8 27 8,p6 28 27 .neq (r5 0)] [1,2,7,8,28]) (.cond (.tmp 28) (.seq (.ops [a8 29 8,b9 4 (.mov (.const (.string ⟨#[]⟩))),a8 5 29] [4,5]) (.ret)) (.skip))) (.seq (.draw [a8 30 1,Q4 31 35 30,b9 32 (.bin .add (.const (.string ⟨#[114,111,119,32]⟩)) (.tmp 31)),b9 33 (.bin .add (.tmp 32) (.const (.string ⟨#[32,40]⟩))),P2 34 0 2,L9 35 34,Q4 36 36 35,p6 37 33 .add (.tmp 36),b9 38 (.bin .add (.tmp 37) (.const (.string ⟨#[41,58,32]⟩))),a8 39 7] [p6 40 38 .add (.tmp 39),b9 41 (.bin .add (.tmp 40) (.const (.string ⟨#[46]⟩))),a8 4 41,D7 5 0] [[],[],[],[],[false,false,false,false],[true,false,false,false,false],[],[],[],[false,false,false,false,false,false,false,false,false]] [4,5]) (.ret)))))),42,[(4,none),(5,none)],true⟩
theorem cI4:r8 Tryd.prog 15 c15:= .code ⟨Tryd.f15,_,c15.code,Tryd.func15,rfl,by kernel_rfl,rfl,by kernel_rfl,by kernel_rfl⟩
/- raddle/p5.ParseRow -/
def sH:AC:= .seq (.ops [p6 39 38 .lss (r5 2)] [0,2,5,8,37,38,39]) (.seq (.cond (.tmp 39) (.skip) (.exit 0)) (.seq (.block 1 (.seq (.ops [b9 40 (.idxV 2 1 none (.tmp 37) (.tmp 38)),a8 11 40] [0,2,5,8,11,37,38]) (.seq (.ops [a8 42 8,a8 43 11,Q4 44 36 43,b9 45 (.bin .add (.tmp 44) (.const (.string ⟨#[41,58,32]⟩))),b9 46 (.callF 40 [(.tmp 42),(.tmp 45)]),a8 41 46,I0 47 41 0,I0 48 41 1,a8 12 47,a8 13 48] [0,2,5,8,11,12,13,37,38]) (.seq (.seq (.ops [a8 49 13,b9 50 (.un .not (.tmp 49))] [0,2,5,8,11,12,37,38,50]) (.cond (.tmp 50) (.exit 1) (.skip))) (.seq (.ops [a8 52 12,Q4 53 12 52,a8 51 53,I0 54 51 0,I0 55 51 1,a8 14 54,a8 15 55] [0,2,5,8,11,14,15,37,38]) (.seq (.ops [a8 56 11,a8 57 14,b9 58 (.build [(.bool false),(.slice none 0 0)] [(0,1,(.tmp 56)),(1,1,(.tmp 57))]),b9 16 (.alloc 36 [(1,(.bool false)),(1,(.slice none 0 0))]),⟨none,none,.store 2 (.tmp 16) (.tmp 58)⟩] [0,2,5,8,15,16,37,38]) (.seq (.draw [b9 60 (.load (some 2) (.tmp 16)),a8 61 5,b9 62 (.idxS 1 (.tmp 61) (r5 0)),L9 63 62,b9 64 (.callF 15 [(.tmp 60),(.tmp 63)]),a8 59 64,I0 65 59 0,I0 66 59 1,a8 17 65] [a8 18 66] [[],[],[],[],[],[],[],[],[]] [0,2,5,8,15,16,17,18,37,38]) (.seq (.ops [a8 67 15,p6 68 67 .eql (r5 0),a8 69 68,w8 70 69 (.mov (.tmp 18)),w8 71 69 (.bin .eql (.tmp 70) (r5 0)),b9 72 (.pick (.tmp 69) (.tmp 71) (.const (.bool false))),a8 73 72,w8 74 73 (.mov (.tmp 17)),w8 75 73 (.mov (.tmp 0)),w8 76 73 (.bin .eql (.tmp 74) (.tmp 75)),b9 77 (.pick (.tmp 73) (.tmp 76) (.const (.bool false)))] [0,2,5,8,16,37,38,77]) (.cond (.tmp 77) (.seq (.drawW [⟨b9 78 (.load (some 2) (.tmp 16)),[],none⟩,⟨a8 79 5,[0],none⟩,⟨b9 80 (.idxS 1 (.tmp 79) (r5 0)),[0],none⟩,⟨L9 81 80,[0],none⟩,⟨⟨none,none,.store 2 (.tmp 2) (.tmp 78)⟩,[1,2,3],none⟩] [a8 3 81,D7 4 0] [2,3,4]) (.ret)) (.skip)))))))))) (.ops [p6 82 38 .add (r5 1),a8 38 82] [0,2,5,8,37,38])))
def c17:s5:=⟨.seq (.ops [b9 2 (.alloc 36 [(1,(.bool false)),(1,(.slice none 0 0))]),D7 3 0,D7 4 0] [0,2]) (.seq (.ops [a8 20 0,b9 21 (.callF 38 [(.tmp 20),(.const (.string ⟨#[114,111,119,32,35,32,40]⟩))]),a8 19 21,I0 22 19 0,I0 23 19 1,I0 24 19 2,a8 5 22,a8 6 23,a8 7 24] [0,2,5,6,7]) (.seq (.ops [a8 26 6,b9 27 (.callF 39 [(.tmp 26),(.const (.string ⟨#[46]⟩))]),a8 25 27,I0 28 25 0,I0 29 25 1,a8 8 28,a8 9 29] [0,2,5,7,8,9]) (.seq (.seq (.ops [a8 30 7,b9 31 (.un .not (.tmp 30)),a8 32 31,B4 33 32 (.mov (.tmp 9)),B4 34 32 (.un .not (.tmp 33)),b9 35 (.pick (.tmp 32) (.const (.bool true)) (.tmp 34))] [0,2,5,8,35]) (.cond (.tmp 35) (.seq (.ops [b9 36 (.build [(.bool false),(.slice none 0 0)] []),⟨none,none,.store 2 (.tmp 2) (.tmp 36)⟩,D7 3 0,D7 4 12] [2,3,4]) (.ret)) (.skip))) (.seq (.seq (.ops [b9 37 (.build [(.bool false),(.bool false)] [(0,1,(.const (.bool false))),(1,1,(.const (.bool true)))]),D7 38 0] [0,2,5,8,37,38]) (.block 0 (.loop [0,2,5,8,37,38] sH))) (.seq (.ops [b9 83 (.build [(.bool false),(.slice none 0 0)] []),⟨none,none,.store 2 (.tmp 2) (.tmp 83)⟩,D7 3 0,D7 4 12] [2,3,4]) (.ret)))))),84,[(2,(some (some 2))),(3,none),(4,none)],true⟩
theorem cI5:r8 Tryd.prog 17 c17:= .code ⟨Tryd.f17,_,c17.code,Tryd.func17,rfl,by kernel_rfl,rfl,by kernel_rfl,by kernel_rfl⟩
/- raddle/raddlelaw41.refused -/
def c21:s5:=⟨.seq (.ops [b9 2 (.mov (.const (.bool false)))] [0]) (.seq (.ops [a8 6 0,Q4 7 12 6,a8 5 7,I0 8 5 0,I0 9 5 1,a8 3 8,a8 4 9] [3,4]) (.seq (.ops [a8 10 4,p6 11 10 .eql (r5 12),a8 12 11,w8 13 12 (.mov (.tmp 3)),w8 14 12 (.len false (.tmp 13)),w8 15 12 (.bin .eql (.tmp 14) (r5 0)),b9 16 (.pick (.tmp 12) (.tmp 15) (.const (.bool false))),a8 2 16] [2]) (.ret))),17,[(2,none)],true⟩
theorem cI6:r8 Tryd.prog 21 c21:= .code ⟨Tryd.f21,_,c21.code,Tryd.func21,rfl,by kernel_rfl,rfl,by kernel_rfl,by kernel_rfl⟩
/- raddle/p5.Chart -/
def KV:AC:= .seq (.ops [p6 25 24 .lss (.tmp 23)] [5,22,23,24,25]) (.seq (.cond (.tmp 25) (.skip) (.exit 0)) (.seq (.block 1 (.seq (.ops [a8 26 24,b9 27 (.idxS 2 (.tmp 22) (.tmp 24)),b9 28 (.load (some 2) (.tmp 27)),b9 7 (.alloc 36 [(1,(.bool false)),(1,(.slice none 0 0))]),a8 6 26,⟨none,none,.store 2 (.tmp 7) (.tmp 28)⟩] [5,6,7,22,23,24]) (.seq (.ops [b9 30 (.load (some 2) (.tmp 7)),a8 31 6,p6 32 31 .add (r5 1),b9 33 (.callF 15 [(.tmp 30),(.tmp 32)]),a8 29 33,I0 34 29 0,I0 35 29 1,a8 8 34,a8 9 35] [5,8,9,22,23,24]) (.seq (.seq (.ops [a8 36 9,p6 37 36 .neq (r5 0)] [5,8,9,22,23,24,37]) (.cond (.tmp 37) (.seq (.ops [a8 38 9,b9 2 (.mov (.const (.string ⟨#[]⟩))),a8 3 38] [2,3]) (.ret)) (.skip))) (.ops [a8 39 8,b9 40 (.bin .add (.tmp 39) (.const (.string ⟨#[10]⟩))),b9 41 (.callF 44 [(.tmp 5),(.tmp 40)])] [5,22,23,24]))))) (.ops [p6 42 24 .add (r5 1),a8 24 42] [5,22,23,24])))
def c22:s5:=⟨.seq (.ops [b9 1 (.box 52 (.tmp 0)),b9 2 (.mov (.const (.string ⟨#[]⟩))),D7 3 0] [1]) (.seq (.seq (.ops [b9 10 (.load (some 2) (.tmp 1)),Q4 11 43 10,a8 4 11] [1,4]) (.seq (.ops [a8 12 4,p6 13 12 .neq (r5 0)] [1,4,13]) (.cond (.tmp 13) (.seq (.ops [a8 14 4,b9 2 (.mov (.const (.string ⟨#[]⟩))),a8 3 14] [2,3]) (.ret)) (.skip)))) (.seq (.ops [b9 5 (.alloc 83 [(1,(.pointer none)),(1,(.slice none 0 0))])] [1,5]) (.seq (.ops [P2 15 0 1,L9 16 15,Q4 17 35 16,b9 18 (.bin .add (.const (.string ⟨#[115,116,97,114,116,32,119,105,116,104,32]⟩)) (.tmp 17)),b9 19 (.bin .add (.tmp 18) (.const (.string ⟨#[32,115,116,105,116,99,104,101,115,46,10]⟩))),b9 20 (.callF 44 [(.tmp 5),(.tmp 19)])] [1,5]) (.seq (.seq (.ops [P2 21 1 1,L9 22 21,b9 23 (.len false (.tmp 22)),D7 24 0] [5,22,23,24]) (.block 0 (.loop [5,22,23,24] KV))) (.seq (.seq (.ops [Q4 43 45 5,p6 44 43 .gtr (r5 60000)] [5,44]) (.cond (.tmp 44) (.seq (.ops [b9 2 (.mov (.const (.string ⟨#[]⟩))),D7 3 4] [2,3]) (.ret)) (.skip))) (.seq (.ops [Q4 45 46 5,a8 2 45,D7 3 0] [2,3]) (.ret))))))),46,[(2,none),(3,none)],true⟩
theorem cI7:r8 Tryd.prog 22 c22:= .code ⟨Tryd.f22,_,c22.code,Tryd.func22,rfl,by kernel_rfl,rfl,by kernel_rfl,by kernel_rfl⟩
/- raddle/p5.Parse -/
def vE:AC:= .seq (.seq (.ops [a8 45 9,a8 46 4,b9 47 (.len false (.tmp 46)),p6 48 47 .sub (r5 1),p6 49 45 .lss (.tmp 48)] [0,2,4,8,9,49]) (.cond (.tmp 49) (.skip) (.exit 0))) (.seq (.block 1 (.seq (.ops [a8 53 4,a8 54 9,b9 55 (.idxS 1 (.tmp 53) (.tmp 54)),L9 56 55,Q4 57 17 56,a8 52 57,I0 58 52 0,I0 59 52 1,I0 60 52 2,b9 10 (.alloc 36 [(1,(.bool false)),(1,(.slice none 0 0))]),⟨none,none,.store 2 (.tmp 10) (.tmp 58)⟩,a8 11 59,a8 12 60] [0,2,4,8,9,10,11,12]) (.seq (.seq (.ops [a8 61 12,p6 62 61 .neq (r5 0),a8 63 62,B4 64 63 (.mov (.tmp 11)),B4 65 63 (.mov (.tmp 9)),B4 66 63 (.bin .neq (.tmp 64) (.tmp 65)),b9 67 (.pick (.tmp 63) (.const (.bool true)) (.tmp 66))] [0,2,4,8,9,10,67]) (.cond (.tmp 67) (.seq (.ops [b9 68 (.build [(.int .i64 0),(.slice none 0 0)] []),⟨none,none,.store 2 (.tmp 2) (.tmp 68)⟩,D7 3 12] [2,3]) (.ret)) (.skip))) (.ops [P2 69 1 8,L9 70 69,b9 71 (.load (some 2) (.tmp 10)),b9 72 (.mkRow 36 2 1 [(.bool false),(.slice none 0 0)] [(0,2,(.tmp 71))]),b9 73 (.app 36 2 32 (.tmp 70) (.tmp 72)),P2 74 1 8,⟨none,none,.store 1 (.tmp 74) (.tmp 73)⟩] [0,2,4,8,9])))) (.ops [a8 50 9,p6 51 50 .add (r5 1),a8 9 51] [0,2,4,8,9]))
def c23:s5:=⟨.seq (.ops [b9 2 (.alloc 52 [(1,(.int .i64 0)),(1,(.slice none 0 0))]),D7 3 0] [0,2]) (.seq (.seq (.ops [a8 15 0,b9 16 (.len true (.tmp 15)),p6 17 16 .gtr (r5 60000)] [0,2,17]) (.cond (.tmp 17) (.seq (.ops [b9 18 (.build [(.int .i64 0),(.slice none 0 0)] []),⟨none,none,.store 2 (.tmp 2) (.tmp 18)⟩,D7 3 12] [2,3]) (.ret)) (.skip))) (.seq (.ops [a8 19 0,b9 20 (.callF 31 [(.tmp 19),(.const (.string ⟨#[10]⟩))]),a8 4 20] [0,2,4]) (.seq (.ops [a8 22 4,b9 23 (.idxS 1 (.tmp 22) (r5 0)),L9 24 23,b9 25 (.callF 38 [(.tmp 24),(.const (.string ⟨#[115,116,97,114,116,32,119,105,116,104,32,35,32,115,116,105,116,99,104,101,115,46]⟩))]),a8 21 25,I0 26 21 0,I0 27 21 1,I0 28 21 2,a8 5 26,a8 6 27,a8 7 28] [0,2,4,5,6,7]) (.seq (.seq (.ops [a8 29 7,b9 30 (.un .not (.tmp 29)),a8 31 30,B4 32 31 (.mov (.tmp 6)),B4 33 31 (.bin .neq (.tmp 32) (.const (.string ⟨#[]⟩))),b9 34 (.pick (.tmp 31) (.const (.bool true)) (.tmp 33)),a8 35 34,B4 36 35 (.mov (.tmp 4)),B4 37 35 (.len false (.tmp 36)),B4 38 35 (.bin .gtr (.tmp 37) (r5 102)),b9 39 (.pick (.tmp 35) (.const (.bool true)) (.tmp 38))] [0,2,4,5,39]) (.cond (.tmp 39) (.seq (.ops [b9 40 (.build [(.int .i64 0),(.slice none 0 0)] []),⟨none,none,.store 2 (.tmp 2) (.tmp 40)⟩,D7 3 12] [2,3]) (.ret)) (.skip))) (.seq (.ops [a8 41 5,b9 42 (.idxS 1 (.tmp 41) (r5 0)),L9 43 42,b9 44 (.build [(.int .i64 0),(.slice none 0 0)] [(0,1,(.tmp 43))]),b9 8 (.alloc 52 [(1,(.int .i64 0)),(1,(.slice none 0 0))]),⟨none,none,.store 2 (.tmp 8) (.tmp 44)⟩] [0,2,4,8]) (.seq (.seq (.ops [D7 9 1] [0,2,4,8,9]) (.block 0 (.loop [0,2,4,8,9] vE))) (.seq (.seq (.ops [b9 76 (.load (some 2) (.tmp 8)),Q4 77 22 76,a8 75 77,I0 78 75 0,I0 79 75 1,a8 13 78,a8 14 79] [0,2,8,13,14]) (.seq (.ops [a8 80 14,p6 81 80 .neq (r5 0),a8 82 81,B4 83 82 (.mov (.tmp 13)),B4 84 82 (.mov (.tmp 0)),B4 85 82 (.bin .neq (.tmp 83) (.tmp 84)),b9 86 (.pick (.tmp 82) (.const (.bool true)) (.tmp 85))] [2,8,86]) (.cond (.tmp 86) (.seq (.ops [b9 87 (.build [(.int .i64 0),(.slice none 0 0)] []),⟨none,none,.store 2 (.tmp 2) (.tmp 87)⟩,D7 3 12] [2,3]) (.ret)) (.skip)))) (.seq (.ops [b9 88 (.load (some 2) (.tmp 8)),⟨none,none,.store 2 (.tmp 2) (.tmp 88)⟩,D7 3 0] [2,3]) (.ret))))))))),89,[(2,(some (some 2))),(3,none)],true⟩
theorem cI8:r8 Tryd.prog 23 c23:= .code ⟨Tryd.f23,_,c23.code,Tryd.func23,rfl,by kernel_rfl,rfl,by kernel_rfl,by kernel_rfl⟩
/- raddle/raddlelaw41.alive -/
def c24:s5:=⟨.seq (.ops [b9 0 (.mov (.const (.bool false)))] []) (.seq (.ops [b9 15 (.callF 42 [(.const (.string ⟨#[107,51,32,121,111,32,121,111,32,107,102,50,32,112]⟩))]),Q4 16 10 15,a8 14 16,I0 17 14 0,I0 18 14 1,a8 1 17,a8 2 18] [1,2]) (.seq (.ops [b9 20 (.callF 42 [(.const (.string ⟨#[112,115,32,112,115,32,112,109,51,32,107,120,50,47,49]⟩))]),b9 21 (.build [(.bool false),(.slice none 0 0)] [(0,1,(.const (.bool true))),(1,1,(.tmp 20))]),b9 22 (.callF 15 [(.tmp 21),(r5 2)]),a8 19 22,I0 23 19 0,I0 24 19 1,a8 3 23,a8 4 24] [1,2,3,4]) (.seq (.ops [b9 26 (.callF 42 [(.const (.string ⟨#[107,53]⟩))]),b9 27 (.build [(.bool false),(.slice none 0 0)] [(1,1,(.tmp 26))]),b9 28 (.mkRow 36 2 1 [(.bool false),(.slice none 0 0)] [(0,2,(.tmp 27))]),b9 29 (.build [(.int .i64 0),(.slice none 0 0)] [(0,1,(r5 5)),(1,1,(.tmp 28))]),Q4 30 22 29,a8 25 30,I0 31 25 0,I0 32 25 1,a8 5 31,a8 6 32] [1,2,3,4,5,6]) (.seq (.ops [b9 34 (.callF 12 [(.const (.string ⟨#[107,110,105,116,32,51,44,32,121,97,114,110,32,111,118,101,114,32,50,32,116,105,109,101,115,44,32,107,110,105,116,32,50,32,116,111,103,101,116,104,101,114,32,40,102,105,114,115,116,32,111,110,32,116,111,112,41,44,32,112,117,114,108,32,49]⟩))]),a8 33 34,I0 35 33 0,I0 36 33 1,a8 7 35,a8 8 36] [1,2,3,4,5,6,7,8]) (.seq (.ops [b9 38 (.callF 17 [(.const (.string ⟨#[114,111,119,32,50,32,40,98,97,99,107,41,58,32,115,108,105,112,32,50,32,119,105,116,104,32,121,97,114,110,32,105,110,32,102,114,111,110,116,44,32,109,97,107,101,32,51,32,111,117,116,32,111,102,32,49,32,112,117,114,108,119,105,115,101,44,32,99,114,111,115,115,32,50,32,105,110,32,102,114,111,110,116,32,111,102,32,49,46]⟩))]),a8 37 38,I0 39 37 0,I0 40 37 1,I0 41 37 2,b9 9 (.alloc 36 [(1,(.bool false)),(1,(.slice none 0 0))]),⟨none,none,.store 2 (.tmp 9) (.tmp 39)⟩,a8 10 40,a8 11 41] [1,2,3,4,5,6,7,8,9,10,11]) (.seq (.ops [b9 43 (.callF 23 [(.const (.string ⟨#[115,116,97,114,116,32,119,105,116,104,32,53,32,115,116,105,116,99,104,101,115,46,10,114,111,119,32,49,32,40,102,114,111,110,116,41,58,32,107,110,105,116,32,53,46,10]⟩))]),a8 42 43,I0 44 42 0,I0 45 42 1,b9 12 (.alloc 52 [(1,(.int .i64 0)),(1,(.slice none 0 0))]),⟨none,none,.store 2 (.tmp 12) (.tmp 44)⟩,a8 13 45] [1,2,3,4,5,6,7,8,9,10,11,12,13]) (.seq (.seq (.ops [a8 46 2,p6 47 46 .neq (r5 0),a8 48 47,B4 49 48 (.mov (.tmp 4)),B4 50 48 (.bin .neq (.tmp 49) (r5 0)),b9 51 (.pick (.tmp 48) (.const (.bool true)) (.tmp 50)),a8 52 51,
  B4 53 52 (.mov (.tmp 6)),B4 54 52 (.bin .neq (.tmp 53) (r5 0)),b9 55 (.pick (.tmp 52) (.const (.bool true)) (.tmp 54)),a8 56 55,B4 57 56 (.mov (.tmp 8)),B4 58 56 (.bin .neq (.tmp 57) (r5 0)),b9 59 (.pick (.tmp 56) (.const (.bool true)) (.tmp 58)),a8 60 59,B4 61 60 (.mov (.tmp 11)),B4 62 60 (.bin .neq (.tmp 61) (r5 0)),b9 63 (.pick (.tmp 60) (.const (.bool true)) (.tmp 62)),a8 64 63,B4 65 64 (.mov (.tmp 13)),B4 66 64 (.bin .neq (.tmp 65) (r5 0)),b9 67 (.pick (.tmp 64) (.const (.bool true)) (.tmp 66)),a8 68 67,B4 69 68 (.fldA 1 (.tmp 12)),B4 70 68 (.load none (.tmp 69)),B4 71 68 (.len false (.tmp 70)),B4 72 68 (.bin .neq (.tmp 71) (r5 1)),b9 73 (.pick (.tmp 68) (.const (.bool true)) (.tmp 72))] [1,3,5,7,9,10,12,73]) (.cond (.tmp 73) (.seq (.ops [b9 0 (.mov (.const (.bool false)))] [0]) (.ret)) (.skip))) (.seq (.draw [a8 74 1,b9 75 (.bin .eql (.tmp 74) (.const (.string ⟨#[107,110,105,116,32,51,44,32,121,97,114,110,32,111,118,101,114,32,50,32,116,105,109,101,115,44,32,107,110,105,116,32,50,32,116,111,103,101,116,104,101,114,32,40,102,105,114,115,116,32,111,110,32,116,111,112,41,44,32,112,117,114,108,32,49]⟩))),a8 76 75,w8 77 76 (.mov (.tmp 3)),w8 78 76 (.bin .eql (.tmp 77) (.const (.string ⟨#[114,111,119,32,50,32,40,98,97,99,107,41,58,32,115,108,105,112,32,50,32,119,105,116,104,32,121,97,114,110,32,105,110,32,102,114,111,110,116,44,32,109,97,107,101,32,51,32,111,117,116,32,111,102,32,49,32,112,117,114,108,119,105,115,101,44,32,99,114,111,115,115,32,50,32,105,110,32,102,114,111,110,116,32,111,102,32,49,46]⟩))),b9 79 (.pick (.tmp 76) (.tmp 78) (.const (.bool false))),a8 80 79,w8 81 80 (.mov (.tmp 5)),w8 82 80 (.bin .eql (.tmp 81) (.const (.string ⟨#[115,116,97,114,116,32,119,105,116,104,32,53,32,115,116,105,116,99,104,101,115,46,10,114,111,119,32,49,32,40,102,114,111,110,116,41,58,32,107,110,105,116,32,53,46,10]⟩))),b9 83 (.pick (.tmp 80) (.tmp 82) (.const (.bool false))),a8 84 83,w8 85 84 (.mov (.tmp 7)),w8 86 84 (.callF 42 [(.const (.string ⟨#[107,51,32,121,111,32,121,111,32,107,102,50,32,112]⟩))]),w8 87 84 (.callF 14 [(.tmp 85),(.tmp 86)]),b9 88 (.pick (.tmp 84) (.tmp 87) (.const (.bool false))),a8 89 88,w8 90 89 (.fldA 0 (.tmp 9)),w8 91 89 (.load none (.tmp 90)),b9 92 (.pick (.tmp 89) (.tmp 91) (.const (.bool false))),a8 93 92,w8 94 93 (.mov (.tmp 10)),w8 95 93 (.bin .eql (.tmp 94) (r5 2)),b9 96 (.pick (.tmp 93) (.tmp 95) (.const (.bool false))),a8 97 96,w8 98 97 (.fldA 1 (.tmp 9)),
  w8 99 97 (.load none (.tmp 98)),w8 100 97 (.callF 42 [(.const (.string ⟨#[112,115,32,112,115,32,112,109,51,32,107,120,50,47,49]⟩))]),w8 101 97 (.callF 14 [(.tmp 99),(.tmp 100)]),b9 102 (.pick (.tmp 97) (.tmp 101) (.const (.bool false))),a8 103 102,w8 104 103 (.fldA 0 (.tmp 12)),w8 105 103 (.load none (.tmp 104)),w8 106 103 (.bin .eql (.tmp 105) (r5 5)),b9 107 (.pick (.tmp 103) (.tmp 106) (.const (.bool false))),a8 108 107,w8 109 108 (.fldA 1 (.tmp 12)),w8 110 108 (.load none (.tmp 109)),w8 111 108 (.idxS 2 (.tmp 110) (r5 0)),w8 112 108 (.fldA 1 (.tmp 111)),w8 113 108 (.load none (.tmp 112)),w8 114 108 (.callF 42 [(.const (.string ⟨#[107,53]⟩))])] [w8 115 108 (.callF 14 [(.tmp 113),(.tmp 114)]),b9 116 (.pick (.tmp 108) (.tmp 115) (.const (.bool false))),a8 117 116,w8 118 117 (.callF 21 [(.const (.string ⟨#[107,110,105,116,32,51,44,32,107,110,105,116,32,49]⟩))]),b9 119 (.pick (.tmp 117) (.tmp 118) (.const (.bool false))),a8 120 119,w8 121 120 (.callF 21 [(.const (.string ⟨#[121,97,114,110,32,111,118,101,114,32,49,32,116,105,109,101,115]⟩))]),b9 122 (.pick (.tmp 120) (.tmp 121) (.const (.bool false))),a8 0 122] [[],[],[],[],[],[],[],[],[],[],[],[],[],[],[],[],[],[],[],[],[],[],[],[],[],[],[],[],[],[],[],[],[],[],[],[],[],[],[],[],[]] [0]) (.ret))))))))),123,[(0,none)],true⟩
theorem cI9:r8 Tryd.prog 24 c24:= .code ⟨Tryd.f24,_,c24.code,Tryd.func24,rfl,by kernel_rfl,rfl,by kernel_rfl,by kernel_rfl⟩
/- raddle/stitch.All -/
def c27:s5:=⟨.seq (.ops [D7 2 0] [0]) (.seq (.seq (.ops [a8 5 0,b9 6 (.len false (.tmp 5)),p6 7 6 .gtr (r5 200)] [0,7]) (.cond (.tmp 7) (.seq (.ops [D7 2 4] [2]) (.ret)) (.skip))) (.seq (.seq (.ops [a8 8 0,b9 9 (.callF 47 [(.tmp 8),(.func 48)])] [0,9]) (.cond (.tmp 9) (.seq (.ops [D7 2 8] [2]) (.ret)) (.skip))) (.seq (.seq (.ops [a8 11 0,Q4 12 50 11,a8 10 12,I0 13 10 0,I0 14 10 1,a8 3 13,a8 4 14] [3,4]) (.seq (.ops [a8 15 3,a8 16 4,b9 17 (.mm true (.tmp 15) (.tmp 16)),p6 18 17 .gtr (r5 200)] [18]) (.cond (.tmp 18) (.seq (.ops [D7 2 4] [2]) (.ret)) (.skip)))) (.seq (.ops [D7 2 0] [2]) (.ret))))),19,[(2,none)],true⟩
theorem cJ0:r8 Tryd.prog 27 c27:= .code ⟨Tryd.f27,_,c27.code,Tryd.func27,rfl,by kernel_rfl,rfl,by kernel_rfl,by kernel_rfl⟩
/- raddle/p5.write -/
def KW:AC:= .seq (.seq (.draw [a8 15 5,a8 16 0,b9 17 (.len false (.tmp 16)),p6 18 15 .lss (.tmp 17),a8 19 18,w8 20 19 (.mov (.tmp 0)),w8 21 19 (.mov (.tmp 5)),w8 22 19 (.idxS 4 (.tmp 20) (.tmp 21)),w8 23 19 (.load (some 4) (.tmp 22)),w8 24 19 (.mov (.tmp 0)),w8 25 19 (.mov (.tmp 4)),w8 26 19 (.idxS 4 (.tmp 24) (.tmp 25)),w8 27 19 (.load (some 4) (.tmp 26))] [w8 28 19 (.eqAgg false [(0,0),(1,2),(2,0),(3,0)] (.tmp 23) (.tmp 27)),b9 29 (.pick (.tmp 19) (.tmp 28) (.const (.bool false)))] [[],[],[],[],[],[],[],[],[],[],[],[],[]] [0,3,4,5,29]) (.cond (.tmp 29) (.skip) (.exit 2))) (.block 3 (.ops [a8 30 5,p6 31 30 .add (r5 1),a8 5 31] [0,3,4,5]))
def aK1:AC:= .seq (.seq (.ops [a8 9 4,a8 10 0,b9 11 (.len false (.tmp 10)),p6 12 9 .lss (.tmp 11)] [0,3,4,12]) (.cond (.tmp 12) (.skip) (.exit 0))) (.block 1 (.seq (.ops [a8 13 4,p6 14 13 .add (r5 1),a8 5 14] [0,3,4,5]) (.seq (.block 2 (.loop [0,3,4,5] KW)) (.seq (.ops [a8 32 3,a8 33 0,a8 34 4,b9 35 (.idxS 4 (.tmp 33) (.tmp 34)),b9 36 (.load (some 4) (.tmp 35)),a8 37 5,a8 38 4,p6 39 37 .sub (.tmp 38),b9 40 (.callF 51 [(.tmp 36),(.tmp 39)]),b9 41 (.mkRow 9 1 1 [(.string ⟨#[]⟩)] [(0,1,(.tmp 40))]),b9 42 (.app 9 1 16 (.tmp 32) (.tmp 41)),a8 3 42] [0,3,5]) (.ops [a8 43 5,a8 4 43] [0,3,4])))))
def c28:s5:=⟨.seq (.ops [b9 2 (.mov (.const (.string ⟨#[]⟩)))] [0]) (.seq (.seq (.ops [a8 6 0,b9 7 (.len false (.tmp 6)),p6 8 7 .eql (r5 0)] [0,8]) (.cond (.tmp 8) (.seq (.ops [b9 2 (.mov (.const (.string ⟨#[110,111,116,104,105,110,103]⟩)))] [2]) (.ret)) (.skip))) (.seq (.ops [b9 3 (.mov (.const (.slice none 0 0)))] [0,3]) (.seq (.seq (.ops [D7 4 0] [0,3,4]) (.block 0 (.loop [0,3,4] aK1))) (.seq (.ops [a8 44 3,b9 45 (.callF 52 [(.tmp 44),(.const (.string ⟨#[44,32]⟩))]),a8 2 45] [2]) (.ret))))),46,[(2,none)],true⟩
theorem cJ1:r8 Tryd.prog 28 c28:= .code ⟨Tryd.f28,_,c28.code,Tryd.func28,rfl,by kernel_rfl,rfl,by kernel_rfl,by kernel_rfl⟩
/- raddle/raddleref25.All -/
def KX:AC:= .seq (.seq (.ops [a8 9 3,a8 10 0,b9 11 (.len false (.tmp 10)),p6 12 9 .lss (.tmp 11)] [0,3,12]) (.cond (.tmp 12) (.skip) (.exit 0))) (.seq (.block 1 (.seq (.ops [a8 15 0,a8 16 3,b9 17 (.idxS 4 (.tmp 15) (.tmp 16)),b9 18 (.load (some 4) (.tmp 17)),Q4 19 53 18,p6 20 19 .neq (r5 0)] [0,3,20]) (.cond (.tmp 20) (.seq (.ops [D7 2 8] [2]) (.ret)) (.skip)))) (.ops [a8 13 3,p6 14 13 .add (r5 1),a8 3 14] [0,3]))
def c29:s5:=⟨.seq (.ops [D7 2 0] [0]) (.seq (.seq (.ops [a8 6 0,b9 7 (.len false (.tmp 6)),p6 8 7 .gtr (r5 200)] [0,8]) (.cond (.tmp 8) (.seq (.ops [D7 2 4] [2]) (.ret)) (.skip))) (.seq (.seq (.ops [D7 3 0] [0,3]) (.block 0 (.loop [0,3] KX))) (.seq (.ops [a8 22 0,Q4 23 54 22,a8 21 23,I0 24 21 0,I0 25 21 1,a8 4 24,a8 5 25] [4,5]) (.seq (.seq (.ops [a8 26 4,p6 27 26 .gtr (r5 200),a8 28 27,B4 29 28 (.mov (.tmp 5)),B4 30 28 (.bin .gtr (.tmp 29) (r5 200)),b9 31 (.pick (.tmp 28) (.const (.bool true)) (.tmp 30))] [31]) (.cond (.tmp 31) (.seq (.ops [D7 2 4] [2]) (.ret)) (.skip))) (.seq (.ops [D7 2 0] [2]) (.ret)))))),32,[(2,none)],true⟩
theorem cJ2:r8 Tryd.prog 29 c29:= .code ⟨Tryd.f29,_,c29.code,Tryd.func29,rfl,by kernel_rfl,rfl,by kernel_rfl,by kernel_rfl⟩
/- strings.Split -/
def c31:s5:=⟨.seq (.ops [b9 4 (.mov (.const (.slice none 0 0)))] [0,1]) (.seq (.ops [a8 5 0,a8 6 1,b9 7 (.callF 56 [(.tmp 5),(.tmp 6),(r5 0),(r5 (-1))]),a8 4 7] [4]) (.ret)),8,[(4,none)],true⟩
theorem cJ3:r8 Tryd.prog 31 c31:= .code ⟨Tryd.f31,_,c31.code,Tryd.func31,rfl,by kernel_rfl,rfl,by kernel_rfl,by kernel_rfl⟩
/- raddle/p5.read -/
def N4:AC:= .seq (.ops [p6 21 20 .lss (r5 2)] [0,2,5,20,21]) (.seq (.cond (.tmp 21) (.skip) (.exit 2)) (.seq (.block 3 (.seq (.ops [a8 22 20,a8 6 22] [0,2,5,6,20]) (.seq (.ops [a8 23 5,a8 24 6,p6 25 24 .eql (r5 1),b9 26 (.build [(.int .u8 0),(.bool false),(.int .i64 0),(.int .i64 0)] [(0,1,(.tmp 23)),(1,1,(.tmp 25))]),b9 7 (.alloc 48 [(1,(.int .u8 0)),(1,(.bool false)),(2,(.int .i64 0))]),⟨none,none,.store 4 (.tmp 7) (.tmp 26)⟩,D7 8 1] [0,2,5,7,8,20]) (.seq (.ops [a8 28 5,P2 29 1 7,L9 30 29,b9 31 (.callF 57 [(.tmp 28),(.tmp 30)]),a8 27 31,I0 32 27 0,I0 33 27 1,a8 9 32,a8 10 33] [0,2,5,7,8,9,10,20]) (.seq (.ops [a8 35 0,a8 36 9,b9 37 (.callF 38 [(.tmp 35),(.tmp 36)]),a8 34 37,I0 38 34 0,I0 39 34 1,I0 40 34 2,a8 11 38,a8 12 39,a8 13 40] [0,2,5,7,8,10,11,12,13,20]) (.seq (.seq (.ops [a8 41 13,b9 42 (.un .not (.tmp 41))] [0,2,5,7,8,10,11,12,20,42]) (.cond (.tmp 42) (.exit 3) (.skip))) (.seq (.block 4 (.seq (.ops [a8 44 10,a8 43 44] [0,2,5,7,8,10,11,12,20,43]) (.cond (.tmp 43) (.ops [a8 45 11,b9 46 (.idxS 1 (.tmp 45) (r5 0)),L9 47 46,a8 8 47] [0,2,5,7,8,10,12,20]) (.seq (.ops [a8 49 11,b9 50 (.len false (.tmp 49)),p6 51 50 .eql (r5 2),a8 48 51] [0,2,5,7,8,10,11,12,20,48]) (.cond (.tmp 48) (.drawW [⟨a8 52 11,[],none⟩,⟨b9 53 (.idxS 1 (.tmp 52) (r5 0)),[],none⟩,⟨L9 54 53,[],none⟩,⟨a8 55 11,[0,1,2],none⟩,⟨b9 56 (.idxS 1 (.tmp 55) (r5 1)),[0,1,2],none⟩,⟨L9 57 56,[0,1,2],none⟩,⟨P2 58 2 7,[3,4,5],none⟩,⟨⟨none,none,.store 1 (.tmp 58) (.tmp 54)⟩,[3,4,5],none⟩] [P2 59 3 7,⟨none,none,.store 1 (.tmp 59) (.tmp 57)⟩] [0,2,5,7,8,10,12,20]) (.seq (.ops [a8 61 11,b9 62 (.len false (.tmp 61)),p6 63 62 .eql (r5 1),a8 60 63] [0,2,5,7,8,10,11,12,20,60]) (.cond (.tmp 60) (.ops [a8 64 11,b9 65 (.idxS 1 (.tmp 64) (r5 0)),L9 66 65,P2 67 2 7,⟨none,none,.store 1 (.tmp 67) (.tmp 66)⟩] [0,2,5,7,8,10,12,20]) (.skip)))))))) (.seq (.seq (.ops [a8 69 12,b9 70 (.callF 39 [(.tmp 69),(.const (.string ⟨#[32,116,105,109,101,115]⟩))]),a8 68 70,I0 71 68 0,I0 72 68 1,a8 14 71,a8 15 72] [0,2,5,7,8,10,12,14,15,20]) (.seq (.ops [a8 73 15,a8 74 73,w8 75 74 (.mov (.tmp 10)),w8 76 74 (.un .not (.tmp 75)),
  b9 77 (.pick (.tmp 74) (.tmp 76) (.const (.bool false)))] [0,2,5,7,8,12,14,20,77]) (.cond (.tmp 77) (.ops [a8 79 14,b9 80 (.callF 59 [(.tmp 79),(.const (.string ⟨#[32]⟩))]),Q4 81 58 80,a8 78 81,I0 82 78 0,I0 83 78 1,I0 84 78 2,a8 8 82,a8 12 83] [0,2,5,7,8,12,20]) (.skip)))) (.seq (.ops [a8 85 12,b9 86 (.bin .eql (.tmp 85) (.const (.string ⟨#[]⟩))),a8 87 86,w8 88 87 (.mov (.tmp 8)),w8 89 87 (.bin .geq (.tmp 88) (r5 1)),b9 90 (.pick (.tmp 87) (.tmp 89) (.const (.bool false))),a8 91 90,w8 92 91 (.mov (.tmp 8)),w8 93 91 (.bin .leq (.tmp 92) (r5 200)),b9 94 (.pick (.tmp 91) (.tmp 93) (.const (.bool false))),a8 95 94,w8 96 95 (.load (some 4) (.tmp 7)),w8 97 95 (.callF 49 [.tmp 96]),w8 98 95 (.bin .eql (.tmp 97) (r5 0)),b9 99 (.pick (.tmp 95) (.tmp 98) (.const (.bool false))),a8 100 99,w8 101 100 (.load (some 4) (.tmp 7)),w8 102 100 (.mov (.tmp 8)),w8 103 100 (.callF 51 [(.tmp 101),(.tmp 102)]),w8 104 100 (.mov (.tmp 0)),w8 105 100 (.bin .eql (.tmp 103) (.tmp 104)),b9 106 (.pick (.tmp 100) (.tmp 105) (.const (.bool false)))] [0,2,5,7,8,20,106]) (.cond (.tmp 106) (.seq (.ops [b9 107 (.load (some 4) (.tmp 7)),a8 108 8,⟨none,none,.store 4 (.tmp 2) (.tmp 107)⟩,a8 3 108,b9 4 (.mov (.const (.bool true)))] [2,3,4]) (.ret)) (.skip))))))))))) (.ops [p6 109 20 .add (r5 1),a8 20 109] [0,2,5,20])))
def aK2:AC:= .seq (.seq (.ops [a8 16 5,p6 17 16 .leq (I3 10)] [0,2,5,17]) (.cond (.tmp 17) (.skip) (.exit 0))) (.seq (.block 1 (.seq (.ops [D7 20 0] [0,2,5,20]) (.block 2 (.loop [0,2,5,20] N4)))) (.ops [a8 18 5,p6 19 18 .add (I3 1),a8 5 19] [0,2,5]))
def c32:s5:=⟨.seq (.ops [b9 2 (.alloc 48 [(1,(.int .u8 0)),(1,(.bool false)),(2,(.int .i64 0))]),D7 3 0,b9 4 (.mov (.const (.bool false)))] [0,2]) (.seq (.seq (.ops [b9 5 (.mov (I3 1))] [0,2,5]) (.block 0 (.loop [0,2,5] aK2))) (.seq (.ops [b9 110 (.build [(.int .u8 0),(.bool false),(.int .i64 0),(.int .i64 0)] []),⟨none,none,.store 4 (.tmp 2) (.tmp 110)⟩,D7 3 0,b9 4 (.mov (.const (.bool false)))] [2,3,4]) (.ret))),111,[(2,(some (some 4))),(3,none),(4,none)],true⟩
theorem cJ4:r8 Tryd.prog 32 c32:= .code ⟨Tryd.f32,_,c32.code,Tryd.func32,rfl,by kernel_rfl,rfl,by kernel_rfl,by kernel_rfl⟩
/- raddle/p5.face -/
def c36:s5:=⟨.seq (.ops [b9 2 (.mov (.const (.string ⟨#[]⟩)))] [0]) (.seq (.seq (.ops [a8 3 0] [3]) (.cond (.tmp 3) (.seq (.ops [b9 2 (.mov (.const (.string ⟨#[98,97,99,107]⟩)))] [2]) (.ret)) (.skip))) (.seq (.ops [b9 2 (.mov (.const (.string ⟨#[102,114,111,110,116]⟩)))] [2]) (.ret))),4,[(2,none)],true⟩
theorem cJ5:r8 Tryd.prog 36 c36:= .code ⟨Tryd.f36,_,c36.code,Tryd.func36,rfl,by kernel_rfl,rfl,by kernel_rfl,by kernel_rfl⟩
/- raddle/p5.match -/
def vF:AC:= .seq (.ops [p6 20 19 .lss (.tmp 18)] [0,4,17,18,19,20]) (.seq (.cond (.tmp 20) (.skip) (.exit 0)) (.seq (.block 1 (.seq (.ops [a8 21 19,b9 22 (.idxS 1 (.tmp 17) (.tmp 19)),L9 23 22,a8 8 21,a8 9 23] [0,4,8,9,17,18,19]) (.seq (.seq (.ops [a8 24 8,p6 25 24 .gtr (r5 0)] [0,4,9,17,18,19,25]) (.cond (.tmp 25) (.seq (.ops [a8 27 0,Q4 28 58 27,a8 26 28,I0 29 26 0,I0 30 26 1,I0 31 26 2,a8 10 29,a8 11 30,a8 12 31] [4,9,10,11,12,17,18,19]) (.seq (.seq (.ops [a8 32 12,b9 33 (.un .not (.tmp 32))] [4,9,10,11,17,18,19,33]) (.cond (.tmp 33) (.seq (.ops [b9 4 (.mov (.const (.slice none 0 0))),b9 5 (.mov (.const (.string ⟨#[]⟩))),b9 6 (.mov (.const (.bool false)))] [4,5,6]) (.ret)) (.skip))) (.ops [a8 34 4,a8 35 10,b9 36 (.mkRow 3 1 1 [(.int .i64 0)] [(0,1,(.tmp 35))]),b9 37 (.app 3 1 8 (.tmp 34) (.tmp 36)),a8 38 11,a8 4 37,a8 0 38] [0,4,9,17,18,19]))) (.skip))) (.seq (.ops [a8 40 0,a8 41 9,b9 42 (.callF 40 [(.tmp 40),(.tmp 41)]),a8 39 42,I0 43 39 0,I0 44 39 1,a8 13 43,a8 14 44] [4,13,14,17,18,19]) (.seq (.seq (.ops [a8 45 14,b9 46 (.un .not (.tmp 45))] [4,13,17,18,19,46]) (.cond (.tmp 46) (.seq (.ops [b9 4 (.mov (.const (.slice none 0 0))),b9 5 (.mov (.const (.string ⟨#[]⟩))),b9 6 (.mov (.const (.bool false)))] [4,5,6]) (.ret)) (.skip))) (.ops [a8 47 13,a8 0 47] [0,4,17,18,19])))))) (.ops [p6 48 19 .add (r5 1),a8 19 48] [0,4,17,18,19])))
def c38:s5:=⟨.seq (.ops [b9 4 (.mov (.const (.slice none 0 0))),b9 5 (.mov (.const (.string ⟨#[]⟩))),b9 6 (.mov (.const (.bool false)))] [0,1,4]) (.seq (.ops [a8 15 1,b9 16 (.callF 31 [(.tmp 15),(.const (.string ⟨#[35]⟩))]),a8 7 16] [0,4,7]) (.seq (.seq (.ops [a8 17 7,b9 18 (.len false (.tmp 17)),D7 19 0] [0,4,17,18,19]) (.block 0 (.loop [0,4,17,18,19] vF))) (.seq (.ops [a8 49 4,a8 50 0,a8 4 49,a8 5 50,b9 6 (.mov (.const (.bool true)))] [4,5,6]) (.ret)))),51,[(4,none),(5,none),(6,none)],true⟩
theorem cJ6:r8 Tryd.prog 38 c38:= .code ⟨Tryd.f38,_,c38.code,Tryd.func38,rfl,by kernel_rfl,rfl,by kernel_rfl,by kernel_rfl⟩
/- strings.CutSuffix -/
def c39:s5:=⟨.seq (.ops [b9 4 (.mov (.const (.string ⟨#[]⟩))),b9 5 (.mov (.const (.bool false)))] [0,1]) (.seq (.ops [a8 6 0,a8 7 1,b9 8 (.callF 65 [(.tmp 6),(.tmp 7)]),I0 9 8 0,I0 10 8 1,a8 4 9,a8 5 10] [4,5]) (.ret)),11,[(4,none),(5,none)],true⟩
theorem cJ7:r8 Tryd.prog 39 c39:= .code ⟨Tryd.f39,_,c39.code,Tryd.func39,rfl,by kernel_rfl,rfl,by kernel_rfl,by kernel_rfl⟩
/- strings.CutPrefix -/
def c40:s5:=⟨.seq (.ops [b9 4 (.mov (.const (.string ⟨#[]⟩))),b9 5 (.mov (.const (.bool false)))] [0,1]) (.seq (.ops [a8 6 0,a8 7 1,b9 8 (.callF 66 [(.tmp 6),(.tmp 7)]),I0 9 8 0,I0 10 8 1,a8 4 9,a8 5 10] [4,5]) (.ret)),11,[(4,none),(5,none)],true⟩
theorem cJ8:r8 Tryd.prog 40 c40:= .code ⟨Tryd.f40,_,c40.code,Tryd.func40,rfl,by kernel_rfl,rfl,by kernel_rfl,by kernel_rfl⟩
/- raddle/raddlelaw41.cells -/
def c42:s5:=⟨.seq (.ops [b9 2 (.mov (.const (.slice none 0 0)))] [0]) (.seq (.ops [a8 6 0,Q4 7 67 6,a8 5 7,I0 8 5 0,I0 9 5 1,a8 3 8,a8 4 9] [3,4]) (.seq (.seq (.ops [a8 10 4,p6 11 10 .neq (r5 0)] [3,11]) (.cond (.tmp 11) (.seq (.ops [b9 2 (.mov (.const (.slice none 0 0)))] [2]) (.ret)) (.skip))) (.seq (.ops [a8 12 3,a8 2 12] [2]) (.ret)))),13,[(2,none)],true⟩
theorem cJ9:r8 Tryd.prog 42 c42:= .code ⟨Tryd.f42,_,c42.code,Tryd.func42,rfl,by kernel_rfl,rfl,by kernel_rfl,by kernel_rfl⟩
/- raddle/p5.Check -/
def WE:AC:= .seq (.ops [p6 22 21 .lss (.tmp 20)] [19,20,21,22]) (.seq (.cond (.tmp 22) (.skip) (.exit 0)) (.seq (.block 1 (.seq (.ops [b9 23 (.idxS 2 (.tmp 19) (.tmp 21)),b9 24 (.load (some 2) (.tmp 23)),b9 4 (.alloc 36 [(1,(.bool false)),(1,(.slice none 0 0))]),⟨none,none,.store 2 (.tmp 4) (.tmp 24)⟩] [4,19,20,21]) (.seq (.ops [P2 25 1 4,L9 26 25,Q4 27 27 26,a8 5 27] [5,19,20,21]) (.seq (.ops [a8 28 5,p6 29 28 .neq (r5 0)] [5,19,20,21,29]) (.cond (.tmp 29) (.seq (.ops [a8 30 5,a8 2 30] [2]) (.ret)) (.skip)))))) (.ops [p6 31 21 .add (r5 1),a8 21 31] [19,20,21])))
def c43:s5:=⟨.seq (.ops [b9 1 (.box 52 (.tmp 0)),D7 2 0] [1]) (.seq (.seq (.ops [P2 6 1 1,L9 7 6,b9 8 (.len false (.tmp 7)),p6 9 8 .gtr (r5 100)] [1,9]) (.cond (.tmp 9) (.seq (.ops [D7 2 4] [2]) (.ret)) (.skip))) (.seq (.seq (.ops [P2 10 0 1,L9 11 10,p6 12 11 .lss (r5 0),a8 13 12,B4 14 13 (.fldA 0 (.tmp 1)),B4 15 13 (.load none (.tmp 14)),B4 16 13 (.bin .gtr (.tmp 15) (r5 200)),b9 17 (.pick (.tmp 13) (.const (.bool true)) (.tmp 16))] [1,17]) (.cond (.tmp 17) (.seq (.ops [D7 2 8] [2]) (.ret)) (.skip))) (.seq (.seq (.ops [P2 18 1 1,L9 19 18,b9 20 (.len false (.tmp 19)),D7 21 0] [19,20,21]) (.block 0 (.loop [19,20,21] WE))) (.seq (.ops [D7 2 0] [2]) (.ret))))),32,[(2,none)],true⟩
theorem cK0:r8 Tryd.prog 43 c43:= .code ⟨Tryd.f43,_,c43.code,Tryd.func43,rfl,by kernel_rfl,rfl,by kernel_rfl,by kernel_rfl⟩
/- (*strings.Builder).WriteString -/
def c44:s5:=⟨.seq (.ops [D7 4 0,b9 5 (.mov (.const .nilIface))] [0,1]) (.seq (.ops [a8 6 0,Q4 7 68 6] [0,1]) (.seq (.ops [a8 8 0,a8 9 0,b9 10 (.nilChk (.tmp 9)),P2 11 1 10,L9 12 11,a8 13 1,b9 14 (.app 5 1 1 (.tmp 12) (.tmp 13)),b9 15 (.nilChk (.tmp 8)),P2 16 1 15,⟨none,none,.store 1 (.tmp 16) (.tmp 14)⟩] [1]) (.seq (.ops [a8 17 1,b9 18 (.len true (.tmp 17)),a8 4 18,b9 5 (.mov (.const .nilIface))] [4,5]) (.ret)))),19,[(4,none),(5,none)],false⟩
theorem cK1:r8 Tryd.prog 44 c44:= .code ⟨Tryd.f44,_,c44.code,Tryd.func44,rfl,by kernel_rfl,rfl,by kernel_rfl,by kernel_rfl⟩
/- (*strings.Builder).Len -/
def c45:s5:=⟨.seq (.ops [D7 2 0] [0]) (.seq (.ops [a8 3 0,b9 4 (.nilChk (.tmp 3)),P2 5 1 4,L9 6 5,b9 7 (.len false (.tmp 6)),a8 2 7] [2]) (.ret)),8,[(2,none)],true⟩
theorem cK2:r8 Tryd.prog 45 c45:= .code ⟨Tryd.f45,_,c45.code,Tryd.func45,rfl,by kernel_rfl,rfl,by kernel_rfl,by kernel_rfl⟩
/- (*strings.Builder).String -/
def c46:s5:=⟨.seq (.ops [b9 2 (.mov (.const (.string ⟨#[]⟩)))] [0]) (.seq (.draw [a8 3 0,b9 4 (.nilChk (.tmp 3)),P2 5 1 4,L9 6 5,b9 7 (.sdata (.tmp 6)),a8 8 0,b9 9 (.nilChk (.tmp 8)),P2 10 1 9,L9 11 10,b9 12 (.len false (.tmp 11))] [b9 13 (.ustr 5 (.tmp 7) (.tmp 12)),a8 2 13] [[],[],[],[],[],[],[],[],[],[]] [2]) (.ret)),14,[(2,none)],false⟩
theorem cK3:r8 Tryd.prog 46 c46:= .code ⟨Tryd.f46,_,c46.code,Tryd.func46,rfl,by kernel_rfl,rfl,by kernel_rfl,by kernel_rfl⟩
/- slices.ContainsFunc[[]raddle/api.Stitch,raddle/api.Stitch] -/
def c47:s5:=⟨.seq (.ops [b9 4 (.mov (.const (.bool false)))] [0,1]) (.seq (.ops [a8 5 0,a8 6 1,b9 7 (.callF 69 [(.tmp 5),(.tmp 6)]),p6 8 7 .geq (r5 0),a8 4 8] [4]) (.ret)),9,[(4,none)],true⟩
theorem cK4:r8 Tryd.prog 47 c47:= .code ⟨Tryd.f47,_,c47.code,Tryd.func47,rfl,by kernel_rfl,rfl,by kernel_rfl,by kernel_rfl⟩
/- raddle/stitch.All$1 -/
def c48:s5:=⟨.seq (.ops [b9 1 (.box 48 (.tmp 0)),b9 2 (.mov (.const (.bool false)))] [1]) (.seq (.ops [b9 3 (.load (some 4) (.tmp 1)),Q4 4 49 3,p6 5 4 .neq (r5 0),a8 2 5] [2]) (.ret)),6,[(2,none)],true⟩
theorem cK5:r8 Tryd.prog 48 c48:= .code ⟨Tryd.f48,_,c48.code,Tryd.func48,rfl,by kernel_rfl,rfl,by kernel_rfl,by kernel_rfl⟩
/- raddle/stitch.Check -/
def c49:s5:=⟨.seq (.ops [b9 1 (.box 48 (.tmp 0)),D7 2 0] [1]) (.seq (.ops [P2 6 0 1,L9 7 6,Q4 8 70 7,a8 5 8,I0 9 5 0,I0 10 5 1,b9 3 (.alloc 110 [(1,(.string ⟨#[]⟩)),(4,(.int .i64 0)),(1,(.bool false)),(2,(.int .i64 0))]),⟨none,none,.store 8 (.tmp 3) (.tmp 9)⟩,a8 4 10] [1,3,4]) (.seq (.seq (.ops [a8 11 4,b9 12 (.un .not (.tmp 11)),a8 13 12,B4 14 13 (.fldA 2 (.tmp 1)),B4 15 13 (.load none (.tmp 14)),B4 16 13 (.fldA 1 (.tmp 3)),B4 17 13 (.load (some 2) (.tmp 16)),B4 18 13 (.callF 71 [(.tmp 15),(.tmp 17)]),B4 19 13 (.un .not (.tmp 18)),b9 20 (.pick (.tmp 13) (.const (.bool true)) (.tmp 19)),a8 21 20,B4 22 21 (.fldA 3 (.tmp 1)),B4 23 21 (.load none (.tmp 22)),B4 24 21 (.fldA 3 (.tmp 3)),B4 25 21 (.load (some 2) (.tmp 24)),B4 26 21 (.callF 71 [(.tmp 23),(.tmp 25)]),B4 27 21 (.un .not (.tmp 26)),b9 28 (.pick (.tmp 21) (.const (.bool true)) (.tmp 27)),a8 29 28,B4 30 29 (.fldA 1 (.tmp 1)),B4 31 29 (.load none (.tmp 30)),B4 32 29 (.mov (.tmp 31)),w8 33 32 (.fldA 5 (.tmp 3)),w8 34 32 (.load none (.tmp 33)),w8 35 32 (.un .not (.tmp 34)),B4 36 29 (.pick (.tmp 32) (.tmp 35) (.const (.bool false))),b9 37 (.pick (.tmp 29) (.const (.bool true)) (.tmp 36))] [37]) (.cond (.tmp 37) (.seq (.ops [D7 2 8] [2]) (.ret)) (.skip))) (.seq (.ops [D7 2 0] [2]) (.ret)))),38,[(2,none)],true⟩
theorem cK6:r8 Tryd.prog 49 c49:= .code ⟨Tryd.f49,_,c49.code,Tryd.func49,rfl,by kernel_rfl,rfl,by kernel_rfl,by kernel_rfl⟩
/- raddle/stitch.sum -/
def aK3:AC:= .seq (.ops [p6 11 10 .lss (.tmp 9)] [2,3,8,9,10,11]) (.seq (.cond (.tmp 11) (.skip) (.exit 0)) (.seq (.block 1 (.seq (.ops [b9 12 (.idxS 4 (.tmp 8) (.tmp 10)),b9 13 (.load (some 4) (.tmp 12)),b9 5 (.alloc 48 [(1,(.int .u8 0)),(1,(.bool false)),(2,(.int .i64 0))]),⟨none,none,.store 4 (.tmp 5) (.tmp 13)⟩] [2,3,5,8,9,10]) (.seq (.ops [P2 15 0 5,L9 16 15,Q4 17 70 16,a8 14 17,I0 18 14 0,I0 19 14 1,b9 6 (.alloc 110 [(1,(.string ⟨#[]⟩)),(4,(.int .i64 0)),(1,(.bool false)),(2,(.int .i64 0))]),⟨none,none,.store 8 (.tmp 6) (.tmp 18)⟩,a8 7 19] [2,3,5,6,8,9,10]) (.seq (.ops [a8 20 2,b9 21 (.load (some 4) (.tmp 5)),P2 22 6 6,L9 23 22,b9 24 (.callF 72 [(.tmp 21),(.tmp 23)]),p6 25 20 .add (.tmp 24),a8 2 25] [2,3,5,6,8,9,10]) (.ops [a8 26 3,b9 27 (.load (some 4) (.tmp 5)),P2 28 7 6,L9 29 28,b9 30 (.callF 72 [(.tmp 27),(.tmp 29)]),p6 31 26 .add (.tmp 30),a8 3 31] [2,3,8,9,10]))))) (.ops [p6 32 10 .add (r5 1),a8 10 32] [2,3,8,9,10])))
def c50:s5:=⟨.seq (.ops [D7 2 0,D7 3 0] [0,2,3]) (.seq (.seq (.ops [a8 8 0,b9 9 (.len false (.tmp 8)),D7 10 0] [2,3,8,9,10]) (.block 0 (.loop [2,3,8,9,10] aK3))) (.seq (.ops [a8 33 2,a8 34 3,a8 2 33,a8 3 34] [2,3]) (.ret))),35,[(2,none),(3,none)],true⟩
theorem cK7:r8 Tryd.prog 50 c50:= .code ⟨Tryd.f50,_,c50.code,Tryd.func50,rfl,by kernel_rfl,rfl,by kernel_rfl,by kernel_rfl⟩
/- raddle/p5.phrase -/
def c51:s5:=⟨.seq (.ops [b9 2 (.box 48 (.tmp 0)),b9 4 (.mov (.const (.string ⟨#[]⟩)))] [1,2]) (.seq (.ops [P2 8 0 2,L9 9 8,P2 10 1 2,L9 11 10,b9 12 (.callF 57 [(.tmp 9),(.tmp 11)]),a8 7 12,I0 13 7 0,I0 14 7 1,a8 5 13,a8 6 14] [1,2,5,6]) (.seq (.seq (.ops [a8 15 6] [1,2,5,15]) (.cond (.tmp 15) (.seq (.ops [a8 16 5,a8 17 1,Q4 18 35 17,b9 19 (.callF 73 [(.tmp 16),(.const (.string ⟨#[35]⟩)),(.tmp 18),(r5 1)]),a8 4 19] [4]) (.ret)) (.skip))) (.seq (.ops [a8 20 5,P2 21 2 2,L9 22 21,Q4 23 35 22,b9 24 (.callF 73 [(.tmp 20),(.const (.string ⟨#[35]⟩)),(.tmp 23),(r5 1)]),a8 5 24] [1,2,5]) (.seq (.ops [a8 25 5,P2 26 3 2,L9 27 26,Q4 28 35 27,b9 29 (.callF 73 [(.tmp 25),(.const (.string ⟨#[35]⟩)),(.tmp 28),(r5 1)]),a8 5 29] [1,5]) (.seq (.seq (.ops [a8 30 1,p6 31 30 .gtr (r5 1)] [1,5,31]) (.cond (.tmp 31) (.ops [a8 32 5,a8 33 1,Q4 34 35 33,b9 35 (.bin .add (.const (.string ⟨#[32]⟩)) (.tmp 34)),b9 36 (.bin .add (.tmp 35) (.const (.string ⟨#[32,116,105,109,101,115]⟩))),p6 37 32 .add (.tmp 36),a8 5 37] [5]) (.skip))) (.seq (.ops [a8 38 5,a8 4 38] [4]) (.ret))))))),39,[(4,none)],true⟩
theorem cK8:r8 Tryd.prog 51 c51:= .code ⟨Tryd.f51,_,c51.code,Tryd.func51,rfl,by kernel_rfl,rfl,by kernel_rfl,by kernel_rfl⟩
/- raddle/raddleref25.Check -/
def c53:s5:=⟨.seq (.ops [b9 1 (.box 48 (.tmp 0)),D7 2 0] [1]) (.seq (.ops [P2 5 2 1,L9 6 5,p6 7 6 .eql (r5 0),a8 8 7,w8 9 8 (.fldA 3 (.tmp 1)),w8 10 8 (.load none (.tmp 9)),w8 11 8 (.bin .eql (.tmp 10) (r5 0)),b9 12 (.pick (.tmp 8) (.tmp 11) (.const (.bool false))),a8 3 12] [1,3]) (.seq (.ops [b9 4 (.mov (.const (.bool false)))] [1,3,4]) (.seq (.seq (.ops [P2 13 0 1,L9 14 13] [1,3,4,14]) (.block 0 (.seq (.seq (.ops [p6 16 14 .eql (I3 1),a8 15 16] [1,3,4,14,15]) (.cond (.tmp 15) (.skip) (.ops [p6 17 14 .eql (I3 8),a8 15 17] [1,3,4,14,15]))) (.cond (.tmp 15) (.ops [a8 18 3,a8 4 18] [4]) (.seq (.ops [p6 20 14 .eql (I3 2),a8 19 20] [1,3,4,14,19]) (.cond (.tmp 19) (.ops [a8 21 3,a8 22 21,w8 23 22 (.fldA 1 (.tmp 1)),w8 24 22 (.load none (.tmp 23)),w8 25 22 (.un .not (.tmp 24)),b9 26 (.pick (.tmp 22) (.tmp 25) (.const (.bool false))),a8 4 26] [4]) (.seq (.seq (.ops [p6 28 14 .eql (I3 3),a8 27 28] [1,4,14,27]) (.cond (.tmp 27) (.skip) (.seq (.ops [p6 29 14 .eql (I3 4),a8 27 29] [1,4,14,27]) (.cond (.tmp 27) (.skip) (.ops [p6 30 14 .eql (I3 5),a8 27 30] [1,4,14,27]))))) (.cond (.tmp 27) (.ops [P2 31 3 1,L9 32 31,p6 33 32 .eql (r5 0),a8 34 33,w8 35 34 (.fldA 2 (.tmp 1)),w8 36 34 (.load none (.tmp 35)),w8 37 34 (.bin .geq (.tmp 36) (r5 2)),b9 38 (.pick (.tmp 34) (.tmp 37) (.const (.bool false))),a8 39 38,w8 40 39 (.fldA 2 (.tmp 1)),w8 41 39 (.load none (.tmp 40)),w8 42 39 (.bin .leq (.tmp 41) (r5 4)),b9 43 (.pick (.tmp 39) (.tmp 42) (.const (.bool false))),a8 4 43] [4]) (.seq (.seq (.ops [p6 45 14 .eql (I3 6),a8 44 45] [1,4,14,44]) (.cond (.tmp 44) (.skip) (.ops [p6 46 14 .eql (I3 7),a8 44 46] [1,4,14,44]))) (.cond (.tmp 44) (.ops [P2 47 2 1,L9 48 47,p6 49 48 .geq (r5 1),a8 50 49,w8 51 50 (.fldA 2 (.tmp 1)),w8 52 50 (.load none (.tmp 51)),w8 53 50 (.bin .leq (.tmp 52) (r5 6)),b9 54 (.pick (.tmp 50) (.tmp 53) (.const (.bool false))),a8 55 54,w8 56 55 (.fldA 3 (.tmp 1)),w8 57 55 (.load none (.tmp 56)),w8 58 55 (.bin .geq (.tmp 57) (r5 1)),
  b9 59 (.pick (.tmp 55) (.tmp 58) (.const (.bool false))),a8 60 59,w8 61 60 (.fldA 3 (.tmp 1)),w8 62 60 (.load none (.tmp 61)),w8 63 60 (.bin .leq (.tmp 62) (r5 6)),b9 64 (.pick (.tmp 60) (.tmp 63) (.const (.bool false))),a8 4 64] [4]) (.seq (.ops [p6 66 14 .eql (I3 9),a8 65 66] [1,4,14,65]) (.cond (.tmp 65) (.ops [P2 67 3 1,L9 68 67,p6 69 68 .eql (r5 0),a8 70 69,w8 71 70 (.fldA 1 (.tmp 1)),w8 72 70 (.load none (.tmp 71)),w8 73 70 (.un .not (.tmp 72)),b9 74 (.pick (.tmp 70) (.tmp 73) (.const (.bool false))),a8 75 74,w8 76 75 (.fldA 2 (.tmp 1)),w8 77 75 (.load none (.tmp 76)),w8 78 75 (.bin .geq (.tmp 77) (r5 1)),b9 79 (.pick (.tmp 75) (.tmp 78) (.const (.bool false))),a8 80 79,w8 81 80 (.fldA 2 (.tmp 1)),w8 82 80 (.load none (.tmp 81)),w8 83 80 (.bin .leq (.tmp 82) (r5 200)),b9 84 (.pick (.tmp 80) (.tmp 83) (.const (.bool false))),a8 4 84] [4]) (.seq (.ops [p6 86 14 .eql (I3 10),a8 85 86] [1,4,85]) (.cond (.tmp 85) (.ops [P2 87 3 1,L9 88 87,p6 89 88 .eql (r5 0),a8 90 89,w8 91 90 (.fldA 2 (.tmp 1)),w8 92 90 (.load none (.tmp 91)),w8 93 90 (.bin .geq (.tmp 92) (r5 1)),b9 94 (.pick (.tmp 90) (.tmp 93) (.const (.bool false))),a8 95 94,w8 96 95 (.fldA 2 (.tmp 1)),w8 97 95 (.load none (.tmp 96)),w8 98 95 (.bin .leq (.tmp 97) (r5 200)),b9 99 (.pick (.tmp 95) (.tmp 98) (.const (.bool false))),a8 4 99] [4]) (.skip))))))))))))))) (.seq (.seq (.ops [a8 100 4,b9 101 (.un .not (.tmp 100))] [101]) (.cond (.tmp 101) (.seq (.ops [D7 2 8] [2]) (.ret)) (.skip))) (.seq (.ops [D7 2 0] [2]) (.ret)))))),102,[(2,none)],true⟩
theorem cK9:r8 Tryd.prog 53 c53:= .code ⟨Tryd.f53,_,c53.code,Tryd.func53,rfl,by kernel_rfl,rfl,by kernel_rfl,by kernel_rfl⟩
/- raddle/raddleref25.sums -/
def aK4:AC:= .seq (.seq (.ops [a8 7 6,a8 8 0,b9 9 (.len false (.tmp 8)),p6 10 7 .lss (.tmp 9)] [0,4,5,6,10]) (.cond (.tmp 10) (.skip) (.exit 0))) (.seq (.block 1 (.seq (.ops [a8 13 4,a8 14 0,a8 15 6,b9 16 (.idxS 4 (.tmp 14) (.tmp 15)),b9 17 (.load (some 4) (.tmp 16)),Q4 18 75 17,p6 19 13 .add (.tmp 18),a8 4 19] [0,4,5,6]) (.ops [a8 20 5,a8 21 0,a8 22 6,b9 23 (.idxS 4 (.tmp 21) (.tmp 22)),b9 24 (.load (some 4) (.tmp 23)),Q4 25 76 24,p6 26 20 .add (.tmp 25),a8 5 26] [0,4,5,6]))) (.ops [a8 11 6,p6 12 11 .add (r5 1),a8 6 12] [0,4,5,6]))
def c54:s5:=⟨.seq (.ops [D7 2 0,D7 3 0] [0]) (.seq (.ops [D7 4 0,D7 5 0] [0,4,5]) (.seq (.seq (.ops [D7 6 0] [0,4,5,6]) (.block 0 (.loop [0,4,5,6] aK4))) (.seq (.ops [a8 27 4,a8 28 5,a8 2 27,a8 3 28] [2,3]) (.ret)))),29,[(2,none),(3,none)],true⟩
theorem cL0:r8 Tryd.prog 54 c54:= .code ⟨Tryd.f54,_,c54.code,Tryd.func54,rfl,by kernel_rfl,rfl,by kernel_rfl,by kernel_rfl⟩
/- strings.genSplit -/
def KY:AC:= .seq (.seq (.ops [a8 34 10,a8 35 3,p6 36 34 .lss (.tmp 35)] [0,1,2,3,9,10,36]) (.cond (.tmp 36) (.skip) (.exit 0))) (.block 1 (.seq (.ops [a8 37 0,a8 38 1,b9 39 (.callF 81 [(.tmp 37),(.tmp 38)]),a8 11 39] [0,1,2,3,9,10,11]) (.seq (.seq (.ops [a8 40 11,p6 41 40 .lss (r5 0)] [0,1,2,3,9,10,11,41]) (.cond (.tmp 41) (.exit 0) (.skip))) (.seq (.ops [a8 42 9,a8 43 10,a8 44 0,a8 45 11,a8 46 2,p6 47 45 .add (.tmp 46),b9 48 (.slcS (.tmp 44) none (some (.tmp 47))),b9 49 (.idxS 1 (.tmp 42) (.tmp 43)),⟨none,none,.store 1 (.tmp 49) (.tmp 48)⟩] [0,1,2,3,9,10,11]) (.seq (.ops [a8 50 0,a8 51 11,a8 52 1,b9 53 (.len true (.tmp 52)),p6 54 51 .add (.tmp 53),b9 55 (.slcS (.tmp 50) (some (.tmp 54)) none),a8 0 55] [0,1,2,3,9,10]) (.ops [a8 56 10,p6 57 56 .add (r5 1),a8 10 57] [0,1,2,3,9,10]))))))
def c56:s5:=⟨.seq (.ops [b9 8 (.mov (.const (.slice none 0 0)))] [0,1,2,3]) (.seq (.seq (.ops [a8 12 3,p6 13 12 .eql (r5 0)] [0,1,2,3,13]) (.cond (.tmp 13) (.seq (.ops [b9 8 (.mov (.const (.slice none 0 0)))] [8]) (.ret)) (.skip))) (.seq (.seq (.ops [a8 14 1,b9 15 (.bin .eql (.tmp 14) (.const (.string ⟨#[]⟩)))] [0,1,2,3,15]) (.cond (.tmp 15) (.seq (.ops [a8 16 0,a8 17 3,b9 18 (.callF 79 [(.tmp 16),(.tmp 17)]),a8 8 18] [8]) (.ret)) (.skip))) (.seq (.seq (.ops [a8 19 3,p6 20 19 .lss (r5 0)] [0,1,2,3,20]) (.cond (.tmp 20) (.ops [a8 21 0,a8 22 1,b9 23 (.callF 80 [(.tmp 21),(.tmp 22)]),p6 24 23 .add (r5 1),a8 3 24] [0,1,2,3]) (.skip))) (.seq (.ops [a8 25 3,a8 26 0,b9 27 (.len true (.tmp 26)),p6 28 27 .add (r5 1),b9 29 (.mm false (.tmp 25) (.tmp 28)),a8 3 29] [0,1,2,3]) (.seq (.ops [a8 30 3,b9 31 (.mkSlice 9 1 16 [(.string ⟨#[]⟩)] (.tmp 30) (.tmp 30)),a8 9 31] [0,1,2,3,9]) (.seq (.ops [a8 32 3,p6 33 32 .sub (r5 1),a8 3 33] [0,1,2,3,9]) (.seq (.ops [D7 10 0] [0,1,2,3,9,10]) (.seq (.block 0 (.loop [0,1,2,3,9,10] KY)) (.seq (.ops [a8 58 9,a8 59 10,a8 60 0,b9 61 (.idxS 1 (.tmp 58) (.tmp 59)),⟨none,none,.store 1 (.tmp 61) (.tmp 60)⟩] [9,10]) (.seq (.ops [a8 62 9,a8 63 10,p6 64 63 .add (r5 1),b9 65 (.slc 1 (.tmp 62) none (some (.tmp 64)) none),a8 8 65] [8]) (.ret))))))))))),66,[(8,none)],true⟩
theorem cL1:r8 Tryd.prog 56 c56:= .code ⟨Tryd.f56,_,c56.code,Tryd.func56,rfl,by kernel_rfl,rfl,by kernel_rfl,by kernel_rfl⟩
/- raddle/p5.form -/
def c57:s5:=⟨.seq (.ops [b9 4 (.mov (.const (.string ⟨#[]⟩))),b9 5 (.mov (.const (.bool false)))] [0,1]) (.seq (.ops [b9 6 (.mov (.const (.string ⟨#[]⟩)))] [0,1,6]) (.seq (.seq (.ops [a8 7 1] [0,1,6,7]) (.cond (.tmp 7) (.ops [b9 6 (.mov (.const (.string ⟨#[32,112,117,114,108,119,105,115,101]⟩)))] [0,1,6]) (.skip))) (.seq (.seq (.ops [a8 8 0] [1,6,8]) (.block 0 (.seq (.ops [p6 10 8 .eql (I3 1),a8 9 10] [1,6,8,9]) (.cond (.tmp 9) (.seq (.ops [a8 11 1,Q4 12 82 11,b9 13 (.bin .add (.tmp 12) (.const (.string ⟨#[32,35]⟩))),a8 4 13,b9 5 (.mov (.const (.bool true)))] [4,5]) (.ret)) (.seq (.ops [p6 15 8 .eql (I3 8),a8 14 15] [1,6,8,14]) (.cond (.tmp 14) (.seq (.seq (.ops [a8 16 1] [16]) (.cond (.tmp 16) (.seq (.ops [b9 4 (.mov (.const (.string ⟨#[115,108,105,112,32,35,32,119,105,116,104,32,121,97,114,110,32,105,110,32,102,114,111,110,116]⟩))),b9 5 (.mov (.const (.bool true)))] [4,5]) (.ret)) (.skip))) (.seq (.ops [b9 4 (.mov (.const (.string ⟨#[115,108,105,112,32,35]⟩))),b9 5 (.mov (.const (.bool true)))] [4,5]) (.ret))) (.seq (.ops [p6 18 8 .eql (I3 2),a8 17 18] [1,6,8,17]) (.cond (.tmp 17) (.seq (.ops [b9 4 (.mov (.const (.string ⟨#[121,97,114,110,32,111,118,101,114]⟩))),b9 5 (.mov (.const (.bool false)))] [4,5]) (.ret)) (.seq (.ops [p6 20 8 .eql (I3 3),a8 19 20] [1,6,8,19]) (.cond (.tmp 19) (.seq (.ops [a8 21 1,Q4 22 82 21,b9 23 (.bin .add (.tmp 22) (.const (.string ⟨#[32,35,32,116,111,103,101,116,104,101,114,32,40,102,105,114,115,116,32,111,110,32,116,111,112,41]⟩))),a8 4 23,b9 5 (.mov (.const (.bool false)))] [4,5]) (.ret)) (.seq (.ops [p6 25 8 .eql (I3 4),a8 24 25] [1,6,8,24]) (.cond (.tmp 24) (.seq (.ops [a8 26 1,Q4 27 82 26,b9 28 (.bin .add (.tmp 27) (.const (.string ⟨#[32,35,32,116,111,103,101,116,104,101,114]⟩))),a8 4 28,b9 5 (.mov (.const (.bool false)))] [4,5]) (.ret)) (.seq (.ops [p6 30 8 .eql (I3 5),a8 29 30] [6,8,29]) (.cond (.tmp 29) (.seq (.ops [a8 31 6,b9 32 (.bin .add (.const (.string ⟨#[109,97,107,101,32,35,32,111,117,116,32,111,102,32,49]⟩)) (.tmp 31)),a8 4 32,b9 5 (.mov (.const (.bool false)))] [4,5]) (.ret)) (.seq (.ops [p6 34 8 .eql (I3 6),a8 33 34] [6,8,33]) (.cond (.tmp 33) (.seq (.ops [a8 35 6,b9 36 (.bin .add (.const (.string ⟨#[99,114,111,115,115,32,35,32,105,110,32,102,114,111,110,116,32,111,102,32,35]⟩)) (.tmp 35)),a8 4 36,b9 5 (.mov (.const (.bool false)))] [4,5]) (.ret)) (.seq (.ops [p6 38 8 .eql (I3 7),a8 37 38] [6,8,37]) (.cond (.tmp 37) (.seq (.ops [a8 39 6,
  b9 40 (.bin .add (.const (.string ⟨#[99,114,111,115,115,32,35,32,98,101,104,105,110,100,32,35]⟩)) (.tmp 39)),a8 4 40,b9 5 (.mov (.const (.bool false)))] [4,5]) (.ret)) (.seq (.ops [p6 42 8 .eql (I3 9),a8 41 42] [6,41]) (.cond (.tmp 41) (.seq (.ops [b9 4 (.mov (.const (.string ⟨#[99,97,115,116,32,111,110,32,35]⟩))),b9 5 (.mov (.const (.bool false)))] [4,5]) (.ret)) (.skip))))))))))))))))))))) (.seq (.ops [a8 43 6,b9 44 (.bin .add (.const (.string ⟨#[98,105,110,100,32,111,102,102,32,35]⟩)) (.tmp 43)),a8 4 44,b9 5 (.mov (.const (.bool false)))] [4,5]) (.ret))))),45,[(4,none),(5,none)],true⟩
theorem cL2:r8 Tryd.prog 57 c57:= .code ⟨Tryd.f57,_,c57.code,Tryd.func57,rfl,by kernel_rfl,rfl,by kernel_rfl,by kernel_rfl⟩
/- raddle/p5.number -/
def KZ:AC:= .seq (.seq (.ops [a8 6 5,a8 7 0,b9 8 (.len true (.tmp 7)),p6 9 6 .lss (.tmp 8),a8 10 9,w8 11 10 (.mov (.tmp 5)),w8 12 10 (.bin .lss (.tmp 11) (r5 4)),b9 13 (.pick (.tmp 10) (.tmp 12) (.const (.bool false))),a8 14 13,w8 15 14 (.mov (.tmp 0)),w8 16 14 (.mov (.tmp 5)),w8 17 14 (.idxStr (.tmp 15) (.tmp 16)),w8 18 14 (.bin .geq (.tmp 17) (I3 48)),b9 19 (.pick (.tmp 14) (.tmp 18) (.const (.bool false))),a8 20 19,w8 21 20 (.mov (.tmp 0)),w8 22 20 (.mov (.tmp 5)),w8 23 20 (.idxStr (.tmp 21) (.tmp 22)),w8 24 20 (.bin .leq (.tmp 23) (I3 57)),b9 25 (.pick (.tmp 20) (.tmp 24) (.const (.bool false)))] [0,2,5,25]) (.cond (.tmp 25) (.skip) (.exit 0))) (.block 1 (.seq (.ops [a8 26 2,b9 27 (.bin .mul (r5 10) (.tmp 26)),a8 28 0,a8 29 5,b9 30 (.idxStr (.tmp 28) (.tmp 29)),p6 31 30 .sub (I3 48),b9 32 (.convI .i64 (.tmp 31)),p6 33 27 .add (.tmp 32),a8 2 33] [0,2,5]) (.ops [a8 34 5,p6 35 34 .add (r5 1),a8 5 35] [0,2,5])))
def c58:s5:=⟨.seq (.ops [D7 2 0,b9 3 (.mov (.const (.string ⟨#[]⟩))),b9 4 (.mov (.const (.bool false)))] [0,2]) (.seq (.ops [D7 5 0] [0,2,5]) (.seq (.block 0 (.loop [0,2,5] KZ)) (.seq (.draw [a8 36 2,a8 37 0,a8 38 5,b9 39 (.slcS (.tmp 37) (some (.tmp 38)) none),a8 40 5,p6 41 40 .gtr (r5 0),a8 2 36,a8 3 39] [a8 4 41] [[],[],[],[],[],[],[],[]] [2,3,4]) (.ret)))),42,[(2,none),(3,none),(4,none)],true⟩
theorem cL3:r8 Tryd.prog 58 c58:= .code ⟨Tryd.f58,_,c58.code,Tryd.func58,rfl,by kernel_rfl,rfl,by kernel_rfl,by kernel_rfl⟩
/- strings.TrimPrefix -/
def c59:s5:=⟨.seq (.ops [b9 4 (.mov (.const (.string ⟨#[]⟩)))] [0,1]) (.seq (.ops [a8 5 0,a8 6 1,b9 7 (.callF 83 [(.tmp 5),(.tmp 6)]),a8 4 7] [4]) (.ret)),8,[(4,none)],true⟩
theorem cL4:r8 Tryd.prog 59 c59:= .code ⟨Tryd.f59,_,c59.code,Tryd.func59,rfl,by kernel_rfl,rfl,by kernel_rfl,by kernel_rfl⟩
/- raddle/raddleref25.Decimal -/
def aK5:AC:= .seq (.seq (.ops [a8 12 0,p6 13 12 .gtr (r5 0)] [0,3,13]) (.cond (.tmp 13) (.skip) (.exit 0))) (.seq (.block 1 (.ops [a8 16 0,p6 17 16 .rem (r5 10),b9 18 (.bin .add (r5 48) (.tmp 17)),b9 19 (.convI .u8 (.tmp 18)),b9 20 (.mkRow 5 1 1 [(.int .u8 0)] [(0,1,(.tmp 19))]),b9 21 (.b2s (.tmp 20)),a8 22 3,p6 23 21 .add (.tmp 22),a8 3 23] [0,3])) (.ops [a8 14 0,p6 15 14 .quo (r5 10),a8 0 15] [0,3]))
def c64:s5:=⟨.seq (.ops [b9 2 (.mov (.const (.string ⟨#[]⟩)))] [0]) (.seq (.ops [a8 4 0,p6 5 4 .rem (r5 10),b9 6 (.bin .add (r5 48) (.tmp 5)),b9 7 (.convI .u8 (.tmp 6)),b9 8 (.mkRow 5 1 1 [(.int .u8 0)] [(0,1,(.tmp 7))]),b9 9 (.b2s (.tmp 8)),a8 3 9] [0,3]) (.seq (.seq (.ops [a8 10 0,p6 11 10 .quo (r5 10),a8 0 11] [0,3]) (.block 0 (.loop [0,3] aK5))) (.seq (.ops [a8 24 3,a8 2 24] [2]) (.ret)))),25,[(2,none)],true⟩
theorem cL5:r8 Tryd.prog 64 c64:= .code ⟨Tryd.f64,_,c64.code,Tryd.func64,rfl,by kernel_rfl,rfl,by kernel_rfl,by kernel_rfl⟩
/- internal/stringslite.CutSuffix -/
def c65:s5:=⟨.seq (.ops [b9 4 (.mov (.const (.string ⟨#[]⟩))),b9 5 (.mov (.const (.bool false)))] [0,1]) (.seq (.seq (.ops [a8 6 0,a8 7 1,b9 8 (.callF 87 [(.tmp 6),(.tmp 7)]),b9 9 (.un .not (.tmp 8))] [0,1,9]) (.cond (.tmp 9) (.seq (.ops [a8 10 0,a8 4 10,b9 5 (.mov (.const (.bool false)))] [4,5]) (.ret)) (.skip))) (.seq (.ops [a8 11 0,a8 12 0,b9 13 (.len true (.tmp 12)),a8 14 1,b9 15 (.len true (.tmp 14)),p6 16 13 .sub (.tmp 15),b9 17 (.slcS (.tmp 11) none (some (.tmp 16))),a8 4 17,b9 5 (.mov (.const (.bool true)))] [4,5]) (.ret))),18,[(4,none),(5,none)],true⟩
theorem cL6:r8 Tryd.prog 65 c65:= .code ⟨Tryd.f65,_,c65.code,Tryd.func65,rfl,by kernel_rfl,rfl,by kernel_rfl,by kernel_rfl⟩
/- internal/stringslite.CutPrefix -/
def c66:s5:=⟨.seq (.ops [b9 4 (.mov (.const (.string ⟨#[]⟩))),b9 5 (.mov (.const (.bool false)))] [0,1]) (.seq (.seq (.ops [a8 6 0,a8 7 1,b9 8 (.callF 88 [(.tmp 6),(.tmp 7)]),b9 9 (.un .not (.tmp 8))] [0,1,9]) (.cond (.tmp 9) (.seq (.ops [a8 10 0,a8 4 10,b9 5 (.mov (.const (.bool false)))] [4,5]) (.ret)) (.skip))) (.seq (.ops [a8 11 0,a8 12 1,b9 13 (.len true (.tmp 12)),b9 14 (.slcS (.tmp 11) (some (.tmp 13)) none),a8 4 14,b9 5 (.mov (.const (.bool true)))] [4,5]) (.ret))),15,[(4,none),(5,none)],true⟩
theorem cL7:r8 Tryd.prog 66 c66:= .code ⟨Tryd.f66,_,c66.code,Tryd.func66,rfl,by kernel_rfl,rfl,by kernel_rfl,by kernel_rfl⟩
/- raddle/raddleref25.Parse -/
def aK6:AC:= .seq (.seq (.ops [a8 16 6,a8 17 4,b9 18 (.len false (.tmp 17)),p6 19 16 .lss (.tmp 18)] [0,4,5,6,19]) (.cond (.tmp 19) (.skip) (.exit 0))) (.seq (.block 1 (.seq (.ops [a8 23 4,a8 24 6,b9 25 (.idxS 1 (.tmp 23) (.tmp 24)),L9 26 25,Q4 27 89 26,a8 22 27,I0 28 22 0,I0 29 22 1,a8 7 28,a8 8 29] [0,4,5,6,7,8]) (.seq (.seq (.ops [a8 30 8,b9 31 (.un .not (.tmp 30))] [0,4,5,6,7,31]) (.cond (.tmp 31) (.seq (.ops [b9 2 (.mov (.const (.slice none 0 0))),D7 3 12] [2,3]) (.ret)) (.skip))) (.seq (.ops [a8 32 5,a8 33 7,b9 34 (.app 48 4 24 (.tmp 32) (.tmp 33)),a8 5 34] [0,4,5,6]) (.seq (.ops [a8 35 5,b9 36 (.len false (.tmp 35)),p6 37 36 .gtr (r5 200)] [0,4,5,6,37]) (.cond (.tmp 37) (.seq (.ops [b9 2 (.mov (.const (.slice none 0 0))),D7 3 12] [2,3]) (.ret)) (.skip))))))) (.ops [a8 20 6,p6 21 20 .add (r5 1),a8 6 21] [0,4,5,6]))
def c67:s5:=⟨.seq (.ops [b9 2 (.mov (.const (.slice none 0 0))),D7 3 0] [0]) (.seq (.seq (.ops [a8 9 0,b9 10 (.len true (.tmp 9)),p6 11 10 .gtr (r5 3000)] [0,11]) (.cond (.tmp 11) (.seq (.ops [b9 2 (.mov (.const (.slice none 0 0))),D7 3 12] [2,3]) (.ret)) (.skip))) (.seq (.seq (.ops [a8 12 0,b9 13 (.bin .eql (.tmp 12) (.const (.string ⟨#[]⟩)))] [0,13]) (.cond (.tmp 13) (.seq (.ops [b9 2 (.mov (.const (.slice none 0 0))),D7 3 0] [2,3]) (.ret)) (.skip))) (.seq (.ops [a8 14 0,b9 15 (.callF 84 [(.tmp 14),(I3 32)]),a8 4 15] [0,4]) (.seq (.ops [b9 5 (.mov (.const (.slice none 0 0)))] [0,4,5]) (.seq (.seq (.ops [D7 6 0] [0,4,5,6]) (.block 0 (.loop [0,4,5,6] aK6))) (.seq (.seq (.ops [a8 38 5,Q4 39 29 38,p6 40 39 .neq (r5 0),a8 41 40,B4 42 41 (.mov (.tmp 5)),B4 43 41 (.callF 90 [.tmp 42]),B4 44 41 (.mov (.tmp 0)),B4 45 41 (.bin .neq (.tmp 43) (.tmp 44)),b9 46 (.pick (.tmp 41) (.const (.bool true)) (.tmp 45))] [5,46]) (.cond (.tmp 46) (.seq (.ops [b9 2 (.mov (.const (.slice none 0 0))),D7 3 12] [2,3]) (.ret)) (.skip))) (.seq (.ops [a8 47 5,a8 2 47,D7 3 0] [2,3]) (.ret)))))))),48,[(2,none),(3,none)],true⟩
theorem cL8:r8 Tryd.prog 67 c67:= .code ⟨Tryd.f67,_,c67.code,Tryd.func67,rfl,by kernel_rfl,rfl,by kernel_rfl,by kernel_rfl⟩
/- (*strings.Builder).copyCheck (1 operations that the interpreter lacks) -/
def c68:s5:=⟨.seq (.ops [a8 2 0,b9 3 (.nilChk (.tmp 2)),P2 4 0 3,L9 5 4,b9 6 (.eqNil 0 false (.tmp 5) (.const (.pointer none)))] [0,6]) (.cond (.tmp 6) (.ops [a8 7 0,a8 8 0,b9 9 (.toUns (.tmp 8)),Q4 10 91 9,b9 11 (.fromUns 83 2 (.tmp 10)),b9 12 (.nilChk (.tmp 7)),P2 13 0 12,⟨none,none,.store 1 (.tmp 13) (.tmp 11)⟩] []) (.seq (.ops [a8 14 0,b9 15 (.nilChk (.tmp 14)),P2 16 0 15,L9 17 16,a8 18 0,b9 19 (.eqPtr true (.tmp 17) (.tmp 18))] [19]) (.cond (.tmp 19) (.bad) (.skip)))),20,[],false⟩
theorem cL9:r8 Tryd.prog 68 c68:= .code ⟨Tryd.f68,_,c68.code,Tryd.func68,rfl,by kernel_rfl,rfl,by kernel_rfl,by kernel_rfl⟩
/- slices.IndexFunc[[]raddle/api.Stitch,raddle/api.Stitch] -/
def WF:AC:= .seq (.ops [p6 9 8 .lss (.tmp 7)] [0,1,7,8,9]) (.seq (.cond (.tmp 9) (.skip) (.exit 0)) (.seq (.block 1 (.seq (.ops [a8 10 8,a8 5 10] [0,1,5,7,8]) (.seq (.ops [a8 11 1,a8 12 0,a8 13 5,b9 14 (.idxS 4 (.tmp 12) (.tmp 13)),b9 15 (.load (some 4) (.tmp 14)),b9 16 (.callV (.tmp 11) [.tmp 15])] [0,1,5,7,8,16]) (.cond (.tmp 16) (.seq (.ops [a8 17 5,a8 4 17] [4]) (.ret)) (.skip))))) (.ops [p6 18 8 .add (r5 1),a8 8 18] [0,1,7,8])))
def c69:s5:=⟨.seq (.ops [D7 4 0] [0,1]) (.seq (.seq (.ops [a8 6 0,b9 7 (.len false (.tmp 6)),D7 8 0] [0,1,7,8]) (.block 0 (.loop [0,1,7,8] WF))) (.seq (.ops [b9 4 (.mov (r5 (-1)))] [4]) (.ret))),19,[(4,none)],true⟩
theorem cM0:r8 Tryd.prog 69 c69:= .code ⟨Tryd.f69,_,c69.code,Tryd.func69,rfl,by kernel_rfl,rfl,by kernel_rfl,by kernel_rfl⟩
/- raddle/stitch.forms -/
def c70:s5:=⟨.seq (.ops [b9 2 (.alloc 110 [(1,(.string ⟨#[]⟩)),(4,(.int .i64 0)),(1,(.bool false)),(2,(.int .i64 0))]),b9 3 (.mov (.const (.bool false)))] [0,2]) (.seq (.ops [b9 8 (.build [(.int .i64 0),(.int .i64 0)] [(0,1,(r5 2)),(1,1,(r5 4))]),b9 9 (.build [(.int .i64 0),(.int .i64 0)] [(0,1,(r5 1)),(1,1,(r5 6))]),b9 4 (.alloc 108 [(2,(.int .i64 0))]),b9 5 (.alloc 108 [(2,(.int .i64 0))]),⟨none,none,.store 2 (.tmp 4) (.tmp 8)⟩,⟨none,none,.store 2 (.tmp 5) (.tmp 9)⟩] [0,2,4,5]) (.seq (.ops [b9 10 (.build [(.int .i64 0),(.int .i64 0)] [(0,1,(r5 1)),(1,1,(r5 200))]),b9 6 (.alloc 108 [(2,(.int .i64 0))]),⟨none,none,.store 2 (.tmp 6) (.tmp 10)⟩] [0,2,4,5,6]) (.seq (.ops [b9 11 (.build [(.int .i64 0),(.int .i64 0)] []),b9 12 (.build [(.int .i64 0),(.int .i64 0)] []),b9 13 (.build [(.string ⟨#[]⟩),(.int .i64 0),(.int .i64 0),(.int .i64 0),(.int .i64 0),(.bool false),(.int .i64 0),(.int .i64 0)] [(0,1,(.const (.string ⟨#[]⟩))),(1,2,(.tmp 11)),(3,2,(.tmp 12)),(5,1,(.const (.bool true))),(6,1,(r5 1)),(7,1,(r5 1))]),b9 14 (.build [(.int .i64 0),(.int .i64 0)] []),b9 15 (.build [(.int .i64 0),(.int .i64 0)] []),b9 16 (.build [(.string ⟨#[]⟩),(.int .i64 0),(.int .i64 0),(.int .i64 0),(.int .i64 0),(.bool false),(.int .i64 0),(.int .i64 0)] [(0,1,(.const (.string ⟨#[]⟩))),(1,2,(.tmp 14)),(3,2,(.tmp 15)),(5,1,(.const (.bool false))),(6,1,(r5 0)),(7,1,(r5 1))]),b9 17 (.load (some 2) (.tmp 4)),b9 18 (.build [(.int .i64 0),(.int .i64 0)] []),b9 19 (.build [(.string ⟨#[]⟩),(.int .i64 0),(.int .i64 0),(.int .i64 0),(.int .i64 0),(.bool false),(.int .i64 0),(.int .i64 0)] [(0,1,(.const (.string ⟨#[102]⟩))),(1,2,(.tmp 17)),(3,2,(.tmp 18)),(5,1,(.const (.bool true))),(6,1,(r5 2)),(7,1,(r5 1))]),b9 20 (.load (some 2) (.tmp 4)),b9 21 (.build [(.int .i64 0),(.int .i64 0)] []),b9 22 (.build [(.string ⟨#[]⟩),(.int .i64 0),(.int .i64 0),(.int .i64 0),(.int .i64 0),(.bool false),(.int .i64 0),(.int .i64 0)] [(0,1,(.const (.string ⟨#[108]⟩))),(1,2,(.tmp 20)),(3,2,(.tmp 21)),(5,1,(.const (.bool true))),(6,1,(r5 2)),(7,1,(r5 1))]),b9 23 (.load (some 2) (.tmp 4)),b9 24 (.build [(.int .i64 0),(.int .i64 0)] []),b9 25 (.build [(.string ⟨#[]⟩),(.int .i64 0),(.int .i64 0),(.int .i64 0),(.int .i64 0),(.bool false),(.int .i64 0),(.int .i64 0)] [(0,1,(.const (.string ⟨#[109]⟩))),(1,2,(.tmp 23)),(3,2,(.tmp 24)),(5,1,(.const (.bool true))),(6,1,(r5 1)),(7,1,(r5 2))]),b9 26 (.load (some 2) (.tmp 5)),b9 27 (.load (some 2) (.tmp 5)),b9 28 (.build [(.string ⟨#[]⟩),(.int .i64 0),(.int .i64 0),(.int .i64 0),(.int .i64 0),(.bool false),(.int .i64 0),(.int .i64 0)] [(0,1,(.const (.string ⟨#[120]⟩))),(1,2,(.tmp 26)),(3,2,(.tmp 27)),(5,1,(.const (.bool true))),(6,1,(r5 3)),(7,1,(r5 3))]),b9 29 (.load (some 2) (.tmp 5)),
  b9 30 (.load (some 2) (.tmp 5)),b9 31 (.build [(.string ⟨#[]⟩),(.int .i64 0),(.int .i64 0),(.int .i64 0),(.int .i64 0),(.bool false),(.int .i64 0),(.int .i64 0)] [(0,1,(.const (.string ⟨#[121]⟩))),(1,2,(.tmp 29)),(3,2,(.tmp 30)),(5,1,(.const (.bool true))),(6,1,(r5 3)),(7,1,(r5 3))]),b9 32 (.build [(.int .i64 0),(.int .i64 0)] []),b9 33 (.build [(.int .i64 0),(.int .i64 0)] []),b9 34 (.build [(.string ⟨#[]⟩),(.int .i64 0),(.int .i64 0),(.int .i64 0),(.int .i64 0),(.bool false),(.int .i64 0),(.int .i64 0)] [(0,1,(.const (.string ⟨#[115]⟩))),(1,2,(.tmp 32)),(3,2,(.tmp 33)),(5,1,(.const (.bool true))),(6,1,(r5 1)),(7,1,(r5 1))]),b9 35 (.load (some 2) (.tmp 6)),b9 36 (.build [(.int .i64 0),(.int .i64 0)] []),b9 37 (.build [(.string ⟨#[]⟩),(.int .i64 0),(.int .i64 0),(.int .i64 0),(.int .i64 0),(.bool false),(.int .i64 0),(.int .i64 0)] [(0,1,(.const (.string ⟨#[]⟩))),(1,2,(.tmp 35)),(3,2,(.tmp 36)),(5,1,(.const (.bool false))),(6,1,(r5 0)),(7,1,(r5 2))]),b9 38 (.load (some 2) (.tmp 6)),b9 39 (.build [(.int .i64 0),(.int .i64 0)] []),b9 40 (.build [(.string ⟨#[]⟩),(.int .i64 0),(.int .i64 0),(.int .i64 0),(.int .i64 0),(.bool false),(.int .i64 0),(.int .i64 0)] [(0,1,(.const (.string ⟨#[111]⟩))),(1,2,(.tmp 38)),(3,2,(.tmp 39)),(5,1,(.const (.bool true))),(6,1,(r5 2)),(7,1,(r5 0))]),b9 41 (.mkRow 110 8 10 [(.string ⟨#[]⟩),(.int .i64 0),(.int .i64 0),(.int .i64 0),(.int .i64 0),(.bool false),(.int .i64 0),(.int .i64 0)] [(0,8,(.tmp 13)),(8,8,(.tmp 16)),(16,8,(.tmp 19)),(24,8,(.tmp 22)),(32,8,(.tmp 25)),(40,8,(.tmp 28)),(48,8,(.tmp 31)),(56,8,(.tmp 34)),(64,8,(.tmp 37)),(72,8,(.tmp 40))]),a8 7 41] [0,2,7]) (.seq (.seq (.ops [a8 42 0,p6 43 42 .lss (I3 1),a8 44 43,B4 45 44 (.mov (.tmp 0)),B4 46 44 (.convI .i64 (.tmp 45)),B4 47 44 (.mov (.tmp 7)),B4 48 44 (.len false (.tmp 47)),B4 49 44 (.bin .gtr (.tmp 46) (.tmp 48)),b9 50 (.pick (.tmp 44) (.const (.bool true)) (.tmp 49))] [0,2,7,50]) (.cond (.tmp 50) (.seq (.ops [b9 51 (.build [(.string ⟨#[]⟩),(.int .i64 0),(.int .i64 0),(.int .i64 0),(.int .i64 0),(.bool false),(.int .i64 0),(.int .i64 0)] []),⟨none,none,.store 8 (.tmp 2) (.tmp 51)⟩,b9 3 (.mov (.const (.bool false)))] [2,3]) (.ret)) (.skip))) (.seq (.ops [a8 52 7,a8 53 0,p6 54 53 .sub (I3 1),b9 55 (.idxS 8 (.tmp 52) (.tmp 54)),b9 56 (.load (some 8) (.tmp 55)),⟨none,none,.store 8 (.tmp 2) (.tmp 56)⟩,b9 3 (.mov (.const (.bool true)))] [2,3]) (.ret)))))),57,[(2,(some (some 8))),(3,none)],true⟩
theorem cM1:r8 Tryd.prog 70 c70:= .code ⟨Tryd.f70,_,c70.code,Tryd.func70,rfl,by kernel_rfl,rfl,by kernel_rfl,by kernel_rfl⟩
/- raddle/stitch.within -/
def c71:s5:=⟨.seq (.ops [b9 3 (.box 108 (.tmp 1)),b9 4 (.mov (.const (.bool false)))] [0,3]) (.seq (.ops [a8 5 0,b9 6 (.idxA 2 1 (.tmp 3) (r5 0)),L9 7 6,p6 8 5 .geq (.tmp 7),a8 9 8,w8 10 9 (.mov (.tmp 0)),w8 11 9 (.idxA 2 1 (.tmp 3) (r5 1)),w8 12 9 (.load none (.tmp 11)),w8 13 9 (.bin .leq (.tmp 10) (.tmp 12)),b9 14 (.pick (.tmp 9) (.tmp 13) (.const (.bool false))),a8 4 14] [4]) (.ret)),15,[(4,none)],true⟩
theorem cM2:r8 Tryd.prog 71 c71:= .code ⟨Tryd.f71,_,c71.code,Tryd.func71,rfl,by kernel_rfl,rfl,by kernel_rfl,by kernel_rfl⟩
/- raddle/stitch.loops -/
def c72:s5:=⟨.seq (.ops [b9 2 (.box 48 (.tmp 0)),D7 4 0] [1,2]) (.seq (.ops [P2 5 2 2,L9 6 5,P2 7 2 2,L9 8 7,P2 9 3 2,L9 10 9,p6 11 8 .add (.tmp 10),b9 12 (.build [(.int .i64 0),(.int .i64 0),(.int .i64 0),(.int .i64 0)] [(0,1,(r5 0)),(1,1,(r5 1)),(2,1,(.tmp 6)),(3,1,(.tmp 11))]),a8 13 1,b9 14 (.idxV 4 1 none (.tmp 12) (.tmp 13)),a8 4 14] [4]) (.ret)),15,[(4,none)],true⟩
theorem cM3:r8 Tryd.prog 72 c72:= .code ⟨Tryd.f72,_,c72.code,Tryd.func72,rfl,by kernel_rfl,rfl,by kernel_rfl,by kernel_rfl⟩
/- raddle/raddleref25.Used -/
def c75:s5:=⟨.seq (.ops [b9 1 (.box 48 (.tmp 0)),D7 2 0] [1]) (.seq (.seq (.ops [P2 3 0 1,L9 4 3] [1,4]) (.block 0 (.seq (.seq (.ops [p6 6 4 .eql (I3 2),a8 5 6] [1,4,5]) (.cond (.tmp 5) (.skip) (.ops [p6 7 4 .eql (I3 9),a8 5 7] [1,4,5]))) (.cond (.tmp 5) (.seq (.ops [D7 2 0] [2]) (.ret)) (.seq (.seq (.ops [p6 9 4 .eql (I3 3),a8 8 9] [1,4,8]) (.cond (.tmp 8) (.skip) (.seq (.ops [p6 10 4 .eql (I3 4),a8 8 10] [1,4,8]) (.cond (.tmp 8) (.skip) (.ops [p6 11 4 .eql (I3 10),a8 8 11] [1,4,8]))))) (.cond (.tmp 8) (.seq (.ops [P2 12 2 1,L9 13 12,a8 2 13] [2]) (.ret)) (.seq (.seq (.ops [p6 15 4 .eql (I3 6),a8 14 15] [1,4,14]) (.cond (.tmp 14) (.skip) (.ops [p6 16 4 .eql (I3 7),a8 14 16] [1,14]))) (.cond (.tmp 14) (.seq (.ops [P2 17 2 1,L9 18 17,P2 19 3 1,L9 20 19,p6 21 18 .add (.tmp 20),a8 2 21] [2]) (.ret)) (.skip))))))))) (.seq (.ops [D7 2 1] [2]) (.ret))),22,[(2,none)],true⟩
theorem cM4:r8 Tryd.prog 75 c75:= .code ⟨Tryd.f75,_,c75.code,Tryd.func75,rfl,by kernel_rfl,rfl,by kernel_rfl,by kernel_rfl⟩
/- raddle/raddleref25.Gives -/
def c76:s5:=⟨.seq (.ops [b9 1 (.box 48 (.tmp 0)),D7 2 0] [1]) (.seq (.seq (.ops [P2 3 0 1,L9 4 3] [1,4]) (.block 0 (.seq (.ops [p6 6 4 .eql (I3 10),a8 5 6] [1,4,5]) (.cond (.tmp 5) (.seq (.ops [D7 2 0] [2]) (.ret)) (.seq (.seq (.ops [p6 8 4 .eql (I3 5),a8 7 8] [1,4,7]) (.cond (.tmp 7) (.skip) (.ops [p6 9 4 .eql (I3 9),a8 7 9] [1,4,7]))) (.cond (.tmp 7) (.seq (.ops [P2 10 2 1,L9 11 10,a8 2 11] [2]) (.ret)) (.seq (.seq (.ops [p6 13 4 .eql (I3 6),a8 12 13] [1,4,12]) (.cond (.tmp 12) (.skip) (.ops [p6 14 4 .eql (I3 7),a8 12 14] [1,12]))) (.cond (.tmp 12) (.seq (.ops [P2 15 2 1,L9 16 15,P2 17 3 1,L9 18 17,p6 19 16 .add (.tmp 18),a8 2 19] [2]) (.ret)) (.skip))))))))) (.seq (.ops [D7 2 1] [2]) (.ret))),20,[(2,none)],true⟩
theorem cM5:r8 Tryd.prog 76 c76:= .code ⟨Tryd.f76,_,c76.code,Tryd.func76,rfl,by kernel_rfl,rfl,by kernel_rfl,by kernel_rfl⟩
/- strings.explode -/
def bZ8:AC:= .seq (.seq (.ops [a8 22 7,a8 23 1,p6 24 23 .sub (r5 1),p6 25 22 .lss (.tmp 24)] [0,1,6,7,25]) (.cond (.tmp 25) (.skip) (.exit 0))) (.seq (.block 1 (.seq (.ops [a8 29 0,Q4 30 92 29,a8 28 30,I0 31 28 0,I0 32 28 1,a8 8 31,a8 9 32] [0,1,6,7,9]) (.seq (.ops [a8 33 6,a8 34 7,a8 35 0,a8 36 9,b9 37 (.slcS (.tmp 35) none (some (.tmp 36))),b9 38 (.idxS 1 (.tmp 33) (.tmp 34)),⟨none,none,.store 1 (.tmp 38) (.tmp 37)⟩] [0,1,6,7,9]) (.ops [a8 39 0,a8 40 9,b9 41 (.slcS (.tmp 39) (some (.tmp 40)) none),a8 0 41] [0,1,6,7])))) (.ops [a8 26 7,p6 27 26 .add (r5 1),a8 7 27] [0,1,6,7]))
def c79:s5:=⟨.seq (.ops [b9 4 (.mov (.const (.slice none 0 0)))] [0,1]) (.seq (.ops [a8 10 0,Q4 11 95 10,a8 5 11] [0,1,5]) (.seq (.seq (.ops [a8 12 1,p6 13 12 .lss (r5 0),a8 14 13,B4 15 14 (.mov (.tmp 1)),B4 16 14 (.mov (.tmp 5)),B4 17 14 (.bin .gtr (.tmp 15) (.tmp 16)),b9 18 (.pick (.tmp 14) (.const (.bool true)) (.tmp 17))] [0,1,5,18]) (.cond (.tmp 18) (.ops [a8 19 5,a8 1 19] [0,1]) (.skip))) (.seq (.ops [a8 20 1,b9 21 (.mkSlice 9 1 16 [(.string ⟨#[]⟩)] (.tmp 20) (.tmp 20)),a8 6 21] [0,1,6]) (.seq (.seq (.ops [D7 7 0] [0,1,6,7]) (.block 0 (.loop [0,1,6,7] bZ8))) (.seq (.seq (.ops [a8 42 1,p6 43 42 .gtr (r5 0)] [0,1,6,43]) (.cond (.tmp 43) (.ops [a8 44 6,a8 45 1,p6 46 45 .sub (r5 1),a8 47 0,b9 48 (.idxS 1 (.tmp 44) (.tmp 46)),⟨none,none,.store 1 (.tmp 48) (.tmp 47)⟩] [6]) (.skip))) (.seq (.ops [a8 49 6,a8 4 49] [4]) (.ret))))))),50,[(4,none)],true⟩
theorem cM6:r8 Tryd.prog 79 c79:= .code ⟨Tryd.f79,_,c79.code,Tryd.func79,rfl,by kernel_rfl,rfl,by kernel_rfl,by kernel_rfl⟩
/- raddle/p5.side -/
def c82:s5:=⟨.seq (.ops [b9 2 (.mov (.const (.string ⟨#[]⟩)))] [0]) (.seq (.seq (.ops [a8 3 0] [3]) (.cond (.tmp 3) (.seq (.ops [b9 2 (.mov (.const (.string ⟨#[112,117,114,108]⟩)))] [2]) (.ret)) (.skip))) (.seq (.ops [b9 2 (.mov (.const (.string ⟨#[107,110,105,116]⟩)))] [2]) (.ret))),4,[(2,none)],true⟩
theorem cM7:r8 Tryd.prog 82 c82:= .code ⟨Tryd.f82,_,c82.code,Tryd.func82,rfl,by kernel_rfl,rfl,by kernel_rfl,by kernel_rfl⟩
/- internal/stringslite.TrimPrefix -/
def c83:s5:=⟨.seq (.ops [b9 4 (.mov (.const (.string ⟨#[]⟩)))] [0,1]) (.seq (.seq (.ops [a8 5 0,a8 6 1,b9 7 (.callF 88 [(.tmp 5),(.tmp 6)])] [0,1,7]) (.cond (.tmp 7) (.seq (.ops [a8 8 0,a8 9 1,b9 10 (.len true (.tmp 9)),b9 11 (.slcS (.tmp 8) (some (.tmp 10)) none),a8 4 11] [4]) (.ret)) (.skip))) (.seq (.ops [a8 12 0,a8 4 12] [4]) (.ret))),13,[(4,none)],true⟩
theorem cM8:r8 Tryd.prog 83 c83:= .code ⟨Tryd.f83,_,c83.code,Tryd.func83,rfl,by kernel_rfl,rfl,by kernel_rfl,by kernel_rfl⟩
/- raddle/raddleref25.Cut -/
def LA:AC:= .seq (.seq (.ops [a8 8 7,a8 9 0,b9 10 (.len true (.tmp 9)),p6 11 8 .leq (.tmp 10)] [0,1,5,6,7,11]) (.cond (.tmp 11) (.skip) (.exit 0))) (.seq (.block 1 (.seq (.ops [a8 14 7,a8 15 0,b9 16 (.len true (.tmp 15)),p6 17 14 .eql (.tmp 16),a8 18 17,B4 19 18 (.mov (.tmp 0)),B4 20 18 (.mov (.tmp 7)),B4 21 18 (.idxStr (.tmp 19) (.tmp 20)),B4 22 18 (.mov (.tmp 1)),B4 23 18 (.bin .eql (.tmp 21) (.tmp 22)),b9 24 (.pick (.tmp 18) (.const (.bool true)) (.tmp 23))] [0,1,5,6,7,24]) (.cond (.tmp 24) (.seq (.ops [a8 25 5,a8 26 0,a8 27 6,a8 28 7,b9 29 (.slcS (.tmp 26) (some (.tmp 27)) (some (.tmp 28))),b9 30 (.mkRow 9 1 1 [(.string ⟨#[]⟩)] [(0,1,(.tmp 29))]),b9 31 (.app 9 1 16 (.tmp 25) (.tmp 30)),a8 5 31] [0,1,5,7]) (.ops [a8 32 7,p6 33 32 .add (r5 1),a8 6 33] [0,1,5,6,7])) (.skip)))) (.ops [a8 12 7,p6 13 12 .add (r5 1),a8 7 13] [0,1,5,6,7]))
def c84:s5:=⟨.seq (.ops [b9 4 (.mov (.const (.slice none 0 0)))] [0,1]) (.seq (.ops [b9 5 (.mov (.const (.slice none 0 0)))] [0,1,5]) (.seq (.ops [D7 6 0] [0,1,5,6]) (.seq (.seq (.ops [D7 7 0] [0,1,5,6,7]) (.block 0 (.loop [0,1,5,6,7] LA))) (.seq (.ops [a8 34 5,a8 4 34] [4]) (.ret))))),35,[(4,none)],true⟩
theorem cM9:r8 Tryd.prog 84 c84:= .code ⟨Tryd.f84,_,c84.code,Tryd.func84,rfl,by kernel_rfl,rfl,by kernel_rfl,by kernel_rfl⟩
/- raddle/raddleref25.Number -/
def WG:AC:= .seq (.seq (.ops [a8 24 5,a8 25 0,b9 26 (.len true (.tmp 25)),p6 27 24 .lss (.tmp 26)] [0,4,5,27]) (.cond (.tmp 27) (.skip) (.exit 0))) (.seq (.block 1 (.seq (.seq (.ops [a8 30 0,a8 31 5,b9 32 (.idxStr (.tmp 30) (.tmp 31)),p6 33 32 .lss (I3 48),a8 34 33,B4 35 34 (.mov (.tmp 0)),B4 36 34 (.mov (.tmp 5)),B4 37 34 (.idxStr (.tmp 35) (.tmp 36)),B4 38 34 (.bin .gtr (.tmp 37) (I3 57)),b9 39 (.pick (.tmp 34) (.const (.bool true)) (.tmp 38))] [0,4,5,39]) (.cond (.tmp 39) (.seq (.ops [D7 2 0,b9 3 (.mov (.const (.bool false)))] [2,3]) (.ret)) (.skip))) (.ops [a8 40 4,b9 41 (.bin .mul (r5 10) (.tmp 40)),a8 42 0,a8 43 5,b9 44 (.idxStr (.tmp 42) (.tmp 43)),p6 45 44 .sub (I3 48),b9 46 (.convI .i64 (.tmp 45)),p6 47 41 .add (.tmp 46),a8 4 47] [0,4,5]))) (.ops [a8 28 5,p6 29 28 .add (r5 1),a8 5 29] [0,4,5]))
def c85:s5:=⟨.seq (.ops [D7 2 0,b9 3 (.mov (.const (.bool false)))] [0]) (.seq (.seq (.ops [a8 6 0,b9 7 (.len true (.tmp 6)),p6 8 7 .eql (r5 0),a8 9 8,B4 10 9 (.mov (.tmp 0)),B4 11 9 (.len true (.tmp 10)),B4 12 9 (.bin .gtr (.tmp 11) (r5 4)),b9 13 (.pick (.tmp 9) (.const (.bool true)) (.tmp 12)),a8 14 13,B4 15 14 (.mov (.tmp 0)),B4 16 14 (.len true (.tmp 15)),B4 17 14 (.bin .gtr (.tmp 16) (r5 1)),B4 18 14 (.mov (.tmp 17)),w8 19 18 (.mov (.tmp 0)),w8 20 18 (.idxStr (.tmp 19) (r5 0)),w8 21 18 (.bin .eql (.tmp 20) (I3 48)),B4 22 14 (.pick (.tmp 18) (.tmp 21) (.const (.bool false))),b9 23 (.pick (.tmp 14) (.const (.bool true)) (.tmp 22))] [0,23]) (.cond (.tmp 23) (.seq (.ops [D7 2 0,b9 3 (.mov (.const (.bool false)))] [2,3]) (.ret)) (.skip))) (.seq (.ops [D7 4 0] [0,4]) (.seq (.seq (.ops [D7 5 0] [0,4,5]) (.block 0 (.loop [0,4,5] WG))) (.seq (.ops [a8 48 4,a8 2 48,b9 3 (.mov (.const (.bool true)))] [2,3]) (.ret))))),49,[(2,none),(3,none)],true⟩
theorem cN0:r8 Tryd.prog 85 c85:= .code ⟨Tryd.f85,_,c85.code,Tryd.func85,rfl,by kernel_rfl,rfl,by kernel_rfl,by kernel_rfl⟩
/- internal/stringslite.HasSuffix -/
def c87:s5:=⟨.seq (.ops [b9 4 (.mov (.const (.bool false)))] [0,1]) (.seq (.ops [a8 5 0,b9 6 (.len true (.tmp 5)),a8 7 1,b9 8 (.len true (.tmp 7)),p6 9 6 .geq (.tmp 8),a8 10 9,w8 11 10 (.mov (.tmp 0)),w8 12 10 (.mov (.tmp 0)),w8 13 10 (.len true (.tmp 12)),w8 14 10 (.mov (.tmp 1)),w8 15 10 (.len true (.tmp 14)),w8 16 10 (.bin .sub (.tmp 13) (.tmp 15)),w8 17 10 (.slcS (.tmp 11) (some (.tmp 16)) none),w8 18 10 (.mov (.tmp 1)),w8 19 10 (.bin .eql (.tmp 17) (.tmp 18)),b9 20 (.pick (.tmp 10) (.tmp 19) (.const (.bool false))),a8 4 20] [4]) (.ret)),21,[(4,none)],true⟩
theorem cN1:r8 Tryd.prog 87 c87:= .code ⟨Tryd.f87,_,c87.code,Tryd.func87,rfl,by kernel_rfl,rfl,by kernel_rfl,by kernel_rfl⟩
/- internal/stringslite.HasPrefix -/
def c88:s5:=⟨.seq (.ops [b9 4 (.mov (.const (.bool false)))] [0,1]) (.seq (.ops [a8 5 0,b9 6 (.len true (.tmp 5)),a8 7 1,b9 8 (.len true (.tmp 7)),p6 9 6 .geq (.tmp 8),a8 10 9,w8 11 10 (.mov (.tmp 0)),w8 12 10 (.mov (.tmp 1)),w8 13 10 (.len true (.tmp 12)),w8 14 10 (.slcS (.tmp 11) none (some (.tmp 13))),w8 15 10 (.mov (.tmp 1)),w8 16 10 (.bin .eql (.tmp 14) (.tmp 15)),b9 17 (.pick (.tmp 10) (.tmp 16) (.const (.bool false))),a8 4 17] [4]) (.ret)),18,[(4,none)],true⟩
theorem cN2:r8 Tryd.prog 88 c88:= .code ⟨Tryd.f88,_,c88.code,Tryd.func88,rfl,by kernel_rfl,rfl,by kernel_rfl,by kernel_rfl⟩
/- raddle/raddleref25.word -/
def LB:AC:= .seq (.seq (.ops [a8 66 10,a8 67 7,p6 68 66 .lss (.tmp 67),a8 69 68,w8 70 69 (.mov (.tmp 10)),w8 71 69 (.bin .lss (.tmp 70) (r5 300)),b9 72 (.pick (.tmp 69) (.tmp 71) (.const (.bool false)))] [6,7,9,10,72]) (.cond (.tmp 72) (.skip) (.exit 0))) (.seq (.block 1 (.ops [a8 75 9,b9 76 (.load (some 4) (.tmp 6)),b9 77 (.mkRow 48 4 1 [(.int .u8 0),(.bool false),(.int .i64 0),(.int .i64 0)] [(0,4,(.tmp 76))]),b9 78 (.app 48 4 24 (.tmp 75) (.tmp 77)),a8 9 78] [6,7,9,10])) (.ops [a8 73 10,p6 74 73 .add (r5 1),a8 10 74] [6,7,9,10]))
def c89:s5:=⟨.seq (.ops [b9 2 (.mov (.const (.slice none 0 0))),b9 3 (.mov (.const (.bool false)))] [0]) (.seq (.seq (.ops [a8 15 0,b9 16 (.bin .eql (.tmp 15) (.const (.string ⟨#[121,111]⟩)))] [0,16]) (.cond (.tmp 16) (.seq (.ops [b9 17 (.build [(.int .u8 0),(.bool false),(.int .i64 0),(.int .i64 0)] [(0,1,(I3 2))]),b9 18 (.mkRow 48 4 1 [(.int .u8 0),(.bool false),(.int .i64 0),(.int .i64 0)] [(0,4,(.tmp 17))]),a8 2 18,b9 3 (.mov (.const (.bool true)))] [2,3]) (.ret)) (.skip))) (.seq (.seq (.ops [a8 19 0,b9 20 (.len true (.tmp 19)),p6 21 20 .gtr (r5 2),a8 22 21,w8 23 22 (.mov (.tmp 0)),w8 24 22 (.slcS (.tmp 23) none (some (r5 2))),w8 25 22 (.bin .eql (.tmp 24) (.const (.string ⟨#[111,110]⟩))),b9 26 (.pick (.tmp 22) (.tmp 25) (.const (.bool false)))] [0,26]) (.cond (.tmp 26) (.seq (.ops [a8 28 0,b9 29 (.slcS (.tmp 28) (some (r5 2)) none),Q4 30 85 29,a8 27 30,I0 31 27 0,I0 32 27 1,a8 4 31,a8 5 32] [4,5]) (.seq (.ops [a8 33 4,b9 34 (.build [(.int .u8 0),(.bool false),(.int .i64 0),(.int .i64 0)] [(0,1,(I3 9)),(2,1,(.tmp 33))]),b9 35 (.mkRow 48 4 1 [(.int .u8 0),(.bool false),(.int .i64 0),(.int .i64 0)] [(0,4,(.tmp 34))]),a8 36 5,a8 2 35,a8 3 36] [2,3]) (.ret))) (.skip))) (.seq (.seq (.ops [a8 37 0,b9 38 (.len true (.tmp 37)),p6 39 38 .eql (r5 0),a8 40 39,B4 41 40 (.mov (.tmp 0)),B4 42 40 (.idxStr (.tmp 41) (r5 0)),B4 43 40 (.bin .neq (.tmp 42) (I3 107)),B4 44 40 (.mov (.tmp 43)),w8 45 44 (.mov (.tmp 0)),w8 46 44 (.idxStr (.tmp 45) (r5 0)),w8 47 44 (.bin .neq (.tmp 46) (I3 112)),B4 48 40 (.pick (.tmp 44) (.tmp 47) (.const (.bool false))),b9 49 (.pick (.tmp 40) (.const (.bool true)) (.tmp 48))] [0,49]) (.cond (.tmp 49) (.seq (.ops [b9 2 (.mov (.const (.slice none 0 0))),b9 3 (.mov (.const (.bool false)))] [2,3]) (.ret)) (.skip))) (.seq (.ops [a8 50 0,b9 51 (.idxStr (.tmp 50) (r5 0)),p6 52 51 .eql (I3 112),b9 53 (.build [(.int .u8 0),(.bool false),(.int .i64 0),(.int .i64 0)] [(0,1,(I3 1)),(1,1,(.tmp 52))]),b9 6 (.alloc 48 [(1,(.int .u8 0)),(1,(.bool false)),(2,(.int .i64 0))]),⟨none,none,.store 4 (.tmp 6) (.tmp 53)⟩] [0,6]) (.seq (.seq (.ops [a8 54 0,b9 55 (.len true (.tmp 54)),p6 56 55 .eql (r5 1)] [0,6,56]) (.cond (.tmp 56) (.seq (.ops [b9 57 (.load (some 4) (.tmp 6)),b9 58 (.mkRow 48 4 1 [(.int .u8 0),(.bool false),(.int .i64 0),(.int .i64 0)] [(0,4,(.tmp 57))]),
  a8 2 58,b9 3 (.mov (.const (.bool true)))] [2,3]) (.ret)) (.skip))) (.seq (.seq (.ops [a8 60 0,b9 61 (.slcS (.tmp 60) (some (r5 1)) none),Q4 62 85 61,a8 59 62,I0 63 59 0,I0 64 59 1,a8 7 63,a8 8 64] [0,6,7,8]) (.seq (.ops [a8 65 8] [0,6,7,65]) (.cond (.tmp 65) (.seq (.ops [b9 9 (.mov (.const (.slice none 0 0)))] [6,7,9]) (.seq (.seq (.ops [D7 10 0] [6,7,9,10]) (.block 0 (.loop [6,7,9,10] LB))) (.seq (.ops [a8 79 9,a8 80 7,p6 81 80 .gtr (r5 1),a8 2 79,a8 3 81] [2,3]) (.ret)))) (.skip)))) (.seq (.ops [a8 82 0,b9 83 (.idxStr (.tmp 82) (r5 1)),Q4 84 102 83,P2 85 0 6,⟨none,none,.store 1 (.tmp 85) (.tmp 84)⟩] [0,6]) (.seq (.seq (.ops [P2 86 0 6,L9 87 86,p6 88 87 .eql (I3 8)] [0,6,88]) (.cond (.tmp 88) (.seq (.ops [b9 89 (.load (some 4) (.tmp 6)),b9 90 (.mkRow 48 4 1 [(.int .u8 0),(.bool false),(.int .i64 0),(.int .i64 0)] [(0,4,(.tmp 89))]),a8 91 0,b9 92 (.len true (.tmp 91)),p6 93 92 .eql (r5 2),a8 2 90,a8 3 93] [2,3]) (.ret)) (.skip))) (.seq (.ops [a8 94 0,b9 95 (.slcS (.tmp 94) (some (r5 2)) none),b9 96 (.callF 84 [(.tmp 95),(I3 47)]),a8 11 96] [6,11]) (.seq (.ops [P2 97 0 6,L9 98 97,p6 99 98 .neq (I3 0),a8 100 99,w8 101 100 (.mov (.tmp 11)),w8 102 100 (.len false (.tmp 101)),w8 103 100 (.bin .eql (.tmp 102) (r5 1)),b9 104 (.pick (.tmp 100) (.tmp 103) (.const (.bool false))),a8 12 104] [6,11,12]) (.seq (.seq (.ops [P2 105 0 6,L9 106 105,p6 107 106 .eql (I3 6),a8 108 107,B4 109 108 (.fldA 0 (.tmp 6)),B4 110 108 (.load none (.tmp 109)),B4 111 108 (.bin .eql (.tmp 110) (I3 7)),b9 112 (.pick (.tmp 108) (.const (.bool true)) (.tmp 111))] [6,11,12,112]) (.cond (.tmp 112) (.seq (.ops [a8 113 11,b9 114 (.len false (.tmp 113)),p6 115 114 .eql (r5 2),a8 12 115] [6,11,12]) (.seq (.ops [a8 116 12] [6,11,12,116]) (.cond (.tmp 116) (.ops [a8 118 11,b9 119 (.idxS 1 (.tmp 118) (r5 1)),L9 120 119,Q4 121 85 120,a8 117 121,I0 122 117 0,I0 123 117 1,P2 124 3 6,⟨none,none,.store 1 (.tmp 124) (.tmp 122)⟩,a8 12 123] [6,11,12]) (.skip)))) (.skip))) (.seq (.ops [a8 126 11,
  b9 127 (.idxS 1 (.tmp 126) (r5 0)),L9 128 127,Q4 129 85 128,a8 125 129,I0 130 125 0,I0 131 125 1,a8 13 130,a8 14 131] [6,12,13,14]) (.seq (.ops [a8 132 13,P2 133 2 6,⟨none,none,.store 1 (.tmp 133) (.tmp 132)⟩] [6,12,14]) (.seq (.ops [b9 134 (.load (some 4) (.tmp 6)),b9 135 (.mkRow 48 4 1 [(.int .u8 0),(.bool false),(.int .i64 0),(.int .i64 0)] [(0,4,(.tmp 134))]),a8 136 12,a8 137 136,w8 138 137 (.mov (.tmp 14)),b9 139 (.pick (.tmp 137) (.tmp 138) (.const (.bool false))),a8 2 135,a8 3 139] [2,3]) (.ret))))))))))))))),140,[(2,none),(3,none)],true⟩
theorem cN3:r8 Tryd.prog 89 c89:= .code ⟨Tryd.f89,_,c89.code,Tryd.func89,rfl,by kernel_rfl,rfl,by kernel_rfl,by kernel_rfl⟩
/- raddle/raddleref25.Written -/
def BX:AC:= .seq (.seq (.draw [a8 23 0,a8 24 4,b9 25 (.idxS 4 (.tmp 23) (.tmp 24)),P2 26 0 25,L9 27 26,p6 28 27 .eql (I3 1),a8 29 28,w8 30 29 (.mov (.tmp 4)),w8 31 29 (.bin .add (.tmp 30) (r5 1)),w8 32 29 (.mov (.tmp 0)),w8 33 29 (.len false (.tmp 32)),w8 34 29 (.bin .lss (.tmp 31) (.tmp 33)),b9 35 (.pick (.tmp 29) (.tmp 34) (.const (.bool false))),a8 36 35,w8 37 36 (.mov (.tmp 0)),w8 38 36 (.mov (.tmp 4)),w8 39 36 (.bin .add (.tmp 38) (r5 1)),w8 40 36 (.idxS 4 (.tmp 37) (.tmp 39)),w8 41 36 (.load (some 4) (.tmp 40)),w8 42 36 (.mov (.tmp 0)),w8 43 36 (.mov (.tmp 4)),w8 44 36 (.idxS 4 (.tmp 42) (.tmp 43)),w8 45 36 (.load (some 4) (.tmp 44))] [w8 46 36 (.eqAgg false [(0,0),(1,2),(2,0),(3,0)] (.tmp 41) (.tmp 45)),b9 47 (.pick (.tmp 36) (.tmp 46) (.const (.bool false)))] [[],[],[],[],[],[],[],[],[],[],[],[],[],[],[],[],[],[],[],[],[],[],[]] [0,3,4,5,47]) (.cond (.tmp 47) (.skip) (.exit 2))) (.block 3 (.seq (.ops [a8 48 4,p6 49 48 .add (r5 1),a8 4 49] [0,3,4,5]) (.ops [a8 50 5,p6 51 50 .add (r5 1),a8 5 51] [0,3,4,5])))
def BY:AC:= .seq (.seq (.ops [a8 6 4,a8 7 0,b9 8 (.len false (.tmp 7)),p6 9 6 .lss (.tmp 8)] [0,3,4,9]) (.cond (.tmp 9) (.skip) (.exit 0))) (.seq (.block 1 (.seq (.seq (.ops [a8 12 4,p6 13 12 .gtr (r5 0)] [0,3,4,13]) (.cond (.tmp 13) (.ops [a8 14 3,b9 15 (.bin .add (.tmp 14) (.const (.string ⟨#[32]⟩))),a8 3 15] [0,3,4]) (.skip))) (.seq (.ops [a8 16 3,a8 17 0,a8 18 4,b9 19 (.idxS 4 (.tmp 17) (.tmp 18)),b9 20 (.load (some 4) (.tmp 19)),Q4 21 103 20,p6 22 16 .add (.tmp 21),a8 3 22] [0,3,4]) (.seq (.ops [D7 5 1] [0,3,4,5]) (.seq (.block 2 (.loop [0,3,4,5] BX)) (.seq (.ops [a8 52 5,p6 53 52 .gtr (r5 1)] [0,3,4,5,53]) (.cond (.tmp 53) (.ops [a8 54 3,a8 55 5,Q4 56 64 55,p6 57 54 .add (.tmp 56),a8 3 57] [0,3,4]) (.skip)))))))) (.ops [a8 10 4,p6 11 10 .add (r5 1),a8 4 11] [0,3,4]))
def c90:s5:=⟨.seq (.ops [b9 2 (.mov (.const (.string ⟨#[]⟩)))] [0]) (.seq (.ops [b9 3 (.mov (.const (.string ⟨#[]⟩)))] [0,3]) (.seq (.seq (.ops [D7 4 0] [0,3,4]) (.block 0 (.loop [0,3,4] BY))) (.seq (.ops [a8 58 3,a8 2 58] [2]) (.ret)))),59,[(2,none)],true⟩
theorem cN4:r8 Tryd.prog 90 c90:= .code ⟨Tryd.f90,_,c90.code,Tryd.func90,rfl,by kernel_rfl,rfl,by kernel_rfl,by kernel_rfl⟩
/- unicode/utf8.DecodeRuneInString -/
def c92:s5:=⟨.seq (.ops [b9 2 (.mov (.const (.int .i32 0))),D7 3 0] [0]) (.seq (.seq (.ops [a8 4 0,b9 5 (.bin .neq (.tmp 4) (.const (.string ⟨#[]⟩))),a8 6 5,w8 7 6 (.mov (.tmp 0)),w8 8 6 (.idxStr (.tmp 7) (r5 0)),w8 9 6 (.bin .lss (.tmp 8) (I3 128)),b9 10 (.pick (.tmp 6) (.tmp 9) (.const (.bool false)))] [0,10]) (.cond (.tmp 10) (.seq (.ops [a8 11 0,b9 12 (.idxStr (.tmp 11) (r5 0)),b9 13 (.convI .i32 (.tmp 12)),a8 2 13,D7 3 1] [2,3]) (.ret)) (.ops [a8 15 0,Q4 16 104 15,a8 14 16,I0 17 14 0,I0 18 14 1,a8 2 17,a8 3 18] [2,3]))) (.ret)),19,[(2,none),(3,none)],true⟩
theorem cN5:r8 Tryd.prog 92 c92:= .code ⟨Tryd.f92,_,c92.code,Tryd.func92,rfl,by kernel_rfl,rfl,by kernel_rfl,by kernel_rfl⟩
/- unicode/utf8.RuneCountInString -/
def cA0:AC:= .seq (.ops [b9 5 (.nextS (.tmp 4)),I0 6 5 0] [2,4,6]) (.seq (.cond (.tmp 6) (.skip) (.exit 0)) (.block 1 (.ops [a8 7 2,p6 8 7 .add (r5 1),a8 2 8] [2,4])))
def c95:s5:=⟨.seq (.ops [D7 2 0] [0,2]) (.seq (.seq (.ops [a8 3 0,b9 4 (.rangeS (.tmp 3))] [2,4]) (.block 0 (.loop [2,4] cA0))) (.seq (.ops [a8 9 2,a8 2 9] [2]) (.ret))),10,[(2,none)],true⟩
theorem cN6:r8 Tryd.prog 95 c95:= .code ⟨Tryd.f95,_,c95.code,Tryd.func95,rfl,by kernel_rfl,rfl,by kernel_rfl,by kernel_rfl⟩
/- raddle/raddleref25.kind -/
def HG:AC:= .seq (.seq (.ops [a8 7 5,a8 8 3,b9 9 (.len true (.tmp 8)),p6 10 7 .lss (.tmp 9)] [0,3,4,5,10]) (.cond (.tmp 10) (.skip) (.exit 0))) (.seq (.block 1 (.seq (.ops [a8 13 3,a8 14 5,b9 15 (.idxStr (.tmp 13) (.tmp 14)),a8 16 0,p6 17 15 .eql (.tmp 16)] [0,3,4,5,17]) (.cond (.tmp 17) (.seq (.ops [a8 18 4,a8 19 5,b9 20 (.idxS 1 (.tmp 18) (.tmp 19)),L9 21 20,a8 2 21] [2]) (.ret)) (.skip)))) (.ops [a8 11 5,p6 12 11 .add (r5 1),a8 5 12] [0,3,4,5]))
def bC9:s5:=⟨.seq (.ops [b9 2 (.mov (I3 0))] [0]) (.seq (.ops [b9 3 (.mov (.const (.string ⟨#[102,108,109,120,121,115,111]⟩)))] [0,3]) (.seq (.ops [b9 6 (.mkRow 5 1 7 [(.int .u8 0)] [(0,1,(I3 3)),(1,1,(I3 4)),(2,1,(I3 5)),(3,1,(I3 6)),(4,1,(I3 7)),(5,1,(I3 8)),(6,1,(I3 10))]),a8 4 6] [0,3,4]) (.seq (.seq (.ops [D7 5 0] [0,3,4,5]) (.block 0 (.loop [0,3,4,5] HG))) (.seq (.ops [b9 2 (.mov (I3 0))] [2]) (.ret))))),22,[(2,none)],true⟩
theorem cB4:r8 Tryd.prog 102 bC9:= .code ⟨Tryd.f102,_,bC9.code,Tryd.func102,rfl,by kernel_rfl,rfl,by kernel_rfl,by kernel_rfl⟩
/- raddle/raddleref25.one -/
def aB1:s5:=⟨.seq (.ops [b9 1 (.box 48 (.tmp 0)),b9 2 (.mov (.const (.string ⟨#[]⟩)))] [1]) (.seq (.ops [b9 3 (.mov (.const (.string ⟨#[107]⟩)))] [1,3]) (.seq (.seq (.ops [P2 4 1 1,L9 5 4] [1,3,5]) (.cond (.tmp 5) (.ops [b9 3 (.mov (.const (.string ⟨#[112]⟩)))] [1,3]) (.skip))) (.seq (.seq (.ops [P2 6 0 1,L9 7 6] [1,3,7]) (.block 0 (.seq (.ops [p6 9 7 .eql (I3 1),a8 8 9] [1,3,7,8]) (.cond (.tmp 8) (.seq (.ops [a8 10 3,a8 2 10] [2]) (.ret)) (.seq (.ops [p6 12 7 .eql (I3 2),a8 11 12] [1,3,7,11]) (.cond (.tmp 11) (.seq (.ops [b9 2 (.mov (.const (.string ⟨#[121,111]⟩)))] [2]) (.ret)) (.seq (.ops [p6 14 7 .eql (I3 3),a8 13 14] [1,3,7,13]) (.cond (.tmp 13) (.seq (.ops [a8 15 3,b9 16 (.bin .add (.tmp 15) (.const (.string ⟨#[102]⟩))),P2 17 2 1,L9 18 17,Q4 19 64 18,p6 20 16 .add (.tmp 19),a8 2 20] [2]) (.ret)) (.seq (.ops [p6 22 7 .eql (I3 4),a8 21 22] [1,3,7,21]) (.cond (.tmp 21) (.seq (.ops [a8 23 3,b9 24 (.bin .add (.tmp 23) (.const (.string ⟨#[108]⟩))),P2 25 2 1,L9 26 25,Q4 27 64 26,p6 28 24 .add (.tmp 27),a8 2 28] [2]) (.ret)) (.seq (.ops [p6 30 7 .eql (I3 5),a8 29 30] [1,3,7,29]) (.cond (.tmp 29) (.seq (.ops [a8 31 3,b9 32 (.bin .add (.tmp 31) (.const (.string ⟨#[109]⟩))),P2 33 2 1,L9 34 33,Q4 35 64 34,p6 36 32 .add (.tmp 35),a8 2 36] [2]) (.ret)) (.seq (.ops [p6 38 7 .eql (I3 6),a8 37 38] [1,3,7,37]) (.cond (.tmp 37) (.seq (.draw [a8 39 3,b9 40 (.bin .add (.tmp 39) (.const (.string ⟨#[120]⟩))),P2 41 2 1,L9 42 41,Q4 43 64 42,p6 44 40 .add (.tmp 43),b9 45 (.bin .add (.tmp 44) (.const (.string ⟨#[47]⟩))),P2 46 3 1,L9 47 46,Q4 48 64 47] [p6 49 45 .add (.tmp 48),a8 2 49] [[],[],[],[],[],[],[],[false,false,false,false,false,false,false],[true,false,false,false,false,false,false,false],[]] [2]) (.ret)) (.seq (.ops [p6 51 7 .eql (I3 7),a8 50 51] [1,3,7,50]) (.cond (.tmp 50) (.seq (.draw [a8 52 3,b9 53 (.bin .add (.tmp 52) (.const (.string ⟨#[121]⟩))),P2 54 2 1,L9 55 54,Q4 56 64 55,p6 57 53 .add (.tmp 56),b9 58 (.bin .add (.tmp 57) (.const (.string ⟨#[47]⟩))),P2 59 3 1,L9 60 59,Q4 61 64 60] [p6 62 58 .add (.tmp 61),
  a8 2 62] [[],[],[],[],[],[],[],[false,false,false,false,false,false,false],[true,false,false,false,false,false,false,false],[]] [2]) (.ret)) (.seq (.ops [p6 64 7 .eql (I3 8),a8 63 64] [1,3,7,63]) (.cond (.tmp 63) (.seq (.ops [a8 65 3,b9 66 (.bin .add (.tmp 65) (.const (.string ⟨#[115]⟩))),a8 2 66] [2]) (.ret)) (.seq (.ops [p6 68 7 .eql (I3 9),a8 67 68] [1,3,67]) (.cond (.tmp 67) (.seq (.ops [P2 69 2 1,L9 70 69,Q4 71 64 70,b9 72 (.bin .add (.const (.string ⟨#[111,110]⟩)) (.tmp 71)),a8 2 72] [2]) (.ret)) (.skip))))))))))))))))))))) (.seq (.ops [a8 73 3,b9 74 (.bin .add (.tmp 73) (.const (.string ⟨#[111]⟩))),P2 75 2 1,L9 76 75,Q4 77 64 76,p6 78 74 .add (.tmp 77),a8 2 78] [2]) (.ret))))),79,[(2,none)],true⟩
theorem cB5:r8 Tryd.prog 103 aB1:= .code ⟨Tryd.f103,_,aB1.code,Tryd.func103,rfl,by kernel_rfl,rfl,by kernel_rfl,by kernel_rfl⟩
/- unicode/utf8.decodeRuneInStringSlow -/
def bP2:s5:=⟨.seq (.ops [b9 2 (.mov (.const (.int .i32 0))),D7 3 0] [0]) (.seq (.ops [a8 13 0,b9 14 (.len true (.tmp 13)),a8 4 14] [0,4]) (.seq (.seq (.ops [a8 15 4,p6 16 15 .lss (r5 1)] [0,4,16]) (.cond (.tmp 16) (.seq (.ops [b9 2 (.mov (.const (.int .i32 65533))),D7 3 0] [2,3]) (.ret)) (.skip))) (.seq (.ops [a8 17 0,b9 18 (.idxStr (.tmp 17) (r5 0)),a8 5 18] [0,4,5]) (.seq (.ops [a8 19 5,b9 20 (.idxA 256 1 (.global 2) (.tmp 19)),L9 21 20,a8 6 21] [0,4,5,6]) (.seq (.seq (.ops [a8 22 6,p6 23 22 .geq (I3 240)] [0,4,5,6,23]) (.cond (.tmp 23) (.seq (.ops [a8 24 6,b9 25 (.convI .i32 (.tmp 24)),b9 26 (.bin .shl (.tmp 25) (.const (.int .u64 31))),b9 27 (.bin .shr (.tmp 26) (.const (.int .u64 31))),a8 7 27] [0,7]) (.seq (.ops [a8 28 0,b9 29 (.idxStr (.tmp 28) (r5 0)),b9 30 (.convI .i32 (.tmp 29)),a8 31 7,p6 32 30 .andNot (.tmp 31),a8 33 7,b9 34 (.bin .and (.const (.int .i32 65533)) (.tmp 33)),p6 35 32 .or (.tmp 34),a8 2 35,D7 3 1] [2,3]) (.ret))) (.skip))) (.seq (.ops [a8 36 6,p6 37 36 .and (I3 7),b9 38 (.convI .i64 (.tmp 37)),a8 8 38] [0,4,5,6,8]) (.seq (.ops [a8 39 6,b9 40 (.bin .shr (.tmp 39) (.const (.int .u64 4))),b9 41 (.idxA 16 2 (.global 3) (.tmp 40)),b9 42 (.load (some 2) (.tmp 41)),b9 9 (.alloc 152 [(2,(.int .u8 0))]),⟨none,none,.store 2 (.tmp 9) (.tmp 42)⟩] [0,4,5,8,9]) (.seq (.seq (.ops [a8 43 4,a8 44 8,p6 45 43 .lss (.tmp 44)] [0,5,8,9,45]) (.cond (.tmp 45) (.seq (.ops [b9 2 (.mov (.const (.int .i32 65533))),D7 3 1] [2,3]) (.ret)) (.skip))) (.seq (.ops [a8 46 0,b9 47 (.idxStr (.tmp 46) (r5 1)),a8 10 47] [0,5,8,9,10]) (.seq (.seq (.ops [a8 48 10,P2 49 0 9,L9 50 49,p6 51 48 .lss (.tmp 50),a8 52 51,B4 53 52 (.fldA 1 (.tmp 9)),B4 54 52 (.load none (.tmp 53)),B4 55 52 (.mov (.tmp 10)),B4 56 52 (.bin .lss (.tmp 54) (.tmp 55)),b9 57 (.pick (.tmp 52) (.const (.bool true)) (.tmp 56))] [0,5,8,10,57]) (.cond (.tmp 57) (.seq (.ops [b9 2 (.mov (.const (.int .i32 65533))),D7 3 1] [2,3]) (.ret)) (.skip))) (.seq (.seq (.ops [a8 58 8,p6 59 58 .leq (r5 2)] [0,5,8,10,59]) (.cond (.tmp 59) (.seq (.ops [a8 60 5,p6 61 60 .and (I3 31),b9 62 (.convI .i32 (.tmp 61)),b9 63 (.bin .shl (.tmp 62) (.const (.int .u64 6))),a8 64 10,
  p6 65 64 .and (I3 63),b9 66 (.convI .i32 (.tmp 65)),p6 67 63 .or (.tmp 66),a8 2 67,D7 3 2] [2,3]) (.ret)) (.skip))) (.seq (.ops [a8 68 0,b9 69 (.idxStr (.tmp 68) (r5 2)),a8 11 69] [0,5,8,10,11]) (.seq (.seq (.ops [a8 70 11,p6 71 70 .lss (I3 128),a8 72 71,B4 73 72 (.mov (.tmp 11)),B4 74 72 (.bin .lss (I3 191) (.tmp 73)),b9 75 (.pick (.tmp 72) (.const (.bool true)) (.tmp 74))] [0,5,8,10,11,75]) (.cond (.tmp 75) (.seq (.ops [b9 2 (.mov (.const (.int .i32 65533))),D7 3 1] [2,3]) (.ret)) (.skip))) (.seq (.seq (.ops [a8 76 8,p6 77 76 .leq (r5 3)] [0,5,10,11,77]) (.cond (.tmp 77) (.seq (.ops [a8 78 5,p6 79 78 .and (I3 15),b9 80 (.convI .i32 (.tmp 79)),b9 81 (.bin .shl (.tmp 80) (.const (.int .u64 12))),a8 82 10,p6 83 82 .and (I3 63),b9 84 (.convI .i32 (.tmp 83)),b9 85 (.bin .shl (.tmp 84) (.const (.int .u64 6))),p6 86 81 .or (.tmp 85),a8 87 11,p6 88 87 .and (I3 63),b9 89 (.convI .i32 (.tmp 88)),p6 90 86 .or (.tmp 89),a8 2 90,D7 3 3] [2,3]) (.ret)) (.skip))) (.seq (.ops [a8 91 0,b9 92 (.idxStr (.tmp 91) (r5 3)),a8 12 92] [5,10,11,12]) (.seq (.seq (.ops [a8 93 12,p6 94 93 .lss (I3 128),a8 95 94,B4 96 95 (.mov (.tmp 12)),B4 97 95 (.bin .lss (I3 191) (.tmp 96)),b9 98 (.pick (.tmp 95) (.const (.bool true)) (.tmp 97))] [5,10,11,12,98]) (.cond (.tmp 98) (.seq (.ops [b9 2 (.mov (.const (.int .i32 65533))),D7 3 1] [2,3]) (.ret)) (.skip))) (.seq (.ops [a8 99 5,p6 100 99 .and (I3 7),b9 101 (.convI .i32 (.tmp 100)),b9 102 (.bin .shl (.tmp 101) (.const (.int .u64 18))),a8 103 10,p6 104 103 .and (I3 63),b9 105 (.convI .i32 (.tmp 104)),b9 106 (.bin .shl (.tmp 105) (.const (.int .u64 12))),p6 107 102 .or (.tmp 106),a8 108 11,p6 109 108 .and (I3 63),b9 110 (.convI .i32 (.tmp 109)),b9 111 (.bin .shl (.tmp 110) (.const (.int .u64 6))),p6 112 107 .or (.tmp 111),a8 113 12,p6 114 113 .and (I3 63),b9 115 (.convI .i32 (.tmp 114)),p6 116 112 .or (.tmp 115),a8 2 116,D7 3 4] [2,3]) (.ret)))))))))))))))))),117,[(2,none),(3,none)],true⟩
theorem cB6:r8 Tryd.prog 104 bP2:= .code ⟨Tryd.f104,_,bP2.code,Tryd.func104,rfl,by kernel_rfl,rfl,by kernel_rfl,by kernel_rfl⟩
def fns:FuncId→Option s5
 |8=>some c8
 |9=>some c9
 |10=>some c10
 |12=>some c12
 |14=>some c14
 |15=>some c15
 |17=>some c17
 |21=>some c21
 |22=>some c22
 |23=>some c23
 |24=>some c24
 |27=>some c27
 |28=>some c28
 |29=>some c29
 |31=>some c31
 |32=>some c32
 |36=>some c36
 |38=>some c38
 |39=>some c39
 |40=>some c40
 |42=>some c42
 |43=>some c43
 |44=>some c44
 |45=>some c45
 |46=>some c46
 |47=>some c47
 |48=>some c48
 |49=>some c49
 |50=>some c50
 |51=>some c51
 |53=>some c53
 |54=>some c54
 |56=>some c56
 |57=>some c57
 |58=>some c58
 |59=>some c59
 |64=>some c64
 |65=>some c65
 |66=>some c66
 |67=>some c67
 |68=>some c68
 |69=>some c69
 |70=>some c70
 |71=>some c71
 |72=>some c72
 |75=>some c75
 |76=>some c76
 |79=>some c79
 |82=>some c82
 |83=>some c83
 |84=>some c84
 |85=>some c85
 |87=>some c87
 |88=>some c88
 |89=>some c89
 |90=>some c90
 |92=>some c92
 |95=>some c95
 |102=>some bC9
 |103=>some aB1
 |104=>some bP2
 |_=>none
theorem bQ2:GU Tryd.prog fns:=by
 intro f af h
 unfold fns at h
 split at h
 ·cases h;exact ok8
 ·cases h;exact ok9
 ·cases h;exact cI1
 ·cases h;exact cI2
 ·cases h;exact cI3
 ·cases h;exact cI4
 ·cases h;exact cI5
 ·cases h;exact cI6
 ·cases h;exact cI7
 ·cases h;exact cI8
 ·cases h;exact cI9
 ·cases h;exact cJ0
 ·cases h;exact cJ1
 ·cases h;exact cJ2
 ·cases h;exact cJ3
 ·cases h;exact cJ4
 ·cases h;exact cJ5
 ·cases h;exact cJ6
 ·cases h;exact cJ7
 ·cases h;exact cJ8
 ·cases h;exact cJ9
 ·cases h;exact cK0
 ·cases h;exact cK1
 ·cases h;exact cK2
 ·cases h;exact cK3
 ·cases h;exact cK4
 ·cases h;exact cK5
 ·cases h;exact cK6
 ·cases h;exact cK7
 ·cases h;exact cK8
 ·cases h;exact cK9
 ·cases h;exact cL0
 ·cases h;exact cL1
 ·cases h;exact cL2
 ·cases h;exact cL3
 ·cases h;exact cL4
 ·cases h;exact cL5
 ·cases h;exact cL6
 ·cases h;exact cL7
 ·cases h;exact cL8
 ·cases h;exact cL9
 ·cases h;exact cM0
 ·cases h;exact cM1
 ·cases h;exact cM2
 ·cases h;exact cM3
 ·cases h;exact cM4
 ·cases h;exact cM5
 ·cases h;exact cM6
 ·cases h;exact cM7
 ·cases h;exact cM8
 ·cases h;exact cM9
 ·cases h;exact cN0
 ·cases h;exact cN1
 ·cases h;exact cN2
 ·cases h;exact cN3
 ·cases h;exact cN4
 ·cases h;exact cN5
 ·cases h;exact cN6
 ·cases h;exact cB4
 ·cases h;exact cB5
 ·cases h;exact cB6
 ·cases h
end Go.Proofs.YtimmmnanllcfoaaDoor
namespace Go.Proofs
open Go.Shelf
def Tryd.lays156_ren:Go.Shelf.Ren:=⟨fun|156=>52|165=>74|166=>44|169=>46|240=>68|241=>93|276=>91|277=>105|n=>n,fun|31=>62|9=>9|3=>3|4=>4|0=>0|20=>20|72=>83|76=>86|70=>80|37=>81|75=>85|127=>106|164=>126|5=>5|80=>89|n=>n,fun|n=>n⟩
theorem Tryd.lays156:Go.Proofs.Lays.n156 Tryd.prog Tryd.lays156_ren:={
 mixed:=by kernel_rfl
 f156:=Tryd.func52.trans (congrArg some (by kernel_rfl))
 f165:=Tryd.func74.trans (congrArg some (by kernel_rfl))
 f166:=Tryd.func44.trans (congrArg some (by kernel_rfl))
 f169:=Tryd.func46.trans (congrArg some (by kernel_rfl))
 f240:=Tryd.func68.trans (congrArg some (by kernel_rfl))
 f241:=Tryd.func93.trans (congrArg some (by kernel_rfl))
 f276:=Tryd.func91.trans (congrArg some (by kernel_rfl))
 f277:=Tryd.func105.trans (congrArg some (by kernel_rfl))
 t0:=Tryd.underlying0
 a0:=Tryd.isAgg0
 z0:=Tryd.sizeOf0
 v0:=Tryd.zeroValue0
 t3:=Tryd.underlying3
 a3:=Tryd.isAgg3
 z3:=Tryd.sizeOf3
 v3:=Tryd.zeroValue3
 t4:=Tryd.underlying4
 a4:=Tryd.isAgg4
 z4:=Tryd.sizeOf4
 v4:=Tryd.zeroValue4
 t9:=Tryd.underlying9
 a9:=Tryd.isAgg9
 z9:=Tryd.sizeOf9
 v9:=Tryd.zeroValue9
 t20:=Tryd.underlying20
 a20:=Tryd.isAgg20
 z20:=Tryd.sizeOf20
 v20:=Tryd.zeroValue20
 t31:=Tryd.underlying62
 a31:=Tryd.isAgg62
 z31:=Tryd.sizeOf62
 v31:=Tryd.zeroValue62
 t37:=Tryd.underlying81
 a37:=Tryd.isAgg81
 z37:=Tryd.sizeOf81
 v37:=Tryd.zeroValue81
 t70:=Tryd.underlying80
 a70:=Tryd.isAgg80
 z70:=Tryd.sizeOf80
 v70:=Tryd.zeroValue80
 t72:=Tryd.underlying83
 a72:=Tryd.isAgg83
 z72:=Tryd.sizeOf83
 v72:=Tryd.zeroValue83
 t75:=Tryd.underlying85
 a75:=Tryd.isAgg85
 z75:=Tryd.sizeOf85
 v75:=Tryd.zeroValue85
 t76:=Tryd.underlying86
 a76:=Tryd.isAgg86
 z76:=Tryd.sizeOf86
 v76:=Tryd.zeroValue86
 t127:=Tryd.underlying106
 a127:=Tryd.isAgg106
 z127:=Tryd.sizeOf106
 v127:=Tryd.zeroValue106
 t164:=Tryd.underlying126
 a164:=Tryd.isAgg126
 z164:=Tryd.sizeOf126
 v164:=Tryd.zeroValue126}
theorem Tryd.Builder_Extra_156:Builder.Extra Tryd.prog Tryd.lays156_ren:={
 sizeBuilder:=by kernel_rfl
 liesBuilder:=by kernel_rfl
 t5:=Tryd.underlying5
 a5:=Tryd.isAgg5
 z5:=Tryd.sizeOf5
 v5:=Tryd.zeroValue5
 infoByte:=by kernel_rfl
 cellsByte:=by kernel_rfl
 sizeByte:=by kernel_rfl
 neB5:=by decide}
open Go.RowKit in
theorem Tryd.strings_Join_none (a:Option Addr) (c:Nat) (sep:ByteArray) (w:World):
  Calls Tryd.prog 52 #[.slice a 0 c,.string sep] w fun e w'=>e= .returned (.string ⟨#[]⟩)∧w'=w:=Any.strings_Join_none Tryd.lays156 Tryd.Builder_Extra_156 a c sep w
open Go.RowKit in
theorem Tryd.strings_Join (bk o c:Nat) (xs:List ByteArray) (sep:ByteArray) (w:World) (hcells:∀ (j:Nat) x,xs[j]? =some x→w.cell? ⟨bk,o+j,none⟩=some (.string x)) (hbk:bk<w.heap.size) (hN:xs.length≤140737488355328) (hcap:xs.length≤c) (hlen:(Lib.join (xs.map (·.data.toList)) sep.data.toList).length≤140737488355328):
  Calls Tryd.prog 52 #[.slice (some ⟨bk,o,none⟩) xs.length c,.string sep] w fun e w'=>e= .returned (.string ⟨(Lib.join (xs.map (·.data.toList)) sep.data.toList).toArray⟩)∧Below w.heap.size w w':=Any.strings_Join Tryd.lays156 Tryd.Builder_Extra_156 bk o c xs sep w hcells hbk hN hcap hlen
def Tryd.laysM171_ren:Go.Shelf.Ren:=⟨fun|171=>35|243=>63|246=>86|283=>98|284=>99|285=>100|286=>101|129=>111|317=>110|318=>112|319=>113|320=>114|337=>117|338=>118|n=>n,fun|3=>3|9=>9|2=>2|4=>4|171=>134|0=>0|53=>135|37=>81|5=>5|173=>138|212=>145|51=>146|20=>20|213=>147|46=>143|232=>157|233=>158|n=>n,fun|17=>1|18=>4|19=>5|n=>n⟩
theorem Tryd.laysM171:Go.Proofs.LaysM.n171 Tryd.prog Tryd.laysM171_ren:={
 mixed:=by kernel_rfl
 f129:=Tryd.func111.trans (congrArg some (by kernel_rfl))
 f171:=Tryd.func35.trans (congrArg some (by kernel_rfl))
 f243:=Tryd.func63.trans (congrArg some (by kernel_rfl))
 f246:=Tryd.func86.trans (congrArg some (by kernel_rfl))
 f283:=Tryd.func98.trans (congrArg some (by kernel_rfl))
 f284:=Tryd.func99.trans (congrArg some (by kernel_rfl))
 f285:=Tryd.func100.trans (congrArg some (by kernel_rfl))
 f286:=Tryd.func101.trans (congrArg some (by kernel_rfl))
 f317:=Tryd.func110.trans (congrArg some (by kernel_rfl))
 f318:=Tryd.func112.trans (congrArg some (by kernel_rfl))
 f319:=Tryd.func113.trans (congrArg some (by kernel_rfl))
 f320:=Tryd.func114.trans (congrArg some (by kernel_rfl))
 f337:=Tryd.func117.trans (congrArg some (by kernel_rfl))
 f338:=Tryd.func118.trans (congrArg some (by kernel_rfl))
 t0:=Tryd.underlying0
 a0:=Tryd.isAgg0
 z0:=Tryd.sizeOf0
 v0:=Tryd.zeroValue0
 t2:=Tryd.underlying2
 a2:=Tryd.isAgg2
 z2:=Tryd.sizeOf2
 v2:=Tryd.zeroValue2
 t3:=Tryd.underlying3
 a3:=Tryd.isAgg3
 z3:=Tryd.sizeOf3
 v3:=Tryd.zeroValue3
 t4:=Tryd.underlying4
 a4:=Tryd.isAgg4
 z4:=Tryd.sizeOf4
 v4:=Tryd.zeroValue4
 t5:=Tryd.underlying5
 a5:=Tryd.isAgg5
 z5:=Tryd.sizeOf5
 v5:=Tryd.zeroValue5
 t9:=Tryd.underlying9
 a9:=Tryd.isAgg9
 z9:=Tryd.sizeOf9
 v9:=Tryd.zeroValue9
 t20:=Tryd.underlying20
 a20:=Tryd.isAgg20
 z20:=Tryd.sizeOf20
 v20:=Tryd.zeroValue20
 t37:=Tryd.underlying81
 a37:=Tryd.isAgg81
 z37:=Tryd.sizeOf81
 v37:=Tryd.zeroValue81
 t46:=Tryd.underlying143
 a46:=Tryd.isAgg143
 z46:=Tryd.sizeOf143
 v46:=Tryd.zeroValue143
 t51:=Tryd.underlying146
 a51:=Tryd.isAgg146
 z51:=Tryd.sizeOf146
 v51:=Tryd.zeroValue146
 t53:=Tryd.underlying135
 a53:=Tryd.isAgg135
 z53:=Tryd.sizeOf135
 v53:=Tryd.zeroValue135
 t171:=Tryd.underlying134
 a171:=Tryd.isAgg134
 z171:=Tryd.sizeOf134
 v171:=Tryd.zeroValue134
 t173:=Tryd.underlying138
 a173:=Tryd.isAgg138
 z173:=Tryd.sizeOf138
 v173:=Tryd.zeroValue138
 t212:=Tryd.underlying145
 a212:=Tryd.isAgg145
 z212:=Tryd.sizeOf145
 v212:=Tryd.zeroValue145
 t213:=Tryd.underlying147
 a213:=Tryd.isAgg147
 z213:=Tryd.sizeOf147
 t232:=Tryd.underlying157
 a232:=Tryd.isAgg157
 z232:=Tryd.sizeOf157
 v232:=Tryd.zeroValue157
 t233:=Tryd.underlying158
 a233:=Tryd.isAgg158
 z233:=Tryd.sizeOf158
 v233:=Tryd.zeroValue158
 g17:=by kernel_rfl
 g18:=by kernel_rfl
 g19:=by kernel_rfl
 i0:=by kernel_rfl
 i2:=by kernel_rfl
 i3:=by kernel_rfl
 i4:=by kernel_rfl
 i5:=by kernel_rfl
 i9:=by kernel_rfl
 i20:=by kernel_rfl
 i37:=by kernel_rfl
 i46:=by kernel_rfl
 i51:=by kernel_rfl
 i53:=by kernel_rfl
 i171:=by kernel_rfl
 i173:=by kernel_rfl
 i212:=by kernel_rfl
 i232:=by kernel_rfl
 i233:=by kernel_rfl
 m17:=by kernel_rfl
 m18:=by kernel_rfl
 m19:=by kernel_rfl}
open Go.RowKit Go.Sort Go.Lib in
theorem Tryd.strconv_Itoa (n:Int) (h0: -9223372036854775808≤n) (h1:n≤9223372036854775807) (w:World) (htab:Lib.TabIs Tryd.prog w "internal/strconv.uint64pow10" .u64 Lib.pow10Tab):
  Calls Tryd.prog 35 #[.int .i64 n] w fun e w'=>e= .returned (.string ⟨(Lib.itoa n).toArray⟩)∧∃ k os,w'=grow (w.drewN k) os:=Any.strconv_Itoa Tryd.laysM171 n h0 h1 w htab
def Tryd.lays143_ren:Go.Shelf.Ren:=⟨fun|143=>81|219=>97|217=>106|225=>107|224=>108|267=>109|266=>115|314=>116|n=>n,fun|9=>9|3=>3|4=>4|5=>5|46=>143|146=>154|51=>146|n=>n,fun|1=>0|n=>n⟩
theorem Tryd.lays143:Go.Proofs.Lays.n143 Tryd.prog Tryd.lays143_ren:={
 mixed:=by kernel_rfl
 f143:=Tryd.func81.trans (congrArg some (by kernel_rfl))
 f217:=Tryd.func106.trans (congrArg some (by kernel_rfl))
 f219:=Tryd.func97.trans (congrArg some (by kernel_rfl))
 f224:=Tryd.func108.trans (congrArg some (by kernel_rfl))
 f225:=Tryd.func107.trans (congrArg some (by kernel_rfl))
 f266:=Tryd.func115.trans (congrArg some (by kernel_rfl))
 f267:=Tryd.func109.trans (congrArg some (by kernel_rfl))
 f314:=Tryd.func116.trans (congrArg some (by kernel_rfl))
 t3:=Tryd.underlying3
 a3:=Tryd.isAgg3
 z3:=Tryd.sizeOf3
 v3:=Tryd.zeroValue3
 t4:=Tryd.underlying4
 a4:=Tryd.isAgg4
 z4:=Tryd.sizeOf4
 v4:=Tryd.zeroValue4
 t5:=Tryd.underlying5
 a5:=Tryd.isAgg5
 z5:=Tryd.sizeOf5
 v5:=Tryd.zeroValue5
 t9:=Tryd.underlying9
 a9:=Tryd.isAgg9
 z9:=Tryd.sizeOf9
 v9:=Tryd.zeroValue9
 t46:=Tryd.underlying143
 a46:=Tryd.isAgg143
 z46:=Tryd.sizeOf143
 v46:=Tryd.zeroValue143
 t51:=Tryd.underlying146
 a51:=Tryd.isAgg146
 z51:=Tryd.sizeOf146
 v51:=Tryd.zeroValue146
 t146:=Tryd.underlying154
 a146:=Tryd.isAgg154
 z146:=Tryd.sizeOf154
 v146:=Tryd.zeroValue154
 g1:=by kernel_rfl}
open Go.RowKit Go.Lib in
theorem Tryd.strings_Index (s sub:ByteArray) (m:Int) (w:World) (hs:s.size<4294967281) (hm:w.cell? ⟨0,0,none⟩=some (.int .i64 m)):
  Calls Tryd.prog 81 #[.string s,.string sub] w fun e w'=>e= .returned (.int .i64 (Lib.index s.data.toList sub.data.toList))∧w'=w:=Any.strings_Index Tryd.lays143 s sub m w hs hm
def Tryd.lays138_ren:Go.Shelf.Ren:=⟨fun|138=>80|195=>95|218=>96|143=>81|219=>97|217=>106|225=>107|224=>108|267=>109|266=>115|314=>116|n=>n,fun|9=>9|3=>3|4=>4|5=>5|0=>0|46=>143|146=>154|51=>146|n=>n,fun|1=>0|n=>n⟩
theorem Tryd.lays138:Go.Proofs.Lays.n138 Tryd.prog Tryd.lays138_ren:={
 mixed:=by kernel_rfl
 f138:=Tryd.func80.trans (congrArg some (by kernel_rfl))
 f143:=Tryd.func81.trans (congrArg some (by kernel_rfl))
 f195:=Tryd.func95.trans (congrArg some (by kernel_rfl))
 f217:=Tryd.func106.trans (congrArg some (by kernel_rfl))
 f218:=Tryd.func96.trans (congrArg some (by kernel_rfl))
 f219:=Tryd.func97.trans (congrArg some (by kernel_rfl))
 f224:=Tryd.func108.trans (congrArg some (by kernel_rfl))
 f225:=Tryd.func107.trans (congrArg some (by kernel_rfl))
 f266:=Tryd.func115.trans (congrArg some (by kernel_rfl))
 f267:=Tryd.func109.trans (congrArg some (by kernel_rfl))
 f314:=Tryd.func116.trans (congrArg some (by kernel_rfl))
 t0:=Tryd.underlying0
 a0:=Tryd.isAgg0
 z0:=Tryd.sizeOf0
 v0:=Tryd.zeroValue0
 t3:=Tryd.underlying3
 a3:=Tryd.isAgg3
 z3:=Tryd.sizeOf3
 v3:=Tryd.zeroValue3
 t4:=Tryd.underlying4
 a4:=Tryd.isAgg4
 z4:=Tryd.sizeOf4
 v4:=Tryd.zeroValue4
 t5:=Tryd.underlying5
 a5:=Tryd.isAgg5
 z5:=Tryd.sizeOf5
 v5:=Tryd.zeroValue5
 t9:=Tryd.underlying9
 a9:=Tryd.isAgg9
 z9:=Tryd.sizeOf9
 v9:=Tryd.zeroValue9
 t46:=Tryd.underlying143
 a46:=Tryd.isAgg143
 z46:=Tryd.sizeOf143
 v46:=Tryd.zeroValue143
 t51:=Tryd.underlying146
 a51:=Tryd.isAgg146
 z51:=Tryd.sizeOf146
 v51:=Tryd.zeroValue146
 t146:=Tryd.underlying154
 a146:=Tryd.isAgg154
 z146:=Tryd.sizeOf154
 v146:=Tryd.zeroValue154
 g1:=by kernel_rfl}
open Go.RowKit Go.Lib in
theorem Tryd.strings_Count_any (s sep:ByteArray) (m:Int) (w:World) (hs:s.size<4294967281) (hm:w.cell? ⟨0,0,none⟩=some (.int .i64 m)) (h1:1≤sep.size):
  Calls Tryd.prog 80 #[.string s,.string sep] w fun e w'=>e= .returned (.int .i64 (Lib.countB s sep))∧w'=w:=Any.strings_Count_any Tryd.lays138 s sep m w hs hm h1
def Tryd.lays154_ren:Go.Shelf.Ren:=⟨fun|154=>73|138=>80|165=>74|143=>81|166=>44|197=>92|169=>46|195=>95|218=>96|240=>68|241=>93|219=>97|260=>104|276=>91|277=>105|217=>106|225=>107|224=>108|267=>109|266=>115|314=>116|n=>n,fun|9=>9|3=>3|4=>4|72=>83|0=>0|76=>86|105=>130|21=>21|5=>5|70=>80|20=>20|37=>81|75=>85|127=>106|164=>126|46=>143|119=>150|139=>153|138=>152|146=>154|51=>146|80=>89|n=>n,fun|1=>0|3=>2|4=>3|n=>n⟩
theorem Tryd.lays154:Go.Proofs.Lays.n154 Tryd.prog Tryd.lays154_ren:={
 mixed:=by kernel_rfl
 f138:=Tryd.func80.trans (congrArg some (by kernel_rfl))
 f143:=Tryd.func81.trans (congrArg some (by kernel_rfl))
 f154:=Tryd.func73.trans (congrArg some (by kernel_rfl))
 f165:=Tryd.func74.trans (congrArg some (by kernel_rfl))
 f166:=Tryd.func44.trans (congrArg some (by kernel_rfl))
 f169:=Tryd.func46.trans (congrArg some (by kernel_rfl))
 f195:=Tryd.func95.trans (congrArg some (by kernel_rfl))
 f197:=Tryd.func92.trans (congrArg some (by kernel_rfl))
 f217:=Tryd.func106.trans (congrArg some (by kernel_rfl))
 f218:=Tryd.func96.trans (congrArg some (by kernel_rfl))
 f219:=Tryd.func97.trans (congrArg some (by kernel_rfl))
 f224:=Tryd.func108.trans (congrArg some (by kernel_rfl))
 f225:=Tryd.func107.trans (congrArg some (by kernel_rfl))
 f240:=Tryd.func68.trans (congrArg some (by kernel_rfl))
 f241:=Tryd.func93.trans (congrArg some (by kernel_rfl))
 f260:=Tryd.func104.trans (congrArg some (by kernel_rfl))
 f266:=Tryd.func115.trans (congrArg some (by kernel_rfl))
 f267:=Tryd.func109.trans (congrArg some (by kernel_rfl))
 f276:=Tryd.func91.trans (congrArg some (by kernel_rfl))
 f277:=Tryd.func105.trans (congrArg some (by kernel_rfl))
 f314:=Tryd.func116.trans (congrArg some (by kernel_rfl))
 t0:=Tryd.underlying0
 a0:=Tryd.isAgg0
 z0:=Tryd.sizeOf0
 v0:=Tryd.zeroValue0
 t3:=Tryd.underlying3
 a3:=Tryd.isAgg3
 z3:=Tryd.sizeOf3
 v3:=Tryd.zeroValue3
 t4:=Tryd.underlying4
 a4:=Tryd.isAgg4
 z4:=Tryd.sizeOf4
 v4:=Tryd.zeroValue4
 t5:=Tryd.underlying5
 a5:=Tryd.isAgg5
 z5:=Tryd.sizeOf5
 v5:=Tryd.zeroValue5
 t9:=Tryd.underlying9
 a9:=Tryd.isAgg9
 z9:=Tryd.sizeOf9
 v9:=Tryd.zeroValue9
 t20:=Tryd.underlying20
 a20:=Tryd.isAgg20
 z20:=Tryd.sizeOf20
 v20:=Tryd.zeroValue20
 t21:=Tryd.underlying21
 a21:=Tryd.isAgg21
 z21:=Tryd.sizeOf21
 v21:=Tryd.zeroValue21
 t37:=Tryd.underlying81
 a37:=Tryd.isAgg81
 z37:=Tryd.sizeOf81
 v37:=Tryd.zeroValue81
 t46:=Tryd.underlying143
 a46:=Tryd.isAgg143
 z46:=Tryd.sizeOf143
 v46:=Tryd.zeroValue143
 t51:=Tryd.underlying146
 a51:=Tryd.isAgg146
 z51:=Tryd.sizeOf146
 v51:=Tryd.zeroValue146
 t70:=Tryd.underlying80
 a70:=Tryd.isAgg80
 z70:=Tryd.sizeOf80
 v70:=Tryd.zeroValue80
 t72:=Tryd.underlying83
 a72:=Tryd.isAgg83
 z72:=Tryd.sizeOf83
 v72:=Tryd.zeroValue83
 t75:=Tryd.underlying85
 a75:=Tryd.isAgg85
 z75:=Tryd.sizeOf85
 v75:=Tryd.zeroValue85
 t76:=Tryd.underlying86
 a76:=Tryd.isAgg86
 z76:=Tryd.sizeOf86
 v76:=Tryd.zeroValue86
 t105:=Tryd.underlying130
 a105:=Tryd.isAgg130
 z105:=Tryd.sizeOf130
 v105:=Tryd.zeroValue130
 t119:=Tryd.underlying150
 a119:=Tryd.isAgg150
 z119:=Tryd.sizeOf150
 t127:=Tryd.underlying106
 a127:=Tryd.isAgg106
 z127:=Tryd.sizeOf106
 v127:=Tryd.zeroValue106
 t138:=Tryd.underlying152
 a138:=Tryd.isAgg152
 z138:=Tryd.sizeOf152
 v138:=Tryd.zeroValue152
 t139:=Tryd.underlying153
 a139:=Tryd.isAgg153
 z139:=Tryd.sizeOf153
 v139:=Tryd.zeroValue153
 t146:=Tryd.underlying154
 a146:=Tryd.isAgg154
 z146:=Tryd.sizeOf154
 v146:=Tryd.zeroValue154
 t164:=Tryd.underlying126
 a164:=Tryd.isAgg126
 z164:=Tryd.sizeOf126
 v164:=Tryd.zeroValue126
 g1:=by kernel_rfl
 g3:=by kernel_rfl
 g4:=by kernel_rfl}
theorem Tryd.Builder_Extra_154:Builder.Extra Tryd.prog Tryd.lays154_ren:={
 sizeBuilder:=by kernel_rfl
 liesBuilder:=by kernel_rfl
 t5:=Tryd.underlying5
 a5:=Tryd.isAgg5
 z5:=Tryd.sizeOf5
 v5:=Tryd.zeroValue5
 infoByte:=by kernel_rfl
 cellsByte:=by kernel_rfl
 sizeByte:=by kernel_rfl
 neB5:=by decide}
open Go.RowKit Go.Lib in
theorem Tryd.strings_Replace (s old new:ByteArray) (n:Int) (m:Int) (w:World) (hs:s.size<4294967281) (hm:w.cell? ⟨0,0,none⟩=some (.int .i64 m)) (h1:1≤old.size) (hlen:s.size+Lib.countB s old*new.size≤140737488355328):
  Calls Tryd.prog 73 #[.string s,.string old,.string new,.int .i64 n] w fun e w'=>
   e= .returned (.string ⟨(Lib.replace s.data.toList old.data.toList new.data.toList n).toArray⟩)∧Below w.heap.size w w':=Any.strings_Replace Tryd.lays154 Tryd.Builder_Extra_154 s old new n m w hs hm h1 hlen
end Go.Proofs
namespace Go.Proofs.YtimmmnanllcfoaaDoor
open Go Go.Itp
open Go.RowKit (Below)
set_option maxRecDepth 100000
set_option linter.unusedVariables false
theorem own:ownKnob Tryd.prog.godebug=none:=by kernel_rfl
theorem mixed:Tryd.prog.follows .mixedOrders=true:=by kernel_rfl
def UN:List (FuncId × KD × TypeId):= [(91,.same,0),(115,.indexByte,0),(96,.count,0),(105,.makeNoZero,5)]
theorem aE5:uN Tryd.prog UN:=
 ⟨⟨⟨Tryd.f91,Tryd.func91,by kernel_rfl,by kernel_rfl,by kernel_rfl,rfl⟩⟩,⟨⟨Tryd.f115,Tryd.func115,by kernel_rfl,by kernel_rfl,by kernel_rfl,rfl⟩⟩,⟨⟨Tryd.f96,Tryd.func96,by kernel_rfl,by kernel_rfl,by kernel_rfl,rfl⟩⟩,
  ⟨⟨Tryd.f105,Tryd.func105,by kernel_rfl,by kernel_rfl,#[3],81,by kernel_rfl,rfl,Tryd.underlying81⟩⟩,trivial⟩
def cB2:FuncId→List Value→St→Option (Value × List v8):=U6 (fnP 81 NI) (U6 (fnP 80 LK) (fnP 73 yN))
def BM (w:World):Prop:=∃ m:Int,w.cell? ⟨0,0,none⟩=some (.int .i64 m)
theorem BM.below {w w':World} (h:BM w) (hb:Below w.heap.size w w'):BM w':=by
 obtain ⟨m,h⟩:=h
 exact ⟨m,by rw[hb.cell (World.block_lt_of_cell? _ _ h)];exact h⟩
theorem bE6 {w0:World} (h:BM w0):R8 Tryd.prog cB2 w0:=by
 refine dS (TJ ⟨Tryd.f81,_,Tryd.func81,rfl,by kernel_rfl⟩ ?_ ?_) (dS (TJ ⟨Tryd.f80,_,Tryd.func80,rfl,by kernel_rfl⟩ ?_ ?_) (TJ ⟨Tryd.f73,_,Tryd.func73,rfl,by kernel_rfl⟩ ?_ ?_))
 ·intro xs v e
  unfold NI at e
  split at e
  ·split at e
   ·cases e;exact ⟨rfl,rfl⟩
   ·cases e
  ·cases e
 ·intro xs v e w hb
  unfold NI at e
  split at e
  ·split at e
   ·cases e
    obtain ⟨m,hm⟩:=h.below hb
    refine (Tryd.strings_Index _ _ m w ‹_› hm).mono fun e w' ⟨h1,h2⟩=>⟨h1,?_⟩
    rw[h2];exact Below.refl _ _
   ·cases e
  ·cases e
 ·intro xs v e
  unfold LK at e
  split at e
  ·split at e
   ·cases e;exact ⟨rfl,rfl⟩
   ·cases e
  ·cases e
 ·intro xs v e w hb
  unfold LK at e
  split at e
  ·split at e
   ·rename_i hc
    cases e
    obtain ⟨m,hm⟩:=h.below hb
    refine (Tryd.strings_Count_any _ _ m w hc.1 hm hc.2).mono fun e w' ⟨h1,h2⟩=>⟨h1,?_⟩
    rw[h2];exact Below.refl _ _
   ·cases e
  ·cases e
 ·intro xs v e
  unfold yN at e
  split at e
  ·split at e
   ·cases e;exact ⟨rfl,rfl⟩
   ·cases e
  ·cases e
 ·intro xs v e w hb
  unfold yN at e
  split at e
  ·split at e
   ·rename_i hc
    cases e
    obtain ⟨m,hm⟩:=h.below hb
    exact Tryd.strings_Replace _ _ _ _ m w hc.1 hm hc.2.1 hc.2.2
   ·cases e
  ·cases e
noncomputable abbrev PR (w:World):FuncId→List Value→St→Option (Value × List v8):=
 U6 (pG UN) (U6 cB2 (U6 (NN 35) (DM (aN w) 52)))
noncomputable abbrev EN (w:World) (n:Nat):E5:=v6 (aN w) F4 fns (PR w) n
abbrev Tab (w:World):Prop:=Lib.TabIs Tryd.prog w "internal/strconv.uint64pow10" .u64 Lib.pow10Tab∧BM w
theorem aT2 (W:World) (ht:Tab W):R8 Tryd.prog (PR W) W:=
 dS (yB UN aE5 W) (dS (bE6 ht.2) (dS
  (aQ4 ⟨Tryd.f35,_,Tryd.func35,rfl,by kernel_rfl⟩ ht.1 Tryd.strconv_Itoa)
  (aQ5 ⟨Tryd.f52,_,Tryd.func52,rfl,by kernel_rfl⟩ (OI W) Tryd.strings_Join_none Tryd.strings_Join)))
theorem bR2 {W:World} (ht:Tab W) {f:FuncId} {af:s5} (hf:fns f=some af) {xs:List Value} (hxs:y8 0 xs= []) (n:Nat) {v:Value} {s':St} (hb:body (EN W n) af xs St.empty=some (v,s')) (hv:u6 0 v= []):
  Calls Tryd.prog f xs.toArray W fun e w'=>e= .returned v∧Below W.heap.size W w':=
 bR1 mixed bQ2 (OI W) (aT2 W ht) hf hxs n hb hv
theorem TP (w:World) (n:Nat) (st:m9) (k:Int) (h0: -9223372036854775808≤k) (h1:k≤9223372036854775807):H3 (EN w (n+1)) 35 st [.sc (.int .i64 k)] (.sc (.string ⟨(Lib.itoa k).toArray⟩)):=
 bQ5 h0 h1 fun xs s r h=>D4 rfl (D4 rfl (S9 h))
theorem bQ7 (w:World) (n:Nat) (st:m9) (s:Nat) (hs:s ≠ 1) (ls:List (List UInt8)) (sep:List UInt8) (hl:ls.length≤1099511627776) (hlen:(Lib.join ls sep).length≤140737488355328):
  H3 (EN w (n+1)) 52 st [.sl s ls.length (ls.map sD),.sc (.string ⟨sep.toArray⟩)] (.sc (.string ⟨(Lib.join ls sep).toArray⟩)):=
 bQ6 s hs ls sep hl hlen fun xs s r h=>D4 rfl (D4 rfl (D4 rfl h))
abbrev o8 (l:List UInt8):V:= .sc (.string ⟨l.toArray⟩)
theorem XS (w:World) (n:Nat) (st:m9) (l t:List UInt8) (hl:l.length≤1000000000):H3 (EN w (n+1)) 81 st [o8 l,o8 t] (.sc (.int .i64 (Lib.index l t))):=
 bQ1 (F:=NI) (v:= .int .i64 (Lib.index l t)) (ys:= [.string ⟨l.toArray⟩,.string ⟨t.toArray⟩]) (by simp only[NI];rw[if_pos (by rw[s8];omega)]) rfl fun xs s r h=>D4 rfl (S9 (S9 h))
theorem WJ (w:World) (n:Nat) (st:m9) (l t:List UInt8) (hl:l.length≤1000000000) (ht:1≤t.length):H3 (EN w (n+1)) 80 st [o8 l,o8 t] (.sc (.int .i64 (Lib.countB ⟨l.toArray⟩ ⟨t.toArray⟩))):=
 bQ1 (F:=LK) (v:= .int .i64 (Lib.countB ⟨l.toArray⟩ ⟨t.toArray⟩)) (ys:= [.string ⟨l.toArray⟩,.string ⟨t.toArray⟩]) (by simp only[LK];rw[if_pos ⟨by rw[s8];omega,by rw[s8];omega⟩]) rfl fun xs s r h=>D4 rfl (S9 (D4 rfl (S9 h)))
theorem UU (w:World) (n:Nat) (st:m9) (l t u:List UInt8) (k:Int) (hl:l.length≤1000000) (ht:1≤t.length) (hu:l.length+Lib.countB ⟨l.toArray⟩ ⟨t.toArray⟩*u.length≤140737488355328):H3 (EN w (n+1)) 73 st [o8 l,o8 t,o8 u,.sc (.int .i64 k)] (o8 (Lib.replace l t u k)):=
 bQ1 (F:=yN) (v:= .string ⟨(Lib.replace l t u k).toArray⟩) (ys:= [.string ⟨l.toArray⟩,.string ⟨t.toArray⟩,.string ⟨u.toArray⟩,.int .i64 k]) (by simp only[yN];rw[if_pos ⟨by rw[s8];omega,by rw[s8];omega,by rw[s8,s8];exact hu⟩]) rfl fun xs s r h=>D4 rfl (S9 (D4 rfl (D4 rfl h)))
end Go.Proofs.YtimmmnanllcfoaaDoor
namespace Go.Itp
set_option linter.unusedVariables false
set_option linter.unusedSimpArgs false
set_option maxRecDepth 10000
structure p9 where
 kind:Nat
 purl:Bool
 a:Int
 b:Int
abbrev cD9:List UInt8:= [107,110,105,116]
abbrev ZX:List UInt8:= [112,117,114,108]
abbrev bA5:List UInt8:= [115,108,105,112]
abbrev bO1:List UInt8:= [119,105,116,104]
abbrev RT:List UInt8:= [121,97,114,110]
abbrev wIn:List UInt8:= [105,110]
abbrev JV:List UInt8:= [102,114,111,110,116]
abbrev bO0:List UInt8:= [111,118,101,114]
abbrev bV8:List UInt8:= [116,111,103,101,116,104,101,114]
abbrev bA3:List UInt8:= [40,102,105,114,115,116]
abbrev wOn:List UInt8:= [111,110]
abbrev cE2:List UInt8:= [116,111,112,41]
abbrev bA4:List UInt8:= [109,97,107,101]
abbrev cE1:List UInt8:= [111,117,116]
abbrev wOf:List UInt8:= [111,102]
abbrev w1:List UInt8:= [49]
abbrev RS:List UInt8:= [112,117,114,108,119,105,115,101]
abbrev JU:List UInt8:= [99,114,111,115,115]
abbrev ZW:List UInt8:= [98,101,104,105,110,100]
abbrev bA2:List UInt8:= [99,97,115,116]
abbrev bA1:List UInt8:= [98,105,110,100]
abbrev cE0:List UInt8:= [111,102,102]
abbrev V7:List UInt8:= [116,105,109,101,115]
theorem p9.ext' {x y:p9} (h1:x.kind=y.kind) (h2:x.purl=y.purl) (h3:x.a=y.a) (h4:x.b=y.b):x=y:=by
 cases x;cases y;simp_all
instance:DecidableEq p9:=fun x y=>decidable_of_iff (x.kind=y.kind∧x.purl=y.purl∧x.a=y.a∧x.b=y.b) ⟨fun ⟨h1,h2,h3,h4⟩=>p9.ext' h1 h2 h3 h4,fun h=>by subst h;exact ⟨rfl,rfl,rfl,rfl⟩⟩
def tW:p9:=⟨0,false,0,0⟩
instance:Inhabited p9:=⟨tW⟩
def G4 (x:p9):Prop:=
 (x.kind=1∨x.kind=8)∧x.a=0∧x.b=0∨
 x.kind=2∧x.purl=false∧x.a=0∧x.b=0∨
 (x.kind=3∨x.kind=4∨x.kind=5)∧2≤x.a∧x.a≤4∧x.b=0∨
 (x.kind=6∨x.kind=7)∧(1≤x.a∧x.a≤6)∧1≤x.b∧x.b≤6∨
 x.kind=9∧x.purl=false∧1≤x.a∧x.a≤200∧x.b=0∨
 x.kind=10∧1≤x.a∧x.a≤200∧x.b=0
instance cD2 (x:p9):Decidable (G4 x):=by unfold G4;infer_instance
def C7 (x:p9):Bool:=decide (G4 x)
theorem D8 {x:p9}:C7 x=true↔G4 x:=by unfold C7;exact decide_eq_true_iff
theorem G4.bounds {x:p9} (h:G4 x):1≤x.kind∧x.kind≤10∧0≤x.a∧x.a≤200∧0≤x.b∧x.b≤6:=by
 unfold G4 at h
 omega
def pR (p:Bool):List UInt8:=if p=true then ZX else cD9
def mD (p:Bool):List (List UInt8):=if p=true then [RS] else []
def gE (x:p9) (n:Int):List (List UInt8):=match x.kind with
 |1=> [pR x.purl,Lib.itoa n]
 |2=> [RT,bO0]
 |3=> [pR x.purl,Lib.itoa x.a,bV8,bA3,wOn,cE2]
 |4=> [pR x.purl,Lib.itoa x.a,bV8]
 |5=> [bA4,Lib.itoa x.a,cE1,wOf,w1]++mD x.purl
 |6=> [JU,Lib.itoa x.a,wIn,JV,wOf,Lib.itoa x.b]++mD x.purl
 |7=> [JU,Lib.itoa x.a,ZW,Lib.itoa x.b]++mD x.purl
 |8=> [bA5,Lib.itoa n]++if x.purl=true then [bO1,RT,wIn,JV] else []
 |9=> [bA2,wOn,Lib.itoa x.a]
 |_=> [bA1,cE0,Lib.itoa x.a]++mD x.purl
def zS (x:p9) (n:Int):List (List UInt8):=if 1<n∧x.kind ≠ 1∧x.kind ≠ 8 then [Lib.itoa n,V7] else []
def U7 (x:p9) (n:Int):List (List UInt8):=gE x n++zS x n
def B8 (x:p9) (n:Int):List UInt8:=join 32 (U7 x n)
theorem aS {z:Int} (h:0≤z) (c:UInt8) (hc:B6 c=false):c ∉ Lib.itoa z:=fun hm=>by
 rw[NO h c hm] at hc;cases hc
theorem S3 {z:Int} (h:0≤z) {c:UInt8} {l:List UInt8} (hc:B6 c=false):Lib.itoa z ≠ c::l:=fun e=>aS h c hc (by rw[e];simp)
def tH (w:List UInt8):Prop:=(32:UInt8) ∉ w∧(44:UInt8) ∉ w∧(10:UInt8) ∉ w∧w ≠ []
theorem xW {z:Int} (h:0≤z):tH (Lib.itoa z):=⟨aS h _ (by decide),aS h _ (by decide),aS h _ (by decide),oS⟩
instance cH0 (w:List UInt8):Decidable (tH w):=by unfold tH;infer_instance
theorem nB {x:p9} {n:Int} (hx:G4 x) (hn:0≤n):∀ w ∈ U7 x n,tH w:=by
 have hb:=hx.bounds
 have h1:=xW (z:=n) hn
 have h2:=xW (z:=x.a) (by omega)
 have h3:=xW (z:=x.b) (by omega)
 have hs:∀ p,tH (pR p):=by intro p;cases p<;>decide
 have hw:∀ p,∀ w ∈ mD p,tH w:=by intro p;cases p<;>decide
 have hf:∀ p:Bool,∀ w ∈ (if p=true then [bO1,RT,wIn,JV] else []),tH w:=by intro p;cases p<;>decide
 have hc:tH RT∧tH bO0∧tH bV8∧tH bA3∧tH wOn∧tH cE2∧tH bA4∧tH cE1∧tH wOf∧tH w1∧tH JU∧tH wIn∧tH JV∧tH ZW∧tH bA5∧tH bA2∧tH bA1∧tH cE0∧tH V7:=by decide
 obtain ⟨c1,c2,c3,c4,c5,c6,c7,c8,c9,c10,c11,c12,c13,c14,c15,c16,c17,c18,c19⟩:=hc
 intro w hm
 unfold U7 at hm
 rcases List.mem_append.1 hm with hm|hm
 ·obtain ⟨k,p,a,b⟩:=x
  unfold gE at hm
  simp only at hm h2 h3 hb
  split at hm
  all_goals
   simp only[List.cons_append,List.nil_append,List.mem_cons,List.not_mem_nil,or_false] at hm
  ·rcases hm with rfl|rfl<;>first|exact hs p|assumption
  ·rcases hm with rfl|rfl<;>assumption
  ·rcases hm with rfl|rfl|rfl|rfl|rfl|rfl<;>first|exact hs p|assumption
  ·rcases hm with rfl|rfl|rfl<;>first|exact hs p|assumption
  ·rcases hm with rfl|rfl|rfl|rfl|rfl|hm<;>first|exact hw p w hm|assumption
  ·rcases hm with rfl|rfl|rfl|rfl|rfl|rfl|hm<;>first|exact hw p w hm|assumption
  ·rcases hm with rfl|rfl|rfl|rfl|hm<;>first|exact hw p w hm|assumption
  ·rcases hm with rfl|rfl|hm<;>first|exact hf p w hm|assumption
  ·rcases hm with rfl|rfl|rfl<;>assumption
  ·rcases hm with rfl|rfl|rfl|hm<;>first|exact hw p w hm|assumption
 ·unfold zS at hm
  split at hm
  ·simp only[List.mem_cons,List.not_mem_nil,or_false] at hm
   rcases hm with rfl|rfl<;>assumption
  ·cases hm
theorem KQ (x:p9) (n:Int):gE x n ≠ []:=by
 unfold gE;split<;>simp
theorem UL (x:p9) (n:Int):U7 x n ≠ []:=by
 unfold U7;simp[KQ]
theorem lU {x:p9} {n:Int} (hx:G4 x) (hn:0≤n):p5 32 (B8 x n)=U7 x n:=
 nP (UL x n) fun w hw=>(nB hx hn w hw).1
def OD (l:List UInt8):Int:=match Lib.atoiAll l with
 | .ok v=>v
 |_=>0
theorem kP {z:Int} (h0:0≤z) (h1:z≤1000000):OD (Lib.itoa z)=z:=by
 unfold OD;rw[aA9 h0 (by omega)]
def aD8 (ws:List (List UInt8)):List (List UInt8) × Int:=match ws.reverse with
 |t::n::r=>if t=V7 then (r.reverse,OD n) else (ws,1)
 |_=>(ws,1)
def bD3 (ws:List (List UInt8)) (n:Int):p9 × Int:=
 let h:=ws.headD []
 let at1:=OD (ws.getD 1 [])
 let ws2:=decide (RS ∈ ws)
 if h=RT then (⟨2,false,0,0⟩,n)
 else if h=bA4 then (⟨5,ws2,at1,0⟩,n)
 else if h=JU then (if ws.getD 2 []=wIn then (⟨6,ws2,at1,OD (ws.getD 5 [])⟩,n) else (⟨7,ws2,at1,OD (ws.getD 3 [])⟩,n))
 else if h=bA2 then (⟨9,false,OD (ws.getD 2 []),0⟩,n)
 else if h=bA1 then (⟨10,ws2,OD (ws.getD 2 []),0⟩,n)
 else if h=bA5 then (⟨8,decide (2<ws.length),0,0⟩,at1)
 else if ws.length=2 then (⟨1,decide (h=ZX),0,0⟩,at1)
 else if ws.length=3 then (⟨4,decide (h=ZX),at1,0⟩,n)
 else (⟨3,decide (h=ZX),at1,0⟩,n)
def bD4 (ws:List (List UInt8)):p9 × Int:=bD3 (aD8 ws).1 (aD8 ws).2
theorem UD (B:List (List UInt8)) {n:Int} (h0:0≤n) (h1:n≤1000000):aD8 (B++ [Lib.itoa n,V7])=(B,n):=by
 unfold aD8
 simp only[List.reverse_append,List.reverse_cons,List.reverse_nil,List.nil_append,List.cons_append,List.reverse_reverse,if_true,kP h0 h1]
theorem CL {x:p9} {n:Int} (hx:G4 x) (h0:0≤n) (h1:n≤1000) (m:Int) (hm:x.kind ≠ 1→x.kind ≠ 8→m=n):bD3 (gE x n) m=(x,n):=by
 have hb:=hx.bounds
 have n1:=kP (z:=n) h0 (by omega)
 have n2:=kP (z:=x.a) (by omega) (by omega)
 have n3:=kP (z:=x.b) (by omega) (by omega)
 have q1:Lib.itoa n ≠ RS:=S3 h0 (by decide)
 have q2:Lib.itoa x.a ≠ RS:=S3 (by omega) (by decide)
 have q3:Lib.itoa x.b ≠ RS:=S3 (by omega) (by decide)
 obtain ⟨k,p,a,b⟩:=x
 unfold G4 at hx
 simp only at hx n1 n2 n3 q1 q2 q3 hm
 have r2:=Ne.symm q2
 have r3:=Ne.symm q3
 rcases hx with ⟨rfl|rfl,rfl,rfl⟩|⟨rfl,rfl,rfl,rfl⟩|⟨rfl|rfl|rfl,h2,h3,rfl⟩|⟨rfl|rfl,h2,h3⟩|⟨rfl,rfl,h2,h3,rfl⟩|⟨rfl,h2,h3,rfl⟩
 all_goals
  try (have hm:=hm (by decide) (by decide);subst hm)
  first
  |(cases p<;>simp[bD3,gE,pR,mD,n1,n2,n3,r2,r3])
  |simp[bD3,gE,pR,mD,n1,n2,n3,r2,r3]
theorem aD9 (B:List (List UInt8)) (h:∀ w,B.getLast? =some w→w ≠ V7):aD8 B=(B,1):=by
 unfold aD8
 cases hr:B.reverse with
 |nil=>rfl
 |cons t r=>
  have hl:B.getLast? =some t:=by rw[← List.head?_reverse,hr];rfl
  cases r with
  |nil=>rfl
  |cons n r=>simp only[if_neg (h t hl)]
theorem LT {x:p9} {n:Int} (hx:G4 x) (h0:1≤n) (h1:n≤1000):bD4 (U7 x n)=(x,n):=by
 unfold bD4 U7 zS
 by_cases ht:1<n∧x.kind ≠ 1∧x.kind ≠ 8
 ·rw[if_pos ht,UD _ (by omega) (by omega)]
  exact CL hx (by omega) h1 n fun _ _=>rfl
 ·rw[if_neg ht,List.append_nil,aD9]
  ·exact CL hx (by omega) h1 1 fun a b=>by
    have:¬ 1<n:=fun h=>ht ⟨h,a,b⟩
    omega
  ·have hb:=hx.bounds
   have q1:Lib.itoa n ≠ V7:=S3 (by omega) (by decide)
   have q2:Lib.itoa x.a ≠ V7:=S3 (by omega) (by decide)
   have q3:Lib.itoa x.b ≠ V7:=S3 (by omega) (by decide)
   have r1:=Ne.symm q1
   have r2:=Ne.symm q2
   have r3:=Ne.symm q3
   intro w hw e
   subst e
   obtain ⟨k,p,a,b⟩:=x
   simp only at r1 r2 r3
   unfold gE at hw
   simp only at hw
   split at hw
   all_goals
    revert hw
    cases p<;>simp[mD,pR,q1,q2,q3,r1,r2,r3]
def dU (s:List UInt8):Option (p9 × Int):=
 let r:=bD4 (p5 32 s)
 if G4 r.1∧(1≤r.2∧r.2≤200)∧B8 r.1 r.2=s then some r else none
theorem yK {s:List UInt8} {x:p9} {n:Int} (h:dU s=some (x,n)):G4 x∧(1≤n∧n≤200)∧B8 x n=s:=by
 unfold dU at h
 generalize bD4 (p5 32 s)=r at h
 simp only at h
 split at h
 ·rename_i hc
  cases h
  exact hc
 ·cases h
theorem pK {x:p9} {n:Int} (hx:G4 x) (h0:1≤n) (h1:n≤200):dU (B8 x n)=some (x,n):=by
 unfold dU
 simp only[lU hx (by omega:0≤n),LT hx h0 (by omega:n≤1000)]
 rw[if_pos ⟨hx,⟨h0,h1⟩,trivial⟩]
end Go.Itp
namespace Go.Itp
set_option linter.unusedVariables false
set_option linter.unusedSimpArgs false
set_option maxRecDepth 10000
def P6 (x:p9):Int:=if x.kind=2∨x.kind=9 then 0 else if x.kind=3∨x.kind=4∨x.kind=10 then x.a else if x.kind=6∨x.kind=7 then x.a+x.b else 1
def P5 (x:p9):Int:=if x.kind=10 then 0 else if x.kind=5∨x.kind=9 then x.a else if x.kind=6∨x.kind=7 then x.a+x.b else 1
def Q1 (f:p9→Int):List p9→Int
 | []=>0
 |x::l=>f x+Q1 f l
def K9 (L:List p9):Int:=if 200<L.length then 4 else if L.all C7=true then (if 200<Q1 P6 L∨200<Q1 P5 L then 4 else 0) else 8
def F5:List p9→List (p9 × Nat)
 | []=> []
 |x::l=>match F5 l with
  | []=> [(x,1)]
  |(y,n)::r=>if y=x then (x,n+1)::r else (x,1)::(y,n)::r
def phr (r:p9 × Nat):List UInt8:=B8 r.1 r.2
def TQ:List (List UInt8)→List UInt8
 | []=> []
 | [w]=>w
 |w::ws=>w++44::32::TQ ws
theorem bU (w:List UInt8) {ws:List (List UInt8)} (h:ws ≠ []):TQ (w::ws)=w++44::32::TQ ws:=by
 cases ws with
 |nil=>exact absurd rfl h
 |cons a r=>rfl
theorem TR:∀ ws,TQ ws=Lib.join ws [44,32]
 | []=>rfl
 | [w]=>by simp[TQ,Lib.join,List.intercalate]
 |w::v::ws=>by
  rw[bU w (by simp),TR (v::ws)]
  simp[Lib.join,List.intercalate]
def L6:List UInt8:= [110,111,116,104,105,110,103]
def A0 (L:List p9):List UInt8:=if L= [] then L6 else TQ ((F5 L).map phr)
def p7 (L:List p9):List UInt8 × Int:=if K9 L=0 then (if 2000<(A0 L).length then ([],4) else (A0 L,0)) else ([],K9 L)
theorem L0 {L:List p9} (h:K9 L=0):L.length≤200∧L.all C7=true∧Q1 P6 L≤200∧Q1 P5 L≤200:=by
 unfold K9 at h
 split at h
 ·exact absurd h (by decide)
 split at h
 ·split at h
  ·exact absurd h (by decide)
  ·rename_i h1 h2 h3
   exact ⟨by omega,h2,by omega,by omega⟩
 ·exact absurd h (by decide)
def lM (R:List (p9 × Nat)):List p9:=R.flatMap fun r=>List.replicate r.2 r.1
theorem cC:∀ L,lM (F5 L)=L
 | []=>rfl
 |x::l=>by
  have ih:=cC l
  rw[F5]
  cases hr:F5 l with
  |nil=>rw[hr] at ih;simp[lM] at ih ⊢;exact ih
  |cons y r=>
   obtain ⟨y,n⟩:=y
   rw[hr] at ih
   simp only[lM,List.flatMap_cons] at ih
   by_cases e:y=x
   ·simp only[if_pos e,lM,List.flatMap_cons,List.replicate_succ,List.cons_append]
    rw[← e,ih]
   ·simp only[if_neg e,lM,List.flatMap_cons]
    rw[ih];rfl
theorem bE:∀ L,∀ r ∈ F5 L,1≤r.2∧r.2≤L.length∧r.1 ∈ L
 | [],r,h=>by cases h
 |x::l,r,h=>by
  have ih:=bE l
  rw[F5] at h
  cases hr:F5 l with
  |nil=>
   rw[hr] at h
   simp only[List.mem_singleton] at h
   subst h
   simp
  |cons y q=>
   obtain ⟨y,n⟩:=y
   rw[hr] at h ih
   simp only at h
   have h1:=ih (y,n) (by simp)
   split at h
   ·rcases List.mem_cons.1 h with rfl|h
    ·simp only[List.length_cons,List.mem_cons,true_or,and_true];omega
    ·have:=ih r (List.mem_cons_of_mem _ h)
     exact ⟨this.1,by simp;omega,List.mem_cons_of_mem _ this.2.2⟩
   ·rcases List.mem_cons.1 h with rfl|h
    ·simp
    ·have:=ih r h
     exact ⟨this.1,by simp;omega,List.mem_cons_of_mem _ this.2.2⟩
theorem cD {L:List p9} (h:L ≠ []):F5 L ≠ []:=fun e=>h (by rw[← cC L,e];rfl)
theorem mT (r:p9 × Nat) (R:List (p9 × Nat)):lM (r::R)=List.replicate r.2 r.1++lM R:=rfl
def vM (c:UInt8):List (List UInt8)→List (List UInt8)
 | []=> [[c]]
 |w::ws=>(c::w)::ws
def u7:List UInt8→List (List UInt8)
 | []=> [[]]
 | [c]=> [[c]]
 |c::d::r=>if c=44∧d=32 then []::u7 r else vM c (u7 (d::r))
theorem rR:∀ s,u7 s ≠ []
 | []=>by simp[u7]
 | [c]=>by simp[u7]
 |c::d::r=>by
  rw[u7]
  split
  ·simp
  ·cases u7 (d::r)<;>simp[vM]
theorem aA {c d:UInt8} {r:List UInt8} (h:¬ (c=44∧d=32)):u7 (c::d::r)=vM c (u7 (d::r)):=by rw[u7,if_neg h]
theorem tO:∀ {w:List UInt8},(44:UInt8) ∉ w→u7 w= [w]
 | [],_=>rfl
 | [c],_=>rfl
 |c::d::r,h=>by
  rw[aA (fun e=>h (by rw[e.1];simp)),tO (fun e=>h (List.mem_cons_of_mem _ e))]
  rfl
theorem zI:∀ {w:List UInt8} (r:List UInt8),(44:UInt8) ∉ w→u7 (w++44::32::r)=w::u7 r
 | [],r,_=>by rw[List.nil_append,u7,if_pos ⟨rfl,rfl⟩]
 | [c],r,h=>by
  rw[List.cons_append,List.nil_append,aA (fun e=>h (by rw[e.1];simp)),u7,if_pos ⟨rfl,rfl⟩]
  rfl
 |c::d::w,r,h=>by
  have ih:=zI (w:=d::w) r (fun e=>h (List.mem_cons_of_mem _ e))
  rw[List.cons_append] at ih
  rw[List.cons_append,List.cons_append,aA (fun e=>h (by rw[e.1];simp)),ih]
  rfl
theorem jM:∀ {ws:List (List UInt8)},ws ≠ []→(∀ w ∈ ws,(44:UInt8) ∉ w)→u7 (TQ ws)=ws
 | [],h,_=>absurd rfl h
 | [w],_,h=>tO (h w (by simp))
 |w::v::ws,_,h=>by
  rw[bU w (by simp),zI _ (h w (by simp)),jM (by simp) (fun x hx=>h x (List.mem_cons_of_mem _ hx))]
theorem UK {x:p9} {n:Int} (hx:G4 x) (hn:0≤n):(44:UInt8) ∉ B8 x n∧(10:UInt8) ∉ B8 x n:=by
 have aux:∀ d:UInt8,d ≠ 32→∀ ws:List (List UInt8),(∀ w ∈ ws,d ∉ w)→d ∉ join 32 ws:=by
  intro d hd ws
  induction ws with
  |nil=>intro _;simp[join]
  |cons w ws ih=>
   intro h
   cases ws with
   |nil=>exact h w (by simp)
   |cons v r=>
    rw[join,List.mem_append,List.mem_cons]
    rintro (h1|h1|h1)
    ·exact h w (by simp) h1
    ·exact hd h1
    ·exact ih (fun x hx=>h x (List.mem_cons_of_mem _ hx)) h1
 exact ⟨aux 44 (by decide) _ fun w hw=>(nB hx hn w hw).2.1,aux 10 (by decide) _ fun w hw=>(nB hx hn w hw).2.2.1⟩
def rK:List (List UInt8)→List p9→Option (List p9)
 | [],acc=>some acc
 |p::ps,acc=>match dU p with
  |none=>none
  |some (x,n)=>if 200<(acc.length:Int)+n then none else rK ps (acc++List.replicate n.toNat x)
def cT (s:List UInt8):Option (List p9):=if 2000<s.length then none else if s=L6 then some [] else match rK (u7 s) [] with
 |none=>none
 |some L=>if K9 L=0∧A0 L=s then some L else none
def M5 (s:List UInt8):List p9 × Int:=match cT s with
 |none=>([],12)
 |some L=>(L,0)
theorem EI:∀ (R:List (p9 × Nat)) (acc:List p9),(∀ r ∈ R,G4 r.1∧1≤r.2∧r.2≤200)→acc.length+(lM R).length≤200→rK (R.map phr) acc=some (acc++lM R)
 | [],acc,_,_=>by simp[rK,lM]
 |r::R,acc,h,hl=>by
  obtain ⟨h1,h2,h3⟩:=h r (by simp)
  rw[mT,List.length_append,List.length_replicate] at hl
  rw[List.map_cons,rK,show phr r=B8 r.1 (r.2:Int) from rfl,pK h1 (by omega) (by omega)]
  simp only
  rw[if_neg (by omega),Int.toNat_natCast,EI R _ (fun q hq=>h q (List.mem_cons_of_mem _ hq)) (by rw[List.length_append,List.length_replicate];omega),mT]
  simp
theorem UI {L:List p9} (h:L.all C7=true):∀ w ∈ (F5 L).map phr,(44:UInt8) ∉ w∧(10:UInt8) ∉ w:=by
 intro w hw
 obtain ⟨r,hr,rfl⟩:=List.mem_map.1 hw
 have h1:=bE L r hr
 exact UK (D8.1 (List.all_eq_true.1 h _ h1.2.2)) (by omega)
theorem pX {L:List p9} (h:L.all C7=true) (hl:L.length≤200) (hn:L ≠ []):A0 L ≠ L6:=fun e=>by
 unfold A0 at e
 rw[if_neg hn] at e
 have h1:=congrArg u7 e
 rw[jM (by simp[cD hn]) (fun w hw=>(UI h w hw).1),show u7 L6= [L6] from by decide] at h1
 cases hr:F5 L with
 |nil=>exact cD hn hr
 |cons r R=>
  rw[hr,List.map_cons] at h1
  obtain ⟨h2,_⟩:=List.cons.inj h1
  have h3:=bE L r (by rw[hr];simp)
  have h4:=lU (D8.1 (List.all_eq_true.1 h _ h3.2.2)) (n:=(r.2:Int)) (by omega)
  rw[show B8 r.1 (r.2:Int)=phr r from rfl,h2,show p5 32 L6= [L6] from by decide] at h4
  have h5:(U7 r.1 (r.2:Int)).length=1:=by rw[← h4];rfl
  have h6:2≤(gE r.1 (r.2:Int)).length:=by
   unfold gE;split<;>simp
  unfold U7 at h5
  rw[List.length_append] at h5
  omega
theorem J8 {L:List p9} (h:(p7 L).2=0):cT (A0 L)=some L∧p7 L=(A0 L,0):=by
 unfold p7 at h ⊢
 by_cases ha:K9 L=0
 ·rw[if_pos ha] at h ⊢
  by_cases hl:2000<(A0 L).length
  ·rw[if_pos hl] at h;exact absurd h (by decide)
  ·rw[if_neg hl]
   refine ⟨?_,rfl⟩
   obtain ⟨h1,h2,h3,h4⟩:=L0 ha
   unfold cT
   rw[if_neg hl]
   by_cases hn:L= []
   ·subst hn;rfl
   ·rw[if_neg (pX h2 h1 hn)]
    have e:u7 (A0 L)=(F5 L).map phr:=by
     unfold A0
     rw[if_neg hn,jM (by simp[cD hn]) (fun w hw=>(UI h2 w hw).1)]
    rw[e,EI _ [] (fun r hr=>by
     have:=bE L r hr
     exact ⟨D8.1 (List.all_eq_true.1 h2 _ this.2.2),by omega,by omega⟩) (by rw[cC];simpa using h1),cC]
    simp only[List.nil_append]
    rw[if_pos ⟨ha,trivial⟩]
 ·rw[if_neg ha] at h;exact absurd h ha
theorem JA {s:List UInt8} {L:List p9} (h:cT s=some L):p7 L=(s,0):=by
 unfold cT at h
 split at h
 ·cases h
 rename_i hs
 split at h
 ·rename_i he
  cases h
  rw[he]
  rfl
 ·cases hr:rK (u7 s) [] with
  |none=>rw[hr] at h;cases h
  |some M=>
   rw[hr] at h
   simp only at h
   split at h
   ·rename_i hc
    cases h
    unfold p7
    rw[if_pos hc.1,if_neg (by rw[hc.2];exact hs),hc.2]
   ·cases h
theorem nD {s:List UInt8} {L:List p9} (h:p7 L=(s,0)):cT s=some L:=by
 have h1:=J8 (L:=L) (by rw[h])
 rw[h1.2] at h
 cases h
 exact h1.1
theorem vJ {L M:List p9} {s:List UInt8} (h1:p7 L=(s,0)) (h2:p7 M=(s,0)):L=M:=by
 have:=nD h1
 rw[nD h2] at this
 exact (Option.some.inj this).symm
theorem FA:∀ (L M:List p9),L ≠ []→M ≠ []→L.getLast? ≠ M.head? →F5 (L++M)=F5 L++F5 M
 | [],M,h,_,_=>absurd rfl h
 | [x],M,_,hM,hne=>by
  rw[List.cons_append,List.nil_append,F5]
  cases M with
  |nil=>exact absurd rfl hM
  |cons y m=>
   have hne:x ≠ y:=fun e=>hne (by rw[e];rfl)
   have:∃ n r,F5 (y::m)=(y,n)::r:=by
    rw[F5]
    cases F5 m with
    |nil=>exact ⟨_,_,rfl⟩
    |cons z r=>
     obtain ⟨z,n⟩:=z
     simp only
     split
     ·exact ⟨_,_,rfl⟩
     ·exact ⟨_,_,rfl⟩
   obtain ⟨n,r,e⟩:=this
   rw[e]
   simp only
   rw[if_neg (Ne.symm hne)]
   rfl
 |x::y::l,M,_,hM,hne=>by
  have ih:=FA (y::l) M (by simp) hM (by simpa using hne)
  rw[List.cons_append,F5,ih,F5.eq_2 x (y::l)]
  cases hr:F5 (y::l) with
  |nil=>exact absurd hr (cD (by simp))
  |cons z r=>
   obtain ⟨z,n⟩:=z
   simp only[List.cons_append]
   split<;>rfl
theorem XT:∀ (A B:List (List UInt8)),A ≠ []→B ≠ []→TQ (A++B)=TQ A++44::32::TQ B
 | [],B,h,_=>absurd rfl h
 | [a],B,_,h=>by rw[List.cons_append,List.nil_append,bU a h];rfl
 |a::b::A,B,_,h=>by
  rw[List.cons_append,bU a (by simp),XT (b::A) B (by simp) h,bU a (by simp)]
  simp
theorem VQ {L M:List p9} (h1:L ≠ []) (h2:M ≠ []) (h:L.getLast? ≠ M.head?):A0 (L++M)=A0 L++44::32::A0 M:=by
 unfold A0
 rw[if_neg (by simp[h1]),if_neg h1,if_neg h2,FA L M h1 h2 h,List.map_append,XT _ _ (by simp[cD h1]) (by simp[cD h2])]
def W3 (b:Bool):List UInt8:=if b=true then [98,97,99,107] else [102,114,111,110,116]
def lK (b:Bool):List UInt8:=40::W3 b++ [41,58]
def aF4:List UInt8:= [114,111,119]
def aM (b:Bool) (n:Int):List UInt8:=aF4++32::(Lib.itoa n++32::(lK b++ [32]))
def F6 (b:Bool) (L:List p9) (n:Int):List UInt8 × Int:=if K9 L=0 then (if n<1∨100<n then ([],2) else if (p7 L).2=0 then (aM b n++(p7 L).1++ [46],0) else ([],(p7 L).2)) else ([],K9 L)
theorem pO {b:Bool} {L:List p9} {n:Int} (h:(F6 b L n).2=0):(1≤n∧n≤100)∧p7 L=(A0 L,0)∧F6 b L n=(aM b n++A0 L++ [46],0)∧K9 L=0:=by
 unfold F6 at h ⊢
 by_cases h1:K9 L=0
 ·rw[if_pos h1] at h ⊢
  by_cases h2:n<1∨100<n
  ·rw[if_pos h2] at h;exact absurd h (by decide)
  ·rw[if_neg h2] at h ⊢
   by_cases h3:(p7 L).2=0
   ·have:=(J8 h3).2
    rw[if_pos h3,this]
    exact ⟨by omega,rfl,rfl,h1⟩
   ·rw[if_neg h3] at h;exact absurd h h3
 ·rw[if_neg h1] at h;exact absurd h h1
theorem sV (b:Bool) {n:Int} (hn:0≤n) (r:List UInt8):p5 32 (aM b n++r)=aF4::Lib.itoa n::lK b::p5 32 r:=by
 have h2:(32:UInt8) ∉ Lib.itoa n:=aS hn _ (by decide)
 have h3:(32:UInt8) ∉ lK b:=by cases b<;>decide
 have e:aM b n++r=aF4++32::(Lib.itoa n++32::(lK b++32::r)):=by simp[aM]
 rw[e,G3 _ (by decide),G3 _ h2,G3 _ h3]
theorem aC2 {b c:Bool} (h:lK b=lK c):b=c:=by cases b<;>cases c<;>first|rfl|(revert h;decide)
theorem aC8 {b c:Bool} {n m:Int} {r q:List UInt8} (hn:0≤n) (hm:0≤m) (h:aM b n++r=aM c m++q):b=c∧n=m∧r=q:=by
 have e:=congrArg (p5 32) h
 rw[sV b hn,sV c hm] at e
 obtain ⟨_,e⟩:=List.cons.inj e
 obtain ⟨e1,e⟩:=List.cons.inj e
 obtain ⟨e2,e⟩:=List.cons.inj e
 have h1:=NP hn hm e1
 have h2:=aC2 e2
 subst h1 h2
 exact ⟨rfl,rfl,List.append_cancel_left h⟩
theorem PT {b c:Bool} {L M:List p9} {n m:Int} {s:List UInt8} (h1:F6 b L n=(s,0)) (h2:F6 c M m=(s,0)):b=c∧L=M∧n=m:=by
 obtain ⟨a1,a2,a3,_⟩:=pO (by rw[h1]:(F6 b L n).2=0)
 obtain ⟨b1,b2,b3,_⟩:=pO (by rw[h2]:(F6 c M m).2=0)
 rw[h1] at a3
 rw[h2] at b3
 have e:aM b n++(A0 L++ [46])=aM c m++(A0 M++ [46]):=by
  rw[← List.append_assoc,← List.append_assoc]
  exact (congrArg Prod.fst a3).symm.trans (congrArg Prod.fst b3)
 obtain ⟨e1,e2,e3⟩:=aC8 (by omega) (by omega) e
 have e4:=List.append_cancel_right e3
 rw[e4] at a2
 exact ⟨e1,vJ a2 b2,e2⟩
open Classical in
noncomputable def gR (s:List UInt8):Option (Bool × List p9 × Int):=if h:∃ r:Bool × List p9 × Int,F6 r.1 r.2.1 r.2.2=(s,0) then some (Classical.choose h) else none
theorem yH {b:Bool} {L:List p9} {n:Int} {s:List UInt8} (h:F6 b L n=(s,0)):gR s=some (b,L,n):=by
 have hx:∃ r:Bool × List p9 × Int,F6 r.1 r.2.1 r.2.2=(s,0):=⟨(b,L,n),h⟩
 unfold gR
 rw[dif_pos hx]
 have h2:=Classical.choose_spec hx
 generalize Classical.choose hx=r at h2
 obtain ⟨c,M,m⟩:=r
 obtain ⟨e1,e2,e3⟩:=PT h2 h
 simp only at e1 e2 e3
 rw[e1,e2,e3]
theorem yJ {b:Bool} {L:List p9} {n:Int} {s:List UInt8} (h:gR s=some (b,L,n)):F6 b L n=(s,0):=by
 unfold gR at h
 split at h
 ·rename_i hx
  have h2:=Classical.choose_spec hx
  rw[Option.some.inj h] at h2
  exact h2
 ·cases h
theorem aQ0 (b:Bool) {n:Int} (hn:0≤n):(10:UInt8) ∉ aM b n:=by
 have h2:(10:UInt8) ∉ Lib.itoa n:=aS hn _ (by decide)
 have h3:(10:UInt8) ∉ lK b:=by cases b<;>decide
 unfold aM
 simp only[List.mem_append,List.mem_cons,h2,h3,not_or]
 decide
theorem RY {L:List p9} (h:L.all C7=true):(10:UInt8) ∉ A0 L:=by
 have aux:∀ ws:List (List UInt8),(∀ w ∈ ws,(10:UInt8) ∉ w)→(10:UInt8) ∉ TQ ws:=by
  intro ws
  induction ws with
  |nil=>intro _;simp[TQ]
  |cons w ws ih=>
   intro h
   cases ws with
   |nil=>exact h w (by simp)
   |cons v r=>
    rw[bU w (by simp),List.mem_append,List.mem_cons,List.mem_cons]
    rintro (h1|h1|h1|h1)
    ·exact h w (by simp) h1
    ·exact absurd h1 (by decide)
    ·exact absurd h1 (by decide)
    ·exact ih (fun x hx=>h x (List.mem_cons_of_mem _ hx)) h1
 unfold A0
 split
 ·decide
 ·exact aux _ fun w hw=>(UI h w hw).2
theorem aF3 {b:Bool} {L:List p9} {n:Int} {s:List UInt8} (h:F6 b L n=(s,0)):(10:UInt8) ∉ s:=by
 obtain ⟨a1,a2,a3,a4⟩:=pO (by rw[h]:(F6 b L n).2=0)
 rw[h] at a3
 rw[show s=_ from congrArg Prod.fst a3]
 simp only[List.mem_append,not_or]
 exact ⟨⟨aQ0 b (by omega),RY (L0 a4).2.1⟩,by decide⟩
theorem aV6 {b:Bool} {L:List p9} {n:Int}:(F6 b L n).1.length≤2100:=by
 unfold F6
 split
 ·split
  ·simp
  split
  ·rename_i h1 h2 h3
   have h4:=(J8 h3).2
   have h5:(A0 L).length≤2000:=by
    unfold p7 at h3
    rw[if_pos h1] at h3
    split at h3
    ·exact absurd h3 (by decide)
    ·omega
   rw[h4]
   have h6:(Lib.itoa n).length≤4:=by
    obtain ⟨u,rfl⟩:=Int.eq_ofNat_of_zero_le (show 0≤n by omega)
    rw[Lib.itoa_nonneg]
    exact Nat.le_trans (Y4 3 u (by omega)) (Nat.le_refl _)
   have h7:(lK b).length≤10:=by cases b<;>decide
   unfold aM
   simp only[List.length_append,List.length_cons,List.length_nil]
   have h8:aF4.length=3:=rfl
   omega
  ·simp
 ·simp
abbrev GQ:=Int × List (Bool × List p9)
def EY:List (Bool × List p9)→Int
 | []=>0
 |r::l=>if K9 r.2=0 then EY l else K9 r.2
def W6 (c:GQ):Int:=if 100<c.2.length then 4 else if c.1<0∨200<c.1 then 8 else EY c.2
def B2:Int→List (Bool × List p9)→List UInt8 × Int
 |_,[]=>([],0)
 |n,r::l=>if (F6 r.1 r.2 n).2=0 then (if (B2 (n+1) l).2=0 then ((F6 r.1 r.2 n).1++10::(B2 (n+1) l).1,0) else ([],(B2 (n+1) l).2)) else ([],(F6 r.1 r.2 n).2)
def I5 (n:Int):List UInt8:= [115,116,97,114,116]++32::([119,105,116,104]++32::(Lib.itoa n++32:: [115,116,105,116,99,104,101,115,46]))
def B5 (c:GQ):List UInt8 × Int:=if W6 c=0 then (if (B2 1 c.2).2=0 then (if 60000<(I5 c.1++10::(B2 1 c.2).1).length then ([],4) else (I5 c.1++10::(B2 1 c.2).1,0)) else ([],(B2 1 c.2).2)) else ([],W6 c)
theorem kF {c:GQ} (h:(B5 c).2=0):W6 c=0∧(B2 1 c.2).2=0∧(I5 c.1++10::(B2 1 c.2).1).length≤60000∧B5 c=(I5 c.1++10::(B2 1 c.2).1,0):=by
 unfold B5 at h ⊢
 by_cases h1:W6 c=0
 ·rw[if_pos h1] at h ⊢
  by_cases h2:(B2 1 c.2).2=0
  ·rw[if_pos h2] at h ⊢
   by_cases h3:60000<(I5 c.1++10::(B2 1 c.2).1).length
   ·rw[if_pos h3] at h;exact absurd h (by decide)
   ·exact ⟨h1,h2,by omega,by rw[if_neg h3]⟩
  ·rw[if_neg h2] at h;exact absurd h h2
 ·rw[if_neg h1] at h;exact absurd h h1
theorem dF {c:GQ} (h:W6 c=0):c.2.length≤100∧(0≤c.1∧c.1≤200)∧EY c.2=0:=by
 unfold W6 at h
 split at h
 ·exact absurd h (by decide)
 split at h
 ·exact absurd h (by decide)
 ·exact ⟨by omega,by omega,h⟩
def W9:Int→List (Bool × List p9)→List (List UInt8)
 |_,[]=> []
 |n,r::l=>(F6 r.1 r.2 n).1::W9 (n+1) l
theorem bW:∀ (n:Int) (l:List (Bool × List p9)),(W9 n l).length=l.length
 |_,[]=>rfl
 |n,r::l=>by rw[W9,List.length_cons,List.length_cons,bW]
theorem oV:∀ (l:List (Bool × List p9)) (n:Int),(B2 n l).2=0→p5 10 (B2 n l).1=W9 n l++ [[]]
 | [],_,_=>(O2 (c:=10) (s:= []) (by simp))
 |r::l,n,h=>by
  unfold B2 at h ⊢
  by_cases h1:(F6 r.1 r.2 n).2=0
  ·rw[if_pos h1] at h ⊢
   by_cases h2:(B2 (n+1) l).2=0
   ·rw[if_pos h2]
    have h3:F6 r.1 r.2 n=((F6 r.1 r.2 n).1,0):=by rw[← h1]
    rw[G3 _ (aF3 h3),oV l (n+1) h2,W9]
    rfl
   ·rw[if_neg h2] at h;exact absurd h h2
  ·rw[if_neg h1] at h;exact absurd h h1
theorem rH:∀ (l:List (Bool × List p9)) (n:Int),(B2 n l).2=0→∀ j (hj:j<l.length),F6 l[j].1 l[j].2 (n+j)=((W9 n l)[j]'(by rw[bW];exact hj),0)
 | [],_,_,j,hj=>by simp at hj
 |r::l,n,h,j,hj=>by
  have h1:(F6 r.1 r.2 n).2=0∧(B2 (n+1) l).2=0:=by
   unfold B2 at h
   by_cases h1:(F6 r.1 r.2 n).2=0
   ·rw[if_pos h1] at h
    by_cases h2:(B2 (n+1) l).2=0
    ·exact ⟨h1,h2⟩
    ·rw[if_neg h2] at h;exact absurd h h2
   ·rw[if_neg h1] at h;exact absurd h h1
  cases j with
  |zero=>
   show F6 r.1 r.2 (n+((0:Nat):Int))=((F6 r.1 r.2 n).1,0)
   rw[show n+((0:Nat):Int)=n from by omega,← h1.1]
  |succ j=>
   have:=rH l (n+1) h1.2 j (by simpa using hj)
   simp only[List.getElem_cons_succ,W9]
   rw[← this]
   congr 1
   omega
theorem pT {n:Int} (hn:0≤n):p5 32 (I5 n)= [[115,116,97,114,116],[119,105,116,104],Lib.itoa n,[115,116,105,116,99,104,101,115,46]]:=by
 have h2:(32:UInt8) ∉ Lib.itoa n:=aS hn _ (by decide)
 unfold I5
 rw[G3 _ (by decide),G3 _ (by decide),G3 _ h2,O2 (by decide)]
theorem aG0 {n:Int} (hn:0≤n):(10:UInt8) ∉ I5 n:=by
 have h2:(10:UInt8) ∉ Lib.itoa n:=aS hn _ (by decide)
 unfold I5
 simp only[List.mem_append,List.mem_cons,h2,not_or]
 decide
theorem eV {c:GQ} {s:List UInt8} (h:B5 c=(s,0)):p5 10 s=I5 c.1::(W9 1 c.2++ [[]]):=by
 obtain ⟨h1,h2,h3,h4⟩:=kF (by rw[h]:(B5 c).2=0)
 rw[h] at h4
 rw[show s=_ from congrArg Prod.fst h4,G3 _ (aG0 (dF h1).2.1.1),oV _ _ h2]
theorem TV:∀ (l m:List (Bool × List p9)) (n:Int),(B2 n l).2=0→(B2 n m).2=0→W9 n l=W9 n m→l=m:=fun l m n h1 h2 h=>by
 have hl:=congrArg List.length h
 rw[bW,bW] at hl
 refine List.ext_getElem hl fun j a b=>?_
 have e1:=rH l n h1 j a
 have e2:=rH m n h2 j b
 simp only[h] at e1
 obtain ⟨q1,q2,_⟩:=PT e1 e2
 exact Prod.ext q1 q2
theorem SV {c d:GQ} {s:List UInt8} (h1:B5 c=(s,0)) (h2:B5 d=(s,0)):c=d:=by
 have e:=eV h1
 rw[eV h2] at e
 obtain ⟨e1,e2⟩:=List.cons.inj e
 have a:=kF (by rw[h1]:(B5 c).2=0)
 have b:=kF (by rw[h2]:(B5 d).2=0)
 have n1:=(dF a.1).2.1
 have n2:=(dF b.1).2.1
 have w:=congrArg (p5 32) e1
 rw[pT n1.1,pT n2.1] at w
 simp only[List.cons.injEq,and_true,true_and] at w
 refine Prod.ext (NP n2.1 n1.1 w).symm (TV _ _ 1 a.2.1 b.2.1 (List.append_cancel_right e2).symm)
open Classical in
noncomputable def tK (s:List UInt8):Option GQ:=if h:∃ c:GQ,B5 c=(s,0) then some (Classical.choose h) else none
theorem PG {c:GQ} {s:List UInt8} (h:B5 c=(s,0)):tK s=some c:=by
 have hx:∃ c:GQ,B5 c=(s,0):=⟨c,h⟩
 unfold tK
 rw[dif_pos hx,SV (Classical.choose_spec hx) h]
theorem US {c:GQ} {s:List UInt8} (h:tK s=some c):B5 c=(s,0):=by
 unfold tK at h
 split at h
 ·rename_i hx
  have h2:=Classical.choose_spec hx
  rw[Option.some.inj h] at h2
  exact h2
 ·cases h
end Go.Itp
namespace Go.Itp
set_option linter.unusedVariables false
set_option linter.unusedSimpArgs false
set_option maxRecDepth 10000
def zB (p:Bool):List UInt8:=if p=true then [112,117,114,108] else [107,110,105,116]
def GN (p:Bool):List UInt8:=if p=true then [32,112,117,114,108,119,105,115,101] else []
def r7 (k:Nat) (p:Bool):List (List UInt8):=match k with
 |1=> [zB p++ [32],[]]
 |2=> [[121,97,114,110,32,111,118,101,114]]
 |3=> [zB p++ [32],[32,116,111,103,101,116,104,101,114,32,40,102,105,114,115,116,32,111,110,32,116,111,112,41]]
 |4=> [zB p++ [32],[32,116,111,103,101,116,104,101,114]]
 |5=> [[109,97,107,101,32],[32,111,117,116,32,111,102,32,49]++GN p]
 |6=> [[99,114,111,115,115,32],[32,105,110,32,102,114,111,110,116,32,111,102,32],GN p]
 |7=> [[99,114,111,115,115,32],[32,98,101,104,105,110,100,32],GN p]
 |8=> [[115,108,105,112,32],if p=true then [32,119,105,116,104,32,121,97,114,110,32,105,110,32,102,114,111,110,116] else []]
 |9=> [[99,97,115,116,32,111,110,32],[]]
 |_=> [[98,105,110,100,32,111,102,102,32],GN p]
def P4 (k:Nat) (p:Bool):List UInt8:=join 35 (r7 k p)
def countB (k:Nat):Bool:=decide (k=1∨k=8)
theorem CR:∀ k p,∀ w ∈ r7 k p,(35:UInt8) ∉ w:=by
 intro k p
 unfold r7
 split<;>cases p<;>decide
theorem MI (k:Nat) (p:Bool):p5 35 (P4 k p)=r7 k p:=
 nP (by unfold r7;split<;>simp) (CR k p)
def fill:List (List UInt8)→List Int→List UInt8
 | [],_=> []
 | [p],_=>p
 |p::ps,[]=>p++35::fill ps []
 |p::ps,v::vs=>p++(Lib.itoa v++fill ps vs)
def aR8 (x:p9) (n:Int):List Int:=if x.kind=1∨x.kind=8 then [n] else [x.a,x.b]
def J9 (x:p9) (n:Int):List UInt8:=if 1<n∧x.kind ≠ 1∧x.kind ≠ 8 then 32::(Lib.itoa n++32::V7) else []
theorem pD {x:p9} (n:Int) (hx:G4 x):B8 x n=fill (r7 x.kind x.purl) (aR8 x n)++J9 x n:=by
 have hb:∀ B:List (List UInt8),B ≠ []→join 32 (B++zS x n)=join 32 B++J9 x n:=fun B hB=>by
  unfold zS J9
  split
  ·rw[show B++ [Lib.itoa n,V7]=(B++ [Lib.itoa n])++ [V7] from by simp,rF _ _ (by simp),rF _ _ hB]
   simp
  ·simp
 unfold B8 U7
 rw[hb _ (KQ x n)]
 congr 1
 obtain ⟨k,p,a,b⟩:=x
 unfold G4 at hx
 simp only at hx
 rcases hx with ⟨rfl|rfl,rfl,rfl⟩|⟨rfl,rfl,rfl,rfl⟩|⟨rfl|rfl|rfl,h2,h3,rfl⟩|⟨rfl|rfl,h2,h3⟩|⟨rfl,rfl,h2,h3,rfl⟩|⟨rfl,h2,h3,rfl⟩
 all_goals
  first
  |(cases p<;>simp[gE,pR,mD,join,r7,fill,aR8,zB,GN])
  |simp[gE,pR,mD,join,r7,fill,aR8,zB,GN]
def I6 (s:List UInt8):List UInt8:=(s.take 4).takeWhile B6
def aB:List UInt8→Int
 |l=>l.foldl (fun a d=>10*a+((d.toNat:Int) - 48)) 0
def dX (s:List UInt8):List UInt8:=s.drop (I6 s).length
theorem aX9:∀ (w:List UInt8),(∀ c ∈ w,B6 c=true)→w.takeWhile B6=w
 | [],_=>rfl
 |c::w,h=>by rw[List.takeWhile_cons,h c (by simp),if_pos rfl,aX9 w fun x hx=>h x (List.mem_cons_of_mem _ hx)]
theorem aB9 {w r:List UInt8} (hw:∀ c ∈ w,B6 c=true) (hl:w.length≤4) (hr:w.length=4∨∀ c,r.head? =some c→B6 c=false):I6 (w++r)=w:=by
 unfold I6
 rw[List.take_append,List.take_of_length_le hl,List.takeWhile_append]
 have h1:w.takeWhile B6=w:=aX9 w hw
 rw[h1,if_pos rfl]
 rcases hr with h|h
 ·rw[h];simp
 ·cases r with
  |nil=>simp
  |cons c r=>
   have:=h c rfl
   cases hk:4 - w.length with
   |zero=>simp
   |succ k=>rw[List.take_succ_cons,List.takeWhile_cons,this];simp
theorem rU (l:List UInt8) (d:UInt8):aB (l++ [d])=10*aB l+((d.toNat:Int) - 48):=by simp[aB]
theorem tS:∀ (n u:Nat),u≤n→aB (Lib.decDigits u)=u
 |n,u,hn=>by
  rw[Lib.decDigits]
  split
  ·rename_i h
   have:=(dH h).2
   simp only[aB,List.foldl_cons,List.foldl_nil,this]
   omega
  ·cases n with
   |zero=>omega
   |succ n=>
    rw[rU,tS n (u / 10) (by omega),(dH (show u % 10<10 by omega)).2]
    omega
theorem eD {z:Int} (h:0≤z):aB (Lib.itoa z)=z:=by
 obtain ⟨u,rfl⟩:=Int.eq_ofNat_of_zero_le h
 rw[Lib.itoa_nonneg]
 exact tS u u (Nat.le_refl _)
theorem F9 {z:Int} (h:0≤z) (h1:z≤9999):(Lib.itoa z).length≤4:=by
 obtain ⟨u,rfl⟩:=Int.eq_ofNat_of_zero_le h
 rw[Lib.itoa_nonneg]
 exact Y4 3 u (by omega)
def R0 (r:List UInt8):Prop:=∀ c,r.head? =some c→B6 c=false
theorem W7 {z:Int} (h:0≤z) (h1:z≤9999) {r:List UInt8} (hr:R0 r):I6 (Lib.itoa z++r)=Lib.itoa z:=
 aB9 (NO h) (F9 h h1) (.inr hr)
theorem cB {z:Int} (h:0≤z) (h1:z≤9999) {r:List UInt8} (hr:R0 r):dX (Lib.itoa z++r)=r:=by
 unfold dX
 rw[W7 h h1 hr,List.drop_left]
def y9 (p s:List UInt8):Option (List UInt8):=if p.length≤s.length∧s.take p.length=p then some (s.drop p.length) else none
theorem H6 (p r:List UInt8):y9 p (p++r)=some r:=by
 unfold y9
 rw[if_pos ⟨by simp,by simp⟩]
 simp
def S4:List (List UInt8)→List UInt8→List Int→Option (List Int × List UInt8)
 | [],s,l=>some (l,s)
 |p::ps,s,l=>if I6 s= [] then none else match y9 p (dX s) with
  |none=>none
  |some t=>S4 ps t (l++ [aB (I6 s)])
def C3 (f:List (List UInt8)) (s:List UInt8):Option (List Int × List UInt8):=match f with
 | []=>some ([],s)
 |p::ps=>match y9 p s with
  |none=>none
  |some t=>S4 ps t []
theorem xJ:∀ (ps:List (List UInt8)) (s:List UInt8) (l m:List Int) (r:List UInt8),S4 ps s l=some (m,r)→m.length=l.length+ps.length∧r.length≤s.length
 | [],s,l,m,r,h=>by cases h;simp
 |p::ps,s,l,m,r,h=>by
  rw[S4] at h
  split at h
  ·cases h
  ·cases hc:y9 p (dX s) with
   |none=>rw[hc] at h;cases h
   |some t=>
    rw[hc] at h
    have:=xJ ps t _ m r h
    unfold y9 at hc
    split at hc
    ·cases hc
     rw[List.length_append,List.length_drop] at this
     unfold dX at this
     rw[List.length_drop] at this
     simp only[List.length_cons,List.length_nil] at this ⊢
     omega
    ·cases hc
theorem nA {f:List (List UInt8)} {s r:List UInt8} {m:List Int} (hf:f ≠ []) (h:C3 f s=some (m,r)):m.length+1=f.length∧r.length≤s.length:=by
 cases f with
 |nil=>exact absurd rfl hf
 |cons p ps=>
  unfold C3 at h
  cases hc:y9 p s with
  |none=>simp only[hc] at h;cases h
  |some t=>
   simp only[hc] at h
   have:=xJ ps t [] m r h
   unfold y9 at hc
   split at hc
   ·cases hc
    rw[List.length_drop] at this
    simp only[List.length_cons,List.length_nil] at this ⊢
    omega
   ·cases hc
theorem iX:∀ (ps:List (List UInt8)) (v:Int) (vs:List Int) (r:List UInt8) (l:List Int),ps ≠ []→vs.length+1=ps.length→(∀ z ∈ v::vs,0≤z∧z≤9999)→(∀ p ∈ ps.dropLast,p ≠ [])→(∀ p ∈ ps,R0 p)→R0 r→
  S4 ps (Lib.itoa v++fill ps vs++r) l=some (l++v::vs,r)
 | [],v,vs,r,l,h,_,_,_,_,_=>absurd rfl h
 | [p],v,vs,r,l,_,hl,hv,hne,hp,hr=>by
  have:vs= []:=by cases vs with
   |nil=>rfl
   |cons a b=>simp at hl
  subst this
  have h0:=hv v (by simp)
  have hnd:R0 (p++r):=by
   cases p with
   |nil=>exact hr
   |cons c q=>intro d hd;exact hp (c::q) (by simp) d (by simpa using hd)
  rw[fill,List.append_assoc,S4,W7 h0.1 h0.2 hnd,if_neg oS,cB h0.1 h0.2 hnd,H6,eD h0.1]
  rfl
 |p::q::ps,v,vs,r,l,_,hl,hv,hne,hp,hr=>by
  cases vs with
  |nil=>simp at hl
  |cons u us=>
   have h0:=hv v (by simp)
   have hpn:=hne p (by simp)
   have hnd:R0 (p++(Lib.itoa u++fill (q::ps) us++r)):=by
    cases p with
    |nil=>exact absurd rfl hpn
    |cons c t=>intro d hd;exact hp (c::t) (by simp) d (by simpa using hd)
   have e:Lib.itoa v++fill (p::q::ps) (u::us)++r=Lib.itoa v++(p++(Lib.itoa u++fill (q::ps) us++r)):=by
    rw[fill]
    ·simp
    ·simp
   rw[e,S4,W7 h0.1 h0.2 hnd,if_neg oS,cB h0.1 h0.2 hnd,H6,eD h0.1]
   simp only
   rw[iX (q::ps) u us r _ (by simp) (by simpa using hl) (fun z hz=>hv z (List.mem_cons_of_mem _ hz)) (fun z hz=>hne z (by simp at hz ⊢;exact .inr hz)) (fun z hz=>hp z (List.mem_cons_of_mem _ hz)) hr]
   simp
def jO:List UInt8:=32::V7
def J6 (p s:List UInt8):Option (List UInt8):=if p.length≤s.length∧s.drop (s.length - p.length)=p then some (s.take (s.length - p.length)) else none
theorem vQ (p r:List UInt8):J6 p (r++p)=some r:=by
 unfold J6
 rw[if_pos ⟨by simp,by simp⟩]
 simp
def sJ (k:Nat) (p:Bool) (m:List Int):p9:=if countB k=true then ⟨k,p,0,0⟩ else match m with
 | [a,b]=>⟨k,p,a,b⟩
 | [a]=>⟨k,p,a,0⟩
 |_=>⟨k,p,0,0⟩
def Z3 (k:Nat) (m:List Int) (rest:List UInt8):Int × List UInt8:=if countB k=true then (m.headD 0,rest) else match J6 jO rest with
 |none=>(1,rest)
 |some t=>(aB (I6 ((y9 [32] t).getD t)),dX ((y9 [32] t).getD t))
def bK (x:p9) (q:Int × List UInt8) (s:List UInt8):Option (p9 × Int):=if q.2= []∧(1≤q.1∧q.1≤200)∧G4 x∧B8 x q.1=s then some (x,q.1) else none
def iB (k:Nat) (p:Bool) (s:List UInt8):Option (p9 × Int):=match C3 (r7 k p) s with
 |none=>none
 |some (m,r)=>bK (sJ k p m) (Z3 k m r) s
theorem SQ {x y:p9} {q:Int × List UInt8} {s:List UInt8} {n:Int} (h:bK x q s=some (y,n)):dU s=some (y,n):=by
 unfold bK at h
 split at h
 ·rename_i hc
  cases h
  rw[← hc.2.2.2]
  exact pK hc.2.2.1 hc.2.1.1 hc.2.1.2
 ·cases h
theorem SS {k:Nat} {p:Bool} {s:List UInt8} {x:p9} {n:Int} (h:iB k p s=some (x,n)):dU s=some (x,n):=by
 unfold iB at h
 cases hm:C3 (r7 k p) s with
 |none=>rw[hm] at h;cases h
 |some r=>
  obtain ⟨m,r⟩:=r
  rw[hm] at h
  exact SQ h
instance bX8 (r:List UInt8):Decidable (R0 r):=decidable_of_iff (r.head?.all (fun c=> !B6 c)=true) (by
 cases r with
 |nil=>simp[R0]
 |cons c r=>simp[R0])
theorem TH:∀ k p,∀ w ∈ r7 k p,R0 w:=by
 intro k p
 unfold r7
 split<;>cases p<;>decide
theorem TI:∀ k p,∀ w ∈ (r7 k p).tail.dropLast,w ≠ []:=by
 intro k p
 unfold r7
 split<;>cases p<;>decide
theorem VC (x:p9) (n:Int):R0 (J9 x n):=by
 unfold J9
 split
 ·intro c hc;cases hc;decide
 ·intro c hc;cases hc
theorem IQ {x:p9} {n:Int} (hx:G4 x) (h0:1≤n) (h1:n≤200):C3 (r7 x.kind x.purl) (B8 x n)=some (if x.kind=2 then [] else (if x.kind=6∨x.kind=7 then [x.a,x.b] else if x.kind=1∨x.kind=8 then [n] else [x.a]),J9 x n):=by
 rw[pD n hx]
 have hd:=TH x.kind x.purl
 have hm:=TI x.kind x.purl
 have ht:=VC x n
 have hb:=hx.bounds
 have two:∀ (p q:List UInt8) (v:Int),0≤v→v≤9999→R0 q→∀ t,R0 t→C3 [p,q] (fill [p,q] [v]++t)=some ([v],t):=fun p q v a b c t d=>by
  rw[fill,List.append_assoc,C3,H6]
  ·have:=iX [q] v [] t [] (by simp) rfl (by simp;omega) (by simp) (by simpa using c) d
   exact this
  ·simp
 have one:∀ p t:List UInt8,C3 [p] (p++t)=some ([],t):=fun p t=>by
  unfold C3
  simp only[H6]
  rfl
 have two':∀ (p q:List UInt8) (v u:Int),0≤v→v≤9999→R0 q→∀ t,R0 t→C3 [p,q] (fill [p,q] [v,u]++t)=some ([v],t):=fun p q v u a b c t d=>by
  have:=two p q v a b c t d
  have e:fill [p,q] [v,u]=fill [p,q] [v]:=by
   rw[fill,fill,fill,fill]<;>simp
  rw[e];exact this
 have three:∀ (p q r:List UInt8) (v u:Int),0≤v→v≤9999→0≤u→u≤9999→R0 q→q ≠ []→R0 r→∀ t,R0 t→C3 [p,q,r] (fill [p,q,r] [v,u]++t)=some ([v,u],t):=fun p q r v u a b a' b' c c' d t e=>by
  rw[fill,List.append_assoc,C3,H6]
  ·have:=iX [q,r] v [u] t [] (by simp) rfl (by simp;omega) (by simpa using c') (by simpa using ⟨c,d⟩) e
   exact this
  ·simp
 obtain ⟨k,p,a,b⟩:=x
 unfold G4 at hx
 simp only at hx hb hd hm ht ⊢
 rcases hx with ⟨rfl|rfl,rfl,rfl⟩|⟨rfl,rfl,rfl,rfl⟩|⟨rfl|rfl|rfl,h2,h3,rfl⟩|⟨rfl|rfl,h2,h3⟩|⟨rfl,rfl,h2,h3,rfl⟩|⟨rfl,h2,h3,rfl⟩
 ·exact two _ _ n (by omega) (by omega) (hd _ (by simp[r7])) _ ht
 ·exact two _ _ n (by omega) (by omega) (hd _ (by simp[r7])) _ ht
 ·exact one _ _
 ·exact two' _ _ a 0 (by omega) (by omega) (hd _ (by simp[r7])) _ ht
 ·exact two' _ _ a 0 (by omega) (by omega) (hd _ (by simp[r7])) _ ht
 ·exact two' _ _ a 0 (by omega) (by omega) (hd _ (by simp[r7])) _ ht
 ·exact three _ _ _ a b (by omega) (by omega) (by omega) (by omega) (hd _ (by simp[r7])) (hm _ (by simp[r7])) (hd _ (by simp[r7])) _ ht
 ·exact three _ _ _ a b (by omega) (by omega) (by omega) (by omega) (hd _ (by simp[r7])) (hm _ (by simp[r7])) (hd _ (by simp[r7])) _ ht
 ·exact two' _ _ a 0 (by omega) (by omega) (hd _ (by simp[r7])) _ ht
 ·exact two' _ _ a 0 (by omega) (by omega) (hd _ (by simp[r7])) _ ht
theorem LF {x:p9} {n:Int} (hk:¬ (x.kind=1∨x.kind=8)) (h0:1≤n) (h1:n≤200) (m:List Int):Z3 x.kind m (J9 x n)=(n,[]):=by
 unfold Z3 countB
 rw[decide_eq_false hk,if_neg (by decide)]
 unfold J9
 by_cases h2:1<n
 ·rw[if_pos ⟨h2,fun e=>hk (.inl e),fun e=>hk (.inr e)⟩,show (32::(Lib.itoa n++32::V7))=(32::Lib.itoa n)++jO from by simp[jO],vQ]
  have e:y9 [32] (32::Lib.itoa n)=some (Lib.itoa n):=H6 [32] (Lib.itoa n)
  have hd:R0 []:=by decide
  have d1:=W7 (z:=n) (by omega) (by omega) hd
  have d2:=cB (z:=n) (by omega) (by omega) hd
  rw[List.append_nil] at d1 d2
  simp only[e,Option.getD_some,d1,d2,eD (show 0≤n by omega)]
 ·rw[if_neg (fun e=>h2 e.1)]
  have:n=1:=by omega
  subst this
  rfl
theorem aK9 {x:p9} {n:Int} (hx:G4 x) (h0:1≤n) (h1:n≤200):iB x.kind x.purl (B8 x n)=some (x,n):=by
 unfold iB
 rw[IQ hx h0 h1]
 simp only
 have fin:∀ m,sJ x.kind x.purl m=x→Z3 x.kind m (J9 x n)=(n,[])→bK (sJ x.kind x.purl m) (Z3 x.kind m (J9 x n)) (B8 x n)=some (x,n):=fun m e1 e2=>by
  rw[e1,e2]
  unfold bK
  rw[if_pos ⟨rfl,⟨h0,h1⟩,hx,rfl⟩]
 have hb:=hx.bounds
 have hx':=hx
 unfold G4 at hx'
 refine fin _ ?_ ?_
 ·clear fin
  obtain ⟨k,p,a,b⟩:=x
  simp only at hx' ⊢
  rcases hx' with ⟨rfl|rfl,rfl,rfl⟩|⟨rfl,rfl,rfl,rfl⟩|⟨rfl|rfl|rfl,h2,h3,rfl⟩|⟨rfl|rfl,h2,h3⟩|⟨rfl,rfl,h2,h3,rfl⟩|⟨rfl,h2,h3,rfl⟩<;>rfl
 ·by_cases hk:x.kind=1∨x.kind=8
  ·have ht:J9 x n= []:=by unfold J9;rw[if_neg (by omega)]
   rw[ht]
   unfold Z3 countB
   rw[decide_eq_true hk,if_pos rfl]
   rcases hk with e|e<;>simp[e]
  ·exact LF hk h0 h1 _
def W0 (l:List UInt8):Option Int:=if l ≠ []∧l.length≤4∧(1<l.length→l[0]! ≠ 48)∧l.all B6=true then some (((Lib.decFrom 0 l).getD 0:Nat):Int) else none
theorem aE7 {cand:Nat→Bool→List UInt8→Option (p9 × Int)} (hof:∀ {x:p9} {n:Int},G4 x→1≤n→n≤200→cand x.kind x.purl (B8 x n)=some (x,n)) {s:List UInt8} (h:∀ k p,1≤k→k≤10→cand k p s=none):dU s=none:=by
 cases hr:dU s with
 |none=>rfl
 |some r=>
  obtain ⟨x,n⟩:=r
  obtain ⟨a,b,c⟩:=yK hr
  have:=hof a b.1 b.2
  rw[c,h x.kind x.purl a.bounds.1 a.bounds.2.1] at this
  cases this
end Go.Itp
namespace Go.Proofs.YtimmmnanllcfoaaDoor
open Go Go.Itp
set_option maxRecDepth 100000
set_option maxHeartbeats 400000
set_option linter.unusedSimpArgs false
set_option linter.unusedVariables false
def fL:Nat→List UInt8
 |3=> [102]|4=> [108]|5=> [109]|6=> [120]|7=> [121]|8=> [115]|10=> [111]
 |_=> []
def fA0:Nat→Int
 |3=>2|4=>2|5=>2|6=>1|7=>1|9=>1|10=>1
 |_=>0
def fA1:Nat→Int
 |3=>4|4=>4|5=>4|6=>6|7=>6|9=>200|10=>200
 |_=>0
def fB0:Nat→Int
 |6=>1|7=>1
 |_=>0
def fB1:Nat→Int
 |6=>6|7=>6
 |_=>0
def fS:Nat→Bool
 |2=>false|9=>false
 |_=>true
def fU:Nat→Nat
 |1=>1|2=>0|3=>2|4=>2|5=>1|6=>3|7=>3|8=>1|9=>0
 |_=>2
def fM:Nat→Nat
 |1=>1|2=>1|3=>1|4=>1|5=>2|6=>3|7=>3|8=>1|9=>2
 |_=>0
def bP (k:Nat):List Value:= [.string ⟨(fL k).toArray⟩,.int .i64 (fA0 k),.int .i64 (fA1 k),.int .i64 (fB0 k),.int .i64 (fB1 k),.bool (fS k),.int .i64 (fU k),.int .i64 (fM k)]
def TK:List D:=(bP 1++bP 2++bP 3++bP 4++bP 5++bP 6++bP 7++bP 8++bP 9++bP 10).map D.sc
theorem cC9 (s g u m:Value) (a b c d:Value):aC (UP (UP [.sc s,.sc (.int .i64 0),.sc (.int .i64 0),.sc (.int .i64 0),.sc (.int .i64 0),.sc (.bool false),.sc (.int .i64 0),.sc (.int .i64 0)] 1 [.sc a,.sc b]) 3 [.sc c,.sc d]) [(5,1,.sc g),(6,1,.sc u),(7,1,.sc m)]=some [.sc s,.sc a,.sc b,.sc c,.sc d,.sc g,.sc u,.sc m]:=(rfl)
theorem cD0 (nx t:Nat):M4 nx t 8 10 [.string ⟨#[]⟩,.int .i64 0,.int .i64 0,.int .i64 0,.int .i64 0,.bool false,.int .i64 0,.int .i64 0] [(0,8,.agg [.sc (.string ⟨#[]⟩),.sc (.int .i64 0),.sc (.int .i64 0),.sc (.int .i64 0),.sc (.int .i64 0),.sc (.bool true),.sc (.int .i64 1),.sc (.int .i64 1)]),(8,8,.agg [.sc (.string ⟨#[]⟩),.sc (.int .i64 0),.sc (.int .i64 0),.sc (.int .i64 0),.sc (.int .i64 0),.sc (.bool false),.sc (.int .i64 0),.sc (.int .i64 1)]),(16,8,.agg [.sc (.string ⟨#[102]⟩),.sc (.int .i64 2),.sc (.int .i64 4),.sc (.int .i64 0),.sc (.int .i64 0),.sc (.bool true),.sc (.int .i64 2),.sc (.int .i64 1)]),(24,8,.agg [.sc (.string ⟨#[108]⟩),.sc (.int .i64 2),.sc (.int .i64 4),.sc (.int .i64 0),.sc (.int .i64 0),.sc (.bool true),.sc (.int .i64 2),.sc (.int .i64 1)]),(32,8,.agg [.sc (.string ⟨#[109]⟩),.sc (.int .i64 2),.sc (.int .i64 4),.sc (.int .i64 0),.sc (.int .i64 0),.sc (.bool true),.sc (.int .i64 1),.sc (.int .i64 2)]),(40,8,.agg [.sc (.string ⟨#[120]⟩),.sc (.int .i64 1),.sc (.int .i64 6),.sc (.int .i64 1),.sc (.int .i64 6),.sc (.bool true),.sc (.int .i64 3),.sc (.int .i64 3)]),(48,8,.agg [.sc (.string ⟨#[121]⟩),.sc (.int .i64 1),.sc (.int .i64 6),.sc (.int .i64 1),.sc (.int .i64 6),.sc (.bool true),.sc (.int .i64 3),.sc (.int .i64 3)]),(56,8,.agg [.sc (.string ⟨#[115]⟩),.sc (.int .i64 0),.sc (.int .i64 0),.sc (.int .i64 0),.sc (.int .i64 0),.sc (.bool true),.sc (.int .i64 1),.sc (.int .i64 1)]),(64,8,.agg [.sc (.string ⟨#[]⟩),.sc (.int .i64 1),.sc (.int .i64 200),.sc (.int .i64 0),.sc (.int .i64 0),.sc (.bool false),.sc (.int .i64 0),.sc (.int .i64 2)]),(72,8,.agg [.sc (.string ⟨#[111]⟩),.sc (.int .i64 1),.sc (.int .i64 200),.sc (.int .i64 0),.sc (.int .i64 0),.sc (.bool true),.sc (.int .i64 2),.sc (.int .i64 0)])]=some (.ref nx 0 10 10,some (.row t 8 false false TK),[]):=(rfl)
theorem aC3 (k:Nat) (h1:1≤k) (h2:k≤10):E7 TK ((k - 1)*8) (some 8)=some (.agg ((bP k).map V.sc)):=by
 rcases (by omega:k=1∨k=2∨k=3∨k=4∨k=5∨k=6∨k=7∨k=8∨k=9∨k=10) with rfl|rfl|rfl|rfl|rfl|rfl|rfl|rfl|rfl|rfl<;>rfl
attribute [local irreducible] TK
theorem aG4 {x:p9} (h1:1≤x.kind) (h2:x.kind≤10):G4 x↔(fA0 x.kind≤x.a∧x.a≤fA1 x.kind)∧(fB0 x.kind≤x.b∧x.b≤fB1 x.kind)∧(x.purl=true→fS x.kind=true):=by
 obtain ⟨k,p,a,b⟩:=x
 simp only at h1 h2 ⊢
 unfold G4
 simp only
 rcases (by omega:k=1∨k=2∨k=3∨k=4∨k=5∨k=6∨k=7∨k=8∨k=9∨k=10) with rfl|rfl|rfl|rfl|rfl|rfl|rfl|rfl|rfl|rfl
 all_goals
  cases p<;>simp[fA0,fA1,fB0,fB1,fS]<;>omega
theorem aG5 {x:p9} (h:¬ (1≤x.kind∧x.kind≤10)):C7 x=false:=by
 rw[← Bool.not_eq_true,D8]
 intro hx
 exact h ⟨hx.bounds.1,hx.bounds.2.1⟩
def IN (x:p9) (h:Nat):Int:=if h=0 then 0 else if h=1 then 1 else if h=2 then x.a else x.a+x.b
theorem VH {x:p9} (h1:1≤x.kind) (h2:x.kind≤10):P6 x=IN x (fU x.kind)∧P5 x=IN x (fM x.kind):=by
 obtain ⟨k,p,a,b⟩:=x
 simp only at h1 h2 ⊢
 rcases (by omega:k=1∨k=2∨k=3∨k=4∨k=5∨k=6∨k=7∨k=8∨k=9∨k=10) with rfl|rfl|rfl|rfl|rfl|rfl|rfl|rfl|rfl|rfl
 all_goals
  simp[P6,P5,IN,fU,fM]
theorem aN1 (k:Nat):fU k≤3∧fM k≤3:=by
 constructor
 ·unfold fU;split<;>decide
 ·unfold fM;split<;>decide
abbrev nM (x:p9):V:= .agg [.sc (.int .u8 x.kind),.sc (.bool x.purl),.sc (.int .i64 x.a),.sc (.int .i64 x.b)]
theorem uH:Int.toNat 0=0:=rfl
theorem tn1:Int.toNat 1=1:=rfl
section
variable (w:World) (n:Nat)
theorem WT (k:Nat) (hk:1≤k) (hk2:k≤10):n9 (EN w (n+1)) 70 [.sc (.int .u8 k)] (.tup [.agg ((bP k).map V.sc),.sc (.bool true)]) ⟨[],0,0⟩:=by
 refine d6 rfl rfl (fun _ _=>rfl) (Nat.le_of_ble_eq_true rfl) (i6 w) rfl fun C hC h0=>?_
 have hld:=aC3 k hk hk2
 have hw:IntKind.u8.wrap ((k:Int) - 1)=((k - 1:Nat):Int):=by rw[uM _ (by omega) (by omega)];omega
 unfold bP at hld ⊢
 simp (disch:=first|omega|exact bd (by with_unfolding_all rfl)|(simp only[d9]<;>omega)) only[WA,Nat.reduceEqDiff,Nat.reduceLT,Nat.reduceAdd,↓reduceIte,reduceCtorEq,List.replicate,c70,cC9,↓cD0]
 rw[hw]
 simp (disch:=first|exact bd (by with_unfolding_all rfl)|(simp only[d9]<;>omega)) only[WA,Nat.reduceEqDiff,Nat.reduceLT,↓reduceIte,reduceCtorEq,hld]
 exact b8 rfl h0 rfl
theorem aN4 (k:Nat) (hk:¬ (1≤k∧k≤10)) (hb:k<256):n9 (EN w (n+1)) 70 [.sc (.int .u8 k)] (.tup [.agg [.sc (.string ⟨#[]⟩),.sc (.int .i64 0),.sc (.int .i64 0),.sc (.int .i64 0),.sc (.int .i64 0),.sc (.bool false),.sc (.int .i64 0),.sc (.int .i64 0)],.sc (.bool false)]) ⟨[],0,0⟩:=by
 have hne:¬ (k:Int)<1→10<(k:Int):=by omega
 by_cases h1:(k:Int)<1
 all_goals
  refine d6 rfl rfl (fun _ _=>rfl) (Nat.le_of_ble_eq_true rfl) (i6 w) rfl fun C hC h0=>?_
  repeat' (first|(simp (disch:=first|omega|exact bd (by with_unfolding_all rfl)|(simp only[d9]<;>omega)) only[WA,Nat.reduceEqDiff,Nat.reduceLT,Nat.reduceAdd,↓reduceIte,reduceCtorEq,List.replicate,c70,cC9,↓cD0])|apply j6|((first|apply n6|apply l9|apply k8|apply n7|apply n5|apply k9)<;>intro _))
  all_goals try (exfalso;omega)
  exact b8 rfl h0 rfl
theorem RX (v lo hi:Int):n9 (EN w (n+1)) 71 [.sc (.int .i64 v),.agg [.sc (.int .i64 lo),.sc (.int .i64 hi)]] (.sc (.bool (decide (lo≤v∧v≤hi)))) ⟨[],0,0⟩:=by
 refine d6 rfl rfl (fun _ _=>rfl) (Nat.le_of_ble_eq_true rfl) (i6 w) rfl fun C hC h0=>?_
 by_cases h1:lo≤v
 ·by_cases h2:v≤hi
  ·rw[decide_eq_true ⟨h1,h2⟩]
   simp (disch:=first|omega|exact bd (by with_unfolding_all rfl)|fail) only[WA,Nat.reduceEqDiff,Nat.reduceLT,↓reduceIte,reduceCtorEq,c71,uH,tn1]
   all_goals try (exfalso;omega)
   exact b8 rfl h0 rfl
  ·rw[decide_eq_false (fun h=>h2 h.2)]
   simp (disch:=first|omega|exact bd (by with_unfolding_all rfl)|fail) only[WA,Nat.reduceEqDiff,Nat.reduceLT,↓reduceIte,reduceCtorEq,c71,uH,tn1]
   all_goals try (exfalso;omega)
   exact b8 rfl h0 rfl
 ·rw[decide_eq_false (fun h=>h1 h.1)]
  simp (disch:=first|omega|exact bd (by with_unfolding_all rfl)|fail) only[WA,Nat.reduceEqDiff,Nat.reduceLT,↓reduceIte,reduceCtorEq,c71,uH,tn1]
  all_goals try (exfalso;omega)
  exact b8 rfl h0 rfl
end
end Go.Proofs.YtimmmnanllcfoaaDoor
namespace Go.Proofs.YtimmmnanllcfoaaDoor
open Go Go.Itp
set_option maxRecDepth 100000
set_option maxHeartbeats 400000
set_option linter.unusedSimpArgs false
set_option linter.unusedVariables false
def q9 (L:List p9):List D:=L.flatMap fun x=> [.sc (.int .u8 x.kind),.sc (.bool x.purl),.sc (.int .i64 x.a),.sc (.int .i64 x.b)]
theorem z6 (L:List p9):(q9 L).length=L.length*4:=by
 induction L with
 |nil=>rfl
 |cons p L ih=>
  have e:q9 (p::L)= [.sc (.int .u8 p.kind),.sc (.bool p.purl),.sc (.int .i64 p.a),.sc (.int .i64 p.b)]++q9 L:=by simp[q9]
  rw[e,List.length_append,ih];simp;omega
theorem J1 (L:List p9) (k:Nat) (hk:k<L.length):E7 (q9 L) (k*4) (some 4)=some (nM L[k]!):=by
 have:=vU (fun x:p9=> [D.sc (.int .u8 x.kind),.sc (.bool x.purl),.sc (.int .i64 x.a),.sc (.int .i64 x.b)]) 4 L (fun _=>rfl) (by decide) k hk
 unfold q9
 rw[this]
 rfl
theorem ix0 (a b c d:V):wS 4 1 none (.agg [a,b,c,d]) (.sc (.int .i64 ((0:Nat):Int)))=some a:=(rfl)
theorem ix1 (a b c d:V):wS 4 1 none (.agg [a,b,c,d]) (.sc (.int .i64 ((1:Nat):Int)))=some b:=(rfl)
theorem ix2 (a b c d:V):wS 4 1 none (.agg [a,b,c,d]) (.sc (.int .i64 ((2:Nat):Int)))=some c:=(rfl)
theorem ix3 (a b c d:V):wS 4 1 none (.agg [a,b,c,d]) (.sc (.int .i64 ((3:Nat):Int)))=some d:=(rfl)
section
variable (w:World) (n:Nat)
theorem PY (x:p9) (hk:x.kind<256):n9 (EN w (n+2)) 49 [nM x] (.sc (.int .i64 (if C7 x=true then 0 else 8))) ⟨[],0,0⟩:=by
 by_cases hr:1≤x.kind∧x.kind≤10
 ·have hf:=WT w n x.kind hr.1 hr.2
  have w1:=RX w n x.a (fA0 x.kind) (fA1 x.kind)
  have w2:=RX w n x.b (fB0 x.kind) (fB1 x.kind)
  have he:C7 x=(decide (fA0 x.kind≤x.a∧x.a≤fA1 x.kind) && (decide (fB0 x.kind≤x.b∧x.b≤fB1 x.kind) && (!x.purl||fS x.kind))):=by
   have h1:=aG4 hr.1 hr.2
   rw[Bool.eq_iff_iff,D8,h1]
   cases x.purl<;>simp
  rw[he]
  unfold bP at hf
  generalize decide (fA0 x.kind≤x.a∧x.a≤fA1 x.kind)=A at*
  generalize decide (fB0 x.kind≤x.b∧x.b≤fB1 x.kind)=B at*
  generalize fS x.kind=S at*
  obtain ⟨k,p,a,b⟩:=x
  simp only at hf w1 w2 ⊢
  have go:∀ e:Int,(A=false∧e=8)∨(A=true∧B=false∧e=8)∨(A=true∧B=true∧p=false∧e=0)∨(A=true∧B=true∧p=true∧S=false∧e=8)∨(A=true∧B=true∧p=true∧S=true∧e=0)→n9 (EN w (n+2)) 49 [nM ⟨k,p,a,b⟩] (.sc (.int .i64 e)) ⟨[],0,0⟩:=by
   rintro e (⟨rfl,rfl⟩|⟨rfl,rfl,rfl⟩|⟨rfl,rfl,rfl,rfl⟩|⟨rfl,rfl,rfl,rfl,rfl⟩|⟨rfl,rfl,rfl,rfl,rfl⟩)
   all_goals
    refine d6 rfl rfl (fun _ _=>rfl) (Nat.le_of_ble_eq_true rfl) (i6 w) rfl fun C hC h0=>?_
    repeat' (first|(simp (disch:=first|exact bd (by with_unfolding_all rfl)|fail) only[WA,Nat.reduceEqDiff,Nat.reduceLT,↓reduceIte,reduceCtorEq,c49]))
    refine a6 (by rw[hC];exact hf.flat rfl rfl) ?_
    repeat' (first|(simp (disch:=first|exact bd (by with_unfolding_all rfl)|(simp only[d9]<;>omega)) only[WA,Nat.reduceEqDiff,Nat.reduceLT,Nat.reduceAdd,↓reduceIte,reduceCtorEq,List.replicate]))
    refine a6 (by rw[hC];exact w1.flat rfl rfl) ?_
    repeat' (first|(simp (disch:=first|exact bd (by with_unfolding_all rfl)|fail) only[WA,Nat.reduceEqDiff,Nat.reduceLT,↓reduceIte,reduceCtorEq]))
   ·exact b8 rfl h0 rfl
   all_goals
    refine a6 (by rw[hC];exact w2.flat rfl rfl) ?_
    repeat' (first|(simp (disch:=first|exact bd (by with_unfolding_all rfl)|fail) only[WA,Nat.reduceEqDiff,Nat.reduceLT,↓reduceIte,reduceCtorEq]))
    exact b8 rfl h0 rfl
  refine go _ ?_
  cases A<;>cases B<;>cases p<;>cases S<;>simp
 ·have hf:=aN4 w n x.kind hr hk
  rw[aG5 hr]
  obtain ⟨k,p,a,b⟩:=x
  refine d6 rfl rfl (fun _ _=>rfl) (Nat.le_of_ble_eq_true rfl) (i6 w) rfl fun C hC h0=>?_
  simp (disch:=first|exact bd (by with_unfolding_all rfl)|fail) only[WA,Nat.reduceEqDiff,Nat.reduceLT,↓reduceIte,reduceCtorEq,c49]
  refine a6 (by rw[hC];exact hf.flat rfl rfl) ?_
  simp (disch:=first|omega|exact bd (by with_unfolding_all rfl)|(simp only[d9]<;>omega)) only[WA,Nat.reduceEqDiff,Nat.reduceLT,Nat.reduceAdd,↓reduceIte,List.replicate]
  exact b8 rfl h0 rfl
theorem YB (x:p9) (h:Nat) (hh:h≤3) (ha: -1000000≤x.a∧x.a≤1000000) (hb: -1000000≤x.b∧x.b≤1000000):n9 (EN w (n+1)) 72 [nM x,.sc (.int .i64 h)] (.sc (.int .i64 (IN x h))) ⟨[],0,0⟩:=by
 obtain ⟨k,p,a,b⟩:=x
 simp only at ha hb
 rcases (by omega:h=0∨h=1∨h=2∨h=3) with rfl|rfl|rfl|rfl
 all_goals
  refine d6 rfl rfl (fun _ _=>rfl) (Nat.le_of_ble_eq_true rfl) (i6 w) rfl fun C hC h0=>?_
  repeat' (first|(simp (disch:=first|omega|exact bd (by with_unfolding_all rfl)|(simp only[d9]<;>omega)) only[WA,Nat.reduceEqDiff,Nat.reduceLT,↓reduceIte,reduceCtorEq,c72,ix0,ix1,ix2,ix3]))
  all_goals try (exfalso;omega)
  exact b8 rfl h0 rfl
theorem lD {f:p9→Int} {L:List p9} (h:∀ x ∈ L,0≤f x∧f x≤1000):0≤Q1 f L∧Q1 f L≤1000*L.length:=by
 induction L with
 |nil=>simp[Q1]
 |cons x L ih=>
  have h1:=h x (by simp)
  have h2:=ih fun y hy=>h y (List.mem_cons_of_mem _ hy)
  simp only[Q1,List.length_cons]
  omega
theorem lC {f:p9→Int} {L:List p9} {k:Nat} (hk:k<L.length):Q1 f (L.take (k+1))=Q1 f (L.take k)+f L[k]! :=by
 have app:∀ A B:List p9,Q1 f (A++B)=Q1 f A+Q1 f B:=by
  intro A B
  induction A with
  |nil=>simp[Q1]
  |cons x A ih=>simp only[List.cons_append,Q1,ih];omega
 rw[List.take_succ_eq_append_getElem hk,app,getElem!_pos _ k hk]
 simp[Q1]
theorem Y1 {x:p9} (h:G4 x):(0≤P6 x∧P6 x≤1000)∧0≤P5 x∧P5 x≤1000:=by
 have hb:=h.bounds
 unfold P6 P5
 constructor
 ·split
  ·omega
  split
  ·omega
  split<;>omega
 ·split
  ·omega
  split
  ·omega
  split<;>omega
theorem bU1 (s:Nat) (L:List p9) (hL:L.length≤200) (hok:L.all C7=true):n9 (EN w (n+2)) 50 [.sl s L.length (q9 L)] (.tup [.sc (.int .i64 (Q1 P6 L)),.sc (.int .i64 (Q1 P5 L))]) ⟨[],0,0⟩:=by
 refine d6 rfl rfl (fun _ _=>rfl) (Nat.le_of_ble_eq_true rfl) (i6 w) rfl fun C hC h0=>?_
 have hrn:C.E.rounds=F4:=by rw[hC,m7]
 have hil:=z6 L
 simp (disch:=first|exact bd (by with_unfolding_all rfl)|fail) only[WA,Nat.reduceEqDiff,Nat.reduceLT,↓reduceIte,reduceCtorEq,c50]
 all_goals try (exfalso;omega)
 refine A6 (fun m fr st=>∃ (k:Nat),m=L.length - k∧k≤L.length∧fr= [(2,.sc (.int .i64 (Q1 P6 (L.take k)))),(3,.sc (.int .i64 (Q1 P5 (L.take k)))),(8,.sl s L.length (q9 L)),(9,.sc (.int .i64 L.length)),(10,.sc (.int .i64 k))]∧st=⟨[],0,0⟩) L.length ?_ ⟨_,_,.refl _ _,0,by omega,Nat.zero_le _,rfl,rfl⟩ ?_
 ·rw[hrn];unfold F4;omega
 rintro m fr st ⟨k,rfl,hk,rfl,rfl⟩
 by_cases hlt:k<L.length
 case neg=>
  have:k=L.length:=by omega
  subst this
  rw[List.take_length]
  simp (disch:=first|omega|exact bd (by with_unfolding_all rfl)|fail) only[WA,Nat.reduceEqDiff,Nat.reduceLT,↓reduceIte,aK3]
  all_goals try (exfalso;omega)
  exact b8 rfl h0 rfl
 have hag:=J1 L k hlt
 have u1:=lC (f:=P6) hlt
 have u2:=lC (f:=P5) hlt
 have htk:∀ x ∈ L.take k,G4 x:=fun x hx=>D8.1 (List.all_eq_true.1 hok x (List.mem_of_mem_take hx))
 have b1:=lD (f:=P6) fun x hx=>(Y1 (htk x hx)).1
 have b2:=lD (f:=P5) fun x hx=>(Y1 (htk x hx)).2
 have hl2:(L.take k).length≤200:=by rw[List.length_take];omega
 have hx:G4 L[k]! :=D8.1 (List.all_eq_true.1 hok _ (by rw[getElem!_pos _ k hlt];exact List.getElem_mem hlt))
 generalize L[k]! =X at*
 have hb:=hx.bounds
 have c1:=Y1 hx
 have hf:=WT w n X.kind hb.1 hb.2.1
 have l1:=YB w n X (fU X.kind) (aN1 _).1 (by omega) (by omega)
 have l2:=YB w n X (fM X.kind) (aN1 _).2 (by omega) (by omega)
 have e:=VH hb.1 hb.2.1
 rw[← e.1] at l1
 rw[← e.2] at l2
 unfold bP at hf
 generalize Q1 P6 (L.take k)=U at*
 generalize Q1 P5 (L.take k)=M at*
 generalize P6 X=uu at*
 generalize P5 X=mm at*
 obtain ⟨xk,xp,xa,xb⟩:=X
 simp (disch:=first|omega|exact bd (by with_unfolding_all rfl)|(simp only[d9]<;>omega)) only[WA,Nat.reduceEqDiff,Nat.reduceLT,↓reduceIte,List.replicate,aK3,hag]
 all_goals try (exfalso;omega)
 refine a6 (by rw[hC];exact hf.flat rfl rfl) ?_
 simp (disch:=first|exact bd (by with_unfolding_all rfl)|(simp only[d9]<;>omega)) only[WA,Nat.reduceEqDiff,Nat.reduceLT,Nat.reduceAdd,↓reduceIte,reduceCtorEq,List.replicate]
 refine a6 (by rw[hC];exact l1.flat rfl rfl) ?_
 simp (disch:=first|omega|exact bd (by with_unfolding_all rfl)|fail) only[WA,Nat.reduceEqDiff,Nat.reduceLT,↓reduceIte,reduceCtorEq]
 refine a6 (by rw[hC];exact l2.flat rfl rfl) ?_
 simp (disch:=first|omega|exact bd (by with_unfolding_all rfl)|fail) only[WA,Nat.reduceEqDiff,Nat.reduceLT,↓reduceIte]
 all_goals try (exfalso;omega)
 refine ⟨L.length - (k+1),_,_,by omega,w7 [] 0 h0 rfl rfl rfl rfl,k+1,rfl,by omega,?_,rfl⟩
 rw[u1,u2]
 rfl
end
abbrev KA (L:List p9):Prop:=∀ x ∈ L,x.kind<256
theorem KA.at {L:List p9} (h:KA L) {k:Nat} (hk:k<L.length):L[k]!.kind<256:=h _ (by rw[getElem!_pos _ k hk];exact List.getElem_mem hk)
theorem FP {L:List p9} {k:Nat} (hk:k<L.length) (h:(L.take k).all C7=true) (h2:C7 L[k]! =true):(L.take (k+1)).all C7=true:=by
 rw[List.take_succ_eq_append_getElem hk,List.all_append,h]
 rw[getElem!_pos _ k hk] at h2
 simp[h2]
theorem QK {L:List p9} {k:Nat} (hk:k<L.length) (h2:C7 L[k]! =false):¬ L.all C7=true:=fun h=>by
 rw[getElem!_pos _ k hk] at h2
 have:=List.all_eq_true.1 h _ (List.getElem_mem hk)
 rw[this] at h2;cases h2
section
variable (w:World) (n:Nat)
theorem bG9 (x:p9) (hk:x.kind<256):n9 (EN w (n+3)) 48 [nM x] (.sc (.bool (!C7 x))) ⟨[],0,0⟩:=by
 have hc:=PY w n x hk
 cases he:C7 x with
 |true=>
  rw[he,if_pos rfl] at hc
  obtain ⟨xk,xp,xa,xb⟩:=x
  refine d6 rfl rfl (fun _ _=>rfl) (Nat.le_of_ble_eq_true rfl) (i6 w) rfl fun C hC h0=>?_
  simp (disch:=first|exact bd (by with_unfolding_all rfl)|fail) only[WA,Nat.reduceEqDiff,Nat.reduceLT,↓reduceIte,reduceCtorEq,c48]
  refine a6 (by rw[hC];exact hc.flat rfl rfl) ?_
  simp (disch:=first|exact bd (by with_unfolding_all rfl)|fail) only[WA,Nat.reduceEqDiff,Nat.reduceLT,↓reduceIte]
  exact b8 rfl h0 rfl
 |false=>
  rw[he,if_neg (by decide)] at hc
  obtain ⟨xk,xp,xa,xb⟩:=x
  refine d6 rfl rfl (fun _ _=>rfl) (Nat.le_of_ble_eq_true rfl) (i6 w) rfl fun C hC h0=>?_
  simp (disch:=first|exact bd (by with_unfolding_all rfl)|fail) only[WA,Nat.reduceEqDiff,Nat.reduceLT,↓reduceIte,reduceCtorEq,c48]
  refine a6 (by rw[hC];exact hc.flat rfl rfl) ?_
  simp (disch:=first|exact bd (by with_unfolding_all rfl)|(simp only[d9]<;>omega)) only[WA,Nat.reduceEqDiff,Nat.reduceLT,Int.reduceEq,↓reduceIte]
  exact b8 rfl h0 rfl
theorem aW5 (s:Nat) (L:List p9) (hL:L.length≤200) (hK:KA L):∃ r:Int,(L.all C7=true→r= -1)∧(¬ L.all C7=true→0≤r)∧
  n9 (EN w (n+4)) 69 [.sl s L.length (q9 L),.sc (.func (.func 48) #[] #[])] (.sc (.int .i64 r)) ⟨[],0,0⟩:=by
 have main:∀ (j:Nat),j≤L.length→(L.take j).all C7=true→(j<L.length→C7 L[j]! =false)→n9 (EN w (n+4)) 69 [.sl s L.length (q9 L),.sc (.func (.func 48) #[] #[])] (.sc (.int .i64 (if j<L.length then (j:Int) else -1))) ⟨[],0,0⟩:=by
  intro j hj hall hbad
  refine d6 rfl rfl (fun _ _=>rfl) (Nat.le_of_ble_eq_true rfl) (i6 w) rfl fun C hC h0=>?_
  have hrn:C.E.rounds=F4:=by rw[hC,m7]
  have hil:=z6 L
  simp (disch:=first|exact bd (by with_unfolding_all rfl)|fail) only[WA,Nat.reduceEqDiff,Nat.reduceLT,Int.reduceNeg,↓reduceIte,reduceCtorEq,c69]
  all_goals try (exfalso;omega)
  refine A6 (fun m fr st=>∃ (k:Nat),m=L.length - k∧k≤j∧fr= [(0,.sl s L.length (q9 L)),(1,.sc (.func (.func 48) #[] #[])),(7,.sc (.int .i64 L.length)),(8,.sc (.int .i64 k))]∧st=⟨[],0,0⟩) L.length ?_ ⟨_,_,.refl _ _,0,by omega,Nat.zero_le _,rfl,rfl⟩ ?_
  ·rw[hrn];unfold F4;omega
  rintro m fr st ⟨k,rfl,hk,rfl,rfl⟩
  by_cases hlt:k<L.length
  case neg=>
   rw[if_neg (by omega)]
   simp (disch:=first|omega|exact bd (by with_unfolding_all rfl)|fail) only[WA,Nat.reduceEqDiff,Nat.reduceLT,Int.reduceNeg,↓reduceIte,reduceCtorEq,WF]
   all_goals try (exfalso;omega)
   exact b8 rfl h0 rfl
  have hag:=J1 L k hlt
  have h1:=bG9 w n L[k]! (hK.at hlt)
  by_cases hkj:k=j
  ·subst hkj
   rw[hbad hlt] at h1
   rw[if_pos hlt]
   generalize L[k]! =X at*
   obtain ⟨xk,xp,xa,xb⟩:=X
   simp (disch:=first|omega|exact bd (by with_unfolding_all rfl)|fail) only[WA,Nat.reduceEqDiff,Nat.reduceLT,Int.reduceNeg,↓reduceIte,reduceCtorEq,WF,hag]
   all_goals try (exfalso;omega)
   refine a6 (by rw[hC];exact h1.flat rfl rfl) ?_
   simp (disch:=first|exact bd (by with_unfolding_all rfl)|fail) only[WA,Nat.reduceEqDiff,Nat.reduceLT,Int.reduceNeg,↓reduceIte,reduceCtorEq]
   exact b8 rfl h0 rfl
  ·have ho:C7 L[k]! =true:=List.all_eq_true.1 hall _ (by
    rw[getElem!_pos _ k hlt]
    exact List.mem_iff_getElem.2 ⟨k,by rw[List.length_take];omega,List.getElem_take⟩)
   rw[ho] at h1
   generalize L[k]! =X at*
   obtain ⟨xk,xp,xa,xb⟩:=X
   simp (disch:=first|omega|exact bd (by with_unfolding_all rfl)|fail) only[WA,Nat.reduceEqDiff,Nat.reduceLT,Int.reduceNeg,↓reduceIte,reduceCtorEq,WF,hag]
   all_goals try (exfalso;omega)
   refine a6 (by rw[hC];exact h1.flat rfl rfl) ?_
   simp (disch:=first|omega|exact bd (by with_unfolding_all rfl)|fail) only[WA,Nat.reduceEqDiff,Nat.reduceLT,Int.reduceNeg,↓reduceIte,reduceCtorEq]
   exact ⟨L.length - (k+1),_,_,by omega,.refl _ _,k+1,rfl,by omega,rfl,rfl⟩
 have hex:∃ j,j≤L.length∧(L.take j).all C7=true∧(j<L.length→C7 L[j]! =false):=by
  have:∀ m,m≤L.length→(L.take m).all C7=true∨∃ j,j<m∧(L.take j).all C7=true∧C7 L[j]! =false:=by
   intro m
   induction m with
   |zero=>intro _;exact .inl rfl
   |succ m ih=>
    intro hm
    rcases ih (by omega) with h|⟨j,h1,h2,h3⟩
    ·cases hc:C7 L[m]! with
     |true=>exact .inl (FP (by omega) h hc)
     |false=>exact .inr ⟨m,by omega,h,hc⟩
    ·exact .inr ⟨j,by omega,h2,h3⟩
  rcases this L.length (Nat.le_refl _) with h|⟨j,h1,h2,h3⟩
  ·exact ⟨L.length,Nat.le_refl _,h,fun h=>absurd h (Nat.lt_irrefl _)⟩
  ·exact ⟨j,by omega,h2,fun _=>h3⟩
 obtain ⟨j,h1,h2,h3⟩:=hex
 refine ⟨_,fun hall=>?_,fun hall=>?_,main j h1 h2 h3⟩
 ·rw[if_neg fun h=>QK h (h3 h) hall]
 ·by_cases h:j<L.length
  ·rw[if_pos h];omega
  ·have:j=L.length:=by omega
   subst this
   rw[List.take_length] at h2
   exact absurd h2 hall
theorem PZ (s:Nat) (L:List p9) (hL:L.length≤200) (hK:KA L):n9 (EN w (n+5)) 47 [.sl s L.length (q9 L),.sc (.func (.func 48) #[] #[])] (.sc (.bool (!(L.all C7)))) ⟨[],0,0⟩:=by
 obtain ⟨r,h1,h2,hr⟩:=aW5 w n s L hL hK
 cases ha:L.all C7 with
 |true=>
  have e:=h1 ha
  subst e
  refine d6 rfl rfl (fun _ _=>rfl) (Nat.le_of_ble_eq_true rfl) (i6 w) rfl fun C hC h0=>?_
  simp (disch:=first|exact bd (by with_unfolding_all rfl)|fail) only[WA,Nat.reduceEqDiff,Nat.reduceLT,↓reduceIte,reduceCtorEq,c47]
  refine a6 (by rw[hC];exact hr.flat rfl rfl) ?_
  simp (disch:=first|exact bd (by with_unfolding_all rfl)|fail) only[WA,Nat.reduceEqDiff,Nat.reduceLT,Int.reduceLE,Int.reduceNeg,↓reduceIte,reduceCtorEq]
  exact b8 rfl h0 rfl
 |false=>
  have e:=h2 (by rw[ha];decide)
  refine d6 rfl rfl (fun _ _=>rfl) (Nat.le_of_ble_eq_true rfl) (i6 w) rfl fun C hC h0=>?_
  simp (disch:=first|exact bd (by with_unfolding_all rfl)|fail) only[WA,Nat.reduceEqDiff,Nat.reduceLT,↓reduceIte,reduceCtorEq,c47]
  refine a6 (by rw[hC];exact hr.flat rfl rfl) ?_
  simp (disch:=first|omega|exact bd (by with_unfolding_all rfl)|fail) only[WA,Nat.reduceEqDiff,Nat.reduceLT,↓reduceIte,reduceCtorEq]
  all_goals try (exfalso;omega)
  exact b8 rfl h0 rfl
theorem JI (s:Nat) (L:List p9) (hL:L.length≤140737488351232) (hK:KA L):n9 (EN w (n+6)) 27 [.sl s L.length (q9 L)] (.sc (.int .i64 (K9 L))) ⟨[],0,0⟩:=by
 have hil:=z6 L
 unfold K9
 by_cases h2:200<L.length
 ·rw[if_pos h2]
  refine d6 rfl rfl (fun _ _=>rfl) (Nat.le_of_ble_eq_true rfl) (i6 w) rfl fun C hC h0=>?_
  simp (disch:=first|omega|exact bd (by with_unfolding_all rfl)|fail) only[WA,Nat.reduceEqDiff,Nat.reduceLT,↓reduceIte,reduceCtorEq,c27]
  all_goals try (exfalso;omega)
  exact b8 rfl h0 rfl
 rw[if_neg h2]
 have hc:=PZ w n s L (by omega) hK
 cases ha:L.all C7 with
 |false=>
  rw[ha] at hc
  rw[if_neg (by decide)]
  refine d6 rfl rfl (fun _ _=>rfl) (Nat.le_of_ble_eq_true rfl) (i6 w) rfl fun C hC h0=>?_
  simp (disch:=first|omega|exact bd (by with_unfolding_all rfl)|fail) only[WA,Nat.reduceEqDiff,Nat.reduceLT,↓reduceIte,reduceCtorEq,c27]
  all_goals try (exfalso;omega)
  refine a6 (by rw[hC];exact hc.flat rfl rfl) ?_
  simp (disch:=first|exact bd (by with_unfolding_all rfl)|fail) only[WA,Nat.reduceEqDiff,Nat.reduceLT,↓reduceIte,reduceCtorEq]
  exact b8 rfl h0 rfl
 |true=>
  rw[ha] at hc
  rw[if_pos rfl]
  have hs:=bU1 w (n+3) s L (by omega) ha
  generalize Q1 P6 L=U at*
  generalize Q1 P5 L=M at*
  by_cases hm:200<U∨200<M
  ·rw[if_pos hm]
   have hmx:200<max U M:=by omega
   generalize hX:max U M=X at*
   refine d6 rfl rfl (fun _ _=>rfl) (Nat.le_of_ble_eq_true rfl) (i6 w) rfl fun C hC h0=>?_
   simp (disch:=first|omega|exact bd (by with_unfolding_all rfl)|fail) only[WA,Nat.reduceEqDiff,Nat.reduceLT,↓reduceIte,reduceCtorEq,c27]
   all_goals try (exfalso;omega)
   refine a6 (by rw[hC];exact hc.flat rfl rfl) ?_
   simp (disch:=first|exact bd (by with_unfolding_all rfl)|fail) only[WA,Nat.reduceEqDiff,Nat.reduceLT,↓reduceIte,reduceCtorEq]
   refine a6 (by rw[hC];exact hs.flat rfl rfl) ?_
   simp (disch:=first|omega|exact bd (by with_unfolding_all rfl)|fail) only[WA,Nat.reduceEqDiff,Nat.reduceLT,↓reduceIte,reduceCtorEq,uA,hX]
   all_goals try (exfalso;omega)
   exact b8 rfl h0 rfl
  ·rw[if_neg hm]
   have hmx:max U M≤200:=by omega
   generalize hX:max U M=X at*
   refine d6 rfl rfl (fun _ _=>rfl) (Nat.le_of_ble_eq_true rfl) (i6 w) rfl fun C hC h0=>?_
   simp (disch:=first|omega|exact bd (by with_unfolding_all rfl)|fail) only[WA,Nat.reduceEqDiff,Nat.reduceLT,↓reduceIte,reduceCtorEq,c27]
   all_goals try (exfalso;omega)
   refine a6 (by rw[hC];exact hc.flat rfl rfl) ?_
   simp (disch:=first|exact bd (by with_unfolding_all rfl)|fail) only[WA,Nat.reduceEqDiff,Nat.reduceLT,↓reduceIte,reduceCtorEq]
   refine a6 (by rw[hC];exact hs.flat rfl rfl) ?_
   simp (disch:=first|omega|exact bd (by with_unfolding_all rfl)|fail) only[WA,Nat.reduceEqDiff,Nat.reduceLT,↓reduceIte,reduceCtorEq,uA,hX]
   all_goals try (exfalso;omega)
   exact b8 rfl h0 rfl
end
end Go.Proofs.YtimmmnanllcfoaaDoor
namespace Go.Itp
set_option linter.unusedVariables false
set_option linter.unusedSimpArgs false
set_option maxRecDepth 10000
theorem kM {c:UInt8}:∀ (p r:List UInt8),c ∉ p→Lib.index (p++c::r) [c]=p.length
 | [],r,_=>by
  rw[List.nil_append,Lib.index]
  simp[List.isPrefixOf]
 |b::p,r,h=>by
  have hb:(c==b)=false:=by simpa using fun e=>h (by rw[e];simp)
  rw[List.cons_append,Lib.index,kM p r fun e=>h (List.mem_cons_of_mem _ e)]
  simp only[List.isPrefixOf,hb,Bool.false_and,Bool.false_eq_true,if_false,List.length_cons]
  rw[if_neg (by simp only[beq_iff_eq];omega)]
  omega
theorem qZ {c:UInt8}:∀ (s:List UInt8),c ∉ s→Lib.index s [c]= -1
 | [],_=>rfl
 |b::p,h=>by
  have hb:(c==b)=false:=by simpa using fun e=>h (by rw[e];simp)
  rw[Lib.index,qZ p fun e=>h (List.mem_cons_of_mem _ e)]
  simp[List.isPrefixOf,hb]
theorem bZ {c:UInt8} {p r u:List UInt8} (h:c ∉ p) (hu:u ≠ [c]):Lib.replace (p++c::r) [c] u 1=p++u++r:=by
 have hi:=kM p r h
 have hc:=Lib.count_hit (s:=p++c::r) (sub:= [c]) (i:=p.length) (by simp) hi
 have hn:Lib.replaceNum (p++c::r) [c] 1=1:=by
  unfold Lib.replaceNum
  rw[if_neg (by omega)]
  rfl
 unfold Lib.replace
 rw[if_neg (by simpa using Ne.symm hu),hn,Lib.replaceK_hit _ _ _ _ _ hi,Lib.replaceK]
 simp
theorem kX {c:UInt8} {s u:List UInt8} (h:c ∉ s):Lib.replace s [c] u 1=s:=by
 unfold Lib.replace Lib.replaceNum
 rw[Lib.count_miss (qZ s h)]
 split
 ·rfl
 ·rw[if_pos (by omega),Lib.replaceK]
theorem S8 {z:Int} (h:0≤z):Lib.itoa z ≠ [35]:=S3 h (by decide)
theorem OP {x:p9} {n:Int} (hx:G4 x) (h0:1≤n):B8 x n=if countB x.kind=true then Lib.replace (P4 x.kind x.purl) [35] (Lib.itoa n) 1 else Lib.replace (Lib.replace (P4 x.kind x.purl) [35] (Lib.itoa x.a) 1) [35] (Lib.itoa x.b) 1++J9 x n:=by
 rw[pD n hx]
 have hno:=CR x.kind x.purl
 have hb:=hx.bounds
 have i1:=S8 (z:=n) (by omega)
 have i2:=S8 (z:=x.a) (by omega)
 have i3:=S8 (z:=x.b) (by omega)
 have j2:(35:UInt8) ∉ Lib.itoa x.a:=aS (by omega) _ (by decide)
 have two:∀ (p q:List UInt8) (v:Int),(35:UInt8) ∉ p→Lib.itoa v ≠ [35]→Lib.replace (join 35 [p,q]) [35] (Lib.itoa v) 1=fill [p,q] [v]:=fun p q v h1 h2=>by
  rw[join,join,bZ h1 h2,fill]
  ·simp[fill]
  ·simp
 have two':∀ (p q:List UInt8) (v u:Int),(35:UInt8) ∉ p→(35:UInt8) ∉ q→(35:UInt8) ∉ Lib.itoa v→Lib.itoa v ≠ [35]→Lib.replace (Lib.replace (join 35 [p,q]) [35] (Lib.itoa v) 1) [35] (Lib.itoa u) 1=fill [p,q] [v,u]:=fun p q v u h1 h3 h4 h2=>by
  rw[join,join,bZ h1 h2,kX (by simp[h1,h3,h4]),fill]
  ·simp[fill]
  ·simp
 have three:∀ (p q r:List UInt8) (v u:Int),(35:UInt8) ∉ p→(35:UInt8) ∉ q→(35:UInt8) ∉ Lib.itoa v→Lib.itoa v ≠ [35]→Lib.itoa u ≠ [35]→Lib.replace (Lib.replace (join 35 [p,q,r]) [35] (Lib.itoa v) 1) [35] (Lib.itoa u) 1=fill [p,q,r] [v,u]:=fun p q r v u h1 h3 h4 h2 h5=>by
  rw[join,join,join,bZ h1 h2,← List.append_assoc,bZ (by simp[h1,h3,h4]) h5,fill]
  ·rw[fill]
   ·simp[fill]
   ·simp
  ·simp
 obtain ⟨k,p,a,b⟩:=x
 unfold G4 at hx
 simp only at hx hno i2 i3 j2 ⊢
 unfold P4
 rcases hx with ⟨rfl|rfl,rfl,rfl⟩|⟨rfl,rfl,rfl,rfl⟩|⟨rfl|rfl|rfl,h2,h3,rfl⟩|⟨rfl|rfl,h2,h3⟩|⟨rfl,rfl,h2,h3,rfl⟩|⟨rfl,h2,h3,rfl⟩
 ·rw[if_pos (by decide),show J9 ⟨1,p,0,0⟩ n= [] from by unfold J9;rw[if_neg (by simp)],List.append_nil]
  exact (two _ _ n (hno _ (by simp[r7])) i1).symm
 ·rw[if_pos (by decide),show J9 ⟨8,p,0,0⟩ n= [] from by unfold J9;rw[if_neg (by simp)],List.append_nil]
  exact (two _ _ n (hno _ (by simp[r7])) i1).symm
 ·rw[if_neg (by decide)]
  congr 1
  have h35:(35:UInt8) ∉ join 35 (r7 2 false):=hno _ (by simp[r7,join])
  rw[kX h35,kX h35]
  rfl
 ·rw[if_neg (by decide)]
  congr 1
  exact (two' _ _ a 0 (hno _ (by simp[r7])) (hno _ (by simp[r7])) j2 i2).symm
 ·rw[if_neg (by decide)]
  congr 1
  exact (two' _ _ a 0 (hno _ (by simp[r7])) (hno _ (by simp[r7])) j2 i2).symm
 ·rw[if_neg (by decide)]
  congr 1
  exact (two' _ _ a 0 (hno _ (by simp[r7])) (hno _ (by simp[r7])) j2 i2).symm
 ·rw[if_neg (by decide)]
  congr 1
  exact (three _ _ _ a b (hno _ (by simp[r7])) (hno _ (by simp[r7])) j2 i2 i3).symm
 ·rw[if_neg (by decide)]
  congr 1
  exact (three _ _ _ a b (hno _ (by simp[r7])) (hno _ (by simp[r7])) j2 i2 i3).symm
 ·rw[if_neg (by decide)]
  congr 1
  exact (two' _ _ a 0 (hno _ (by simp[r7])) (hno _ (by simp[r7])) j2 i2).symm
 ·rw[if_neg (by decide)]
  congr 1
  exact (two' _ _ a 0 (hno _ (by simp[r7])) (hno _ (by simp[r7])) j2 i2).symm
theorem mX:∀ s:List UInt8,(Lib.index s [44,32]= -1∧u7 s= [s])∨∃ x r,s=x++44::32::r∧Lib.index s [44,32]=x.length∧u7 s=x::u7 r
 | []=> .inl ⟨rfl,rfl⟩
 | [c]=> .inl ⟨by simp[Lib.index,List.isPrefixOf],rfl⟩
 |c::d::r=>by
  by_cases h:c=44∧d=32
  ·obtain ⟨rfl,rfl⟩:=h
   refine .inr ⟨[],r,rfl,?_,by rw[u7,if_pos ⟨rfl,rfl⟩]⟩
   rw[Lib.index]
   simp[List.isPrefixOf]
  ·have hp:List.isPrefixOf [44,32] (c::d::r)=false:=by
    simp only[List.isPrefixOf,Bool.and_true]
    rw[← Bool.not_eq_true]
    intro e
    simp only[Bool.and_eq_true,beq_iff_eq] at e
    exact h ⟨e.1.symm,e.2.symm⟩
   rcases mX (d::r) with ⟨h1,h2⟩|⟨x,q,h1,h2,h3⟩
   ·refine .inl ⟨?_,by rw[aA h,h2];rfl⟩
    rw[Lib.index,hp,h1]
    rfl
   ·refine .inr ⟨c::x,q,by rw[h1];rfl,?_,by rw[aA h,h3];rfl⟩
    rw[Lib.index,hp,h2]
    rw[if_neg (by decide),if_neg (by simp only[beq_iff_eq];omega)]
    simp
theorem cA3:∀ (m:Nat) (s:List UInt8),s.length≤m→(u7 s).length=Lib.countB ⟨s.toArray⟩ ⟨#[44,32]⟩+1
 |m,s,hm=>by
  show (u7 s).length=Lib.count s [44,32]+1
  rcases mX s with ⟨h1,h2⟩|⟨x,r,rfl,h2,h3⟩
  ·rw[h2,Lib.count_miss h1];rfl
  ·cases m with
   |zero=>simp at hm
   |succ m=>
    have ih:=cA3 m r (by simp at hm;omega)
    rw[h3,Lib.count_hit (by simp) h2,List.length_cons,ih]
    have e:(x++44::32::r).drop (x.length+([44,32]:List UInt8).length)=r:=by
     rw[show x++44::32::r=(x++ [44,32])++r from by simp,List.drop_left' (by simp)]
    rw[e]
    show Lib.count r [44,32]+1+1=_
    omega
theorem fR:∀ (s:List UInt8),(u7 s).length≤s.length+1
 | []=>Nat.le_refl _
 | [c]=>by simp[u7]
 |c::d::r=>by
  rw[u7]
  split
  ·have:=fR r;simp;omega
  ·have:=fR (d::r)
   cases h:u7 (d::r) with
   |nil=>simp[vM]
   |cons a b=>rw[h] at this;simp[vM] at this ⊢;omega
theorem nK:∀ (s:List UInt8),∀ w ∈ u7 s,w.length≤s.length
 | [],w,h=>by simp[u7] at h;simp[h]
 | [c],w,h=>by simp[u7] at h;simp[h]
 |c::d::r,w,h=>by
  rw[u7] at h
  split at h
  ·rcases List.mem_cons.1 h with rfl|h
   ·simp
   ·have:=nK r w h;simp;omega
  ·have ih:=nK (d::r)
   cases hs:u7 (d::r) with
   |nil=>rw[hs] at h;simp[vM] at h;subst h;simp
   |cons a b=>
    rw[hs] at h ih
    simp only[vM] at h
    rcases List.mem_cons.1 h with rfl|h
    ·have:=ih a (by simp);simp at this ⊢;omega
    ·have:=ih w (List.mem_cons_of_mem _ h);simp at this ⊢;omega
end Go.Itp
namespace Go.Proofs.YtimmmnanllcfoaaDoor
open Go Go.Itp
set_option maxRecDepth 100000
set_option maxHeartbeats 400000
set_option linter.unusedSimpArgs false
set_option linter.unusedVariables false
theorem SZ (l:List UInt8) (c:UInt8):Lib.countB ⟨l.toArray⟩ ⟨[c].toArray⟩≤l.length:=by
 have:=Lib.countB_le ⟨[c].toArray⟩ (Nat.le_refl 1) l.length ⟨l.toArray⟩ (by rw[s8];exact Nat.le_refl _)
 rwa [s8] at this
theorem qU:∀ k p,(P4 k p).length≤60:=by
 intro k p
 unfold P4 r7
 split<;>cases p<;>decide
theorem rL (l u:List UInt8) (c:UInt8) (k:Int) (h1:l.length≤1000) (h2:u.length≤1000):l.length+Lib.countB ⟨l.toArray⟩ ⟨[c].toArray⟩*u.length≤140737488355328:=by
 have:=Nat.mul_le_mul (SZ l c) h2
 have h3:l.length*1000≤1000*1000:=Nat.mul_le_mul_right _ h1
 omega
theorem S6 (g:Bool) (k k':Nat) (p p':Bool) (a b a' b':Int):qO g [(0,0),(1,2),(2,0),(3,0)] (.agg [.sc (.int .u8 k),.sc (.bool p),.sc (.int .i64 a),.sc (.int .i64 b)]) (.agg [.sc (.int .u8 k'),.sc (.bool p'),.sc (.int .i64 a'),.sc (.int .i64 b')])=some (.sc (.bool (bE7 g (decide ((⟨k,p,a,b⟩:p9)=⟨k',p',a',b'⟩))))):=by
 rw[mR]
 have e:T9 [(0,0),(1,2),(2,0),(3,0)] [V.sc (.int .u8 k),.sc (.bool p),.sc (.int .i64 a),.sc (.int .i64 b)] [V.sc (.int .u8 k'),.sc (.bool p'),.sc (.int .i64 a'),.sc (.int .i64 b')]=some (decide ((k:Int)=k') && ((p==p') && (decide (a=a') && decide (b=b')))):=by
  simp only[cZ,fB,iG,fA,qD,Bool.and_true,B0,Option.bind_some]
 rw[e]
 simp only[Option.map_some]
 congr 4
 rw[Bool.eq_iff_iff]
 simp only[Bool.and_eq_true,beq_iff_eq,decide_eq_true_eq,p9.mk.injEq]
 constructor
 ·rintro ⟨h1,h2,h3,h4⟩;exact ⟨by omega,h2,h3,h4⟩
 ·rintro ⟨h1,h2,h3,h4⟩;exact ⟨by omega,h2,h3,h4⟩
section
variable (w:World) (n:Nat)
theorem bT8 (p:Bool):n9 (EN w (n+1)) 82 [.sc (.bool p)] (o8 (zB p)) ⟨[],0,0⟩:=by
 cases p
 all_goals
  refine d6 rfl rfl (fun _ _=>rfl) (Nat.le_of_ble_eq_true rfl) (i6 w) rfl fun C hC h0=>?_
  repeat' (first|(simp (disch:=first|exact bd (by with_unfolding_all rfl)|fail) only[WA,Nat.reduceEqDiff,Nat.reduceLT,↓reduceIte,reduceCtorEq,c82]))
  exact b8 rfl h0 rfl
theorem aN3 (k:Nat) (p:Bool) (h1:1≤k) (h2:k≤10):n9 (EN w (n+2)) 57 [.sc (.int .u8 k),.sc (.bool p)] (.tup [o8 (P4 k p),.sc (.bool (countB k))]) ⟨[],0,0⟩:=by
 have hs:=bT8 w n p
 unfold zB at hs
 cases p
 all_goals
  rcases (by omega:k=1∨k=3∨k=4∨k=2∨k=5∨k=6∨k=7∨k=8∨k=9∨k=10) with rfl|rfl|rfl|rfl|rfl|rfl|rfl|rfl|rfl|rfl
  iterate 3
   ·refine d6 rfl rfl (fun _ _=>rfl) (Nat.le_of_ble_eq_true rfl) (i6 w) rfl fun C hC h0=>?_
    repeat' (first|(simp (disch:=first|omega|exact bd (by with_unfolding_all rfl)|fail) only[WA,Nat.reduceEqDiff,Nat.reduceLT,↓reduceIte,reduceCtorEq,c57]))
    refine a6 (by rw[hC];exact hs.flat rfl rfl) ?_
    repeat' (first|(simp (disch:=first|exact bd (by with_unfolding_all rfl)|(simp only[d9]<;>omega)) only[WA,Nat.reduceEqDiff,Nat.reduceLT,↓reduceIte,K2]))
    exact b8 rfl h0 rfl
  all_goals
   refine d6 rfl rfl (fun _ _=>rfl) (Nat.le_of_ble_eq_true rfl) (i6 w) rfl fun C hC h0=>?_
   repeat' (first|(simp (disch:=first|omega|exact bd (by with_unfolding_all rfl)|(simp only[d9]<;>omega)) only[WA,Nat.reduceEqDiff,Nat.reduceLT,↓reduceIte,reduceCtorEq,c57,K2]))
   exact b8 rfl h0 rfl
theorem OR (x:p9) (hx:G4 x) (m:Int) (h0:1≤m) (h1:m≤1000):n9 (EN w (n+3)) 51 [nM x,.sc (.int .i64 m)] (o8 (B8 x m)) ⟨[],0,0⟩:=by
 have hb:=hx.bounds
 have hf:=aN3 w n x.kind x.purl hb.1 hb.2.1
 have hfl:=qU x.kind x.purl
 have hr:=OP hx h0
 have im:=TP w (n+1)
 have l1:=F9 (z:=m) (by omega) (by omega)
 have l2:=F9 (z:=x.a) (by omega) (by omega)
 have l3:=F9 (z:=x.b) (by omega) (by omega)
 have r1:=fun st=>UU w (n+1) st (P4 x.kind x.purl) [35] (Lib.itoa m) 1 (by omega) (Nat.le_refl 1) (rL _ _ 35 1 (by omega) (by omega))
 have r2:=fun st=>UU w (n+1) st (P4 x.kind x.purl) [35] (Lib.itoa x.a) 1 (by omega) (Nat.le_refl 1) (rL _ _ 35 1 (by omega) (by omega))
 have hlen2:(Lib.replace (P4 x.kind x.purl) [35] (Lib.itoa x.a) 1).length≤70:=by
  rcases S2 35 (P4 x.kind x.purl) with h|⟨p,q,e,h⟩
  ·rw[kX h];omega
  ·rw[e,bZ h (S8 (by omega))]
   have:=congrArg List.length e
   simp only[List.length_append,List.length_cons] at this ⊢
   omega
 have r3:=fun st=>UU w (n+1) st (Lib.replace (P4 x.kind x.purl) [35] (Lib.itoa x.a) 1) [35] (Lib.itoa x.b) 1 (by omega) (Nat.le_refl 1) (rL _ _ 35 1 (by omega) (by omega))
 have hlen3:(Lib.replace (Lib.replace (P4 x.kind x.purl) [35] (Lib.itoa x.a) 1) [35] (Lib.itoa x.b) 1).length≤80:=by
  rcases S2 35 (Lib.replace (P4 x.kind x.purl) [35] (Lib.itoa x.a) 1) with h|⟨p,q,e,h⟩
  ·rw[kX h];omega
  ·rw[e,bZ h (S8 (by omega))]
   have:=congrArg List.length e
   simp only[List.length_append,List.length_cons] at this ⊢
   omega
 rw[hr]
 have hk:countB x.kind=true↔x.kind=1∨x.kind=8:=by unfold countB;exact decide_eq_true_iff
 cases hc:countB x.kind with
 |true=>
  rw[hc] at hf
  rw[if_pos rfl]
  generalize P4 x.kind x.purl=F at*
  clear r2 r3 hlen2 hlen3 hr
  obtain ⟨xk,xp,xa,xb⟩:=x
  refine d6 rfl rfl (fun _ _=>rfl) (Nat.le_of_ble_eq_true rfl) (i6 w) rfl fun C hC h0=>?_
  simp (disch:=first|exact bd (by with_unfolding_all rfl)|fail) only[WA,Nat.reduceEqDiff,Nat.reduceLT,↓reduceIte,reduceCtorEq,c51]
  refine a6 (by rw[hC];exact hf.flat rfl rfl) ?_
  simp (disch:=first|exact bd (by with_unfolding_all rfl)|fail) only[WA,Nat.reduceEqDiff,Nat.reduceLT,↓reduceIte]
  refine a6 (by rw[hC];exact im _ m (by omega) (by omega)) ?_
  repeat' (first|(simp (disch:=fail) only[WA,i7,l7,Nat.reduceEqDiff,Nat.reduceLT,Nat.reduceAdd,Nat.reduceBEq,Int.reduceAdd,Int.reduceSub,Int.reduceLT,Int.reduceLE,Int.reduceEq,Int.reduceNeg,↓reduceIte,reduceCtorEq,List.replicate])|apply j6|((first|apply n6|apply l9|apply k8|apply n7|apply n5|apply k9)<;>intro _))
  refine a6 (by rw[hC];exact r1 _) ?_
  repeat' (first|(simp (disch:=fail) only[WA,i7,l7,Nat.reduceEqDiff,Nat.reduceLT,Nat.reduceAdd,Nat.reduceBEq,Int.reduceAdd,Int.reduceSub,Int.reduceLT,Int.reduceLE,Int.reduceEq,Int.reduceNeg,↓reduceIte,reduceCtorEq,List.replicate])|apply j6|((first|apply n6|apply l9|apply k8|apply n7|apply n5|apply k9)<;>intro _))
  exact b8 rfl h0 rfl
 |false=>
  rw[hc] at hf
  rw[if_neg (by decide)]
  have hkk:x.kind ≠ 1∧x.kind ≠ 8:=by
   rw[← Bool.not_eq_true,hk] at hc
   omega
  have ht:J9 x m=if 1<m then 32::(Lib.itoa m++jO) else []:=by
   unfold J9
   by_cases h:1<m
   ·rw[if_pos h,if_pos ⟨h,hkk⟩];rfl
   ·rw[if_neg h,if_neg fun hh=>h hh.1]
  rw[ht]
  generalize Lib.replace (Lib.replace (P4 x.kind x.purl) [35] (Lib.itoa x.a) 1) [35] (Lib.itoa x.b) 1=R3 at*
  generalize Lib.replace (P4 x.kind x.purl) [35] (Lib.itoa x.a) 1=R2 at*
  generalize P4 x.kind x.purl=F at*
  obtain ⟨xk,xp,xa,xb⟩:=x
  simp only at*
  by_cases hm:1<m
  ·rw[if_pos hm]
   refine d6 rfl rfl (fun _ _=>rfl) (Nat.le_of_ble_eq_true rfl) (i6 w) rfl fun C hC h0=>?_
   simp (disch:=first|exact bd (by with_unfolding_all rfl)|fail) only[WA,Nat.reduceEqDiff,Nat.reduceLT,↓reduceIte,reduceCtorEq,c51]
   refine a6 (by rw[hC];exact hf.flat rfl rfl) ?_
   simp (disch:=first|exact bd (by with_unfolding_all rfl)|fail) only[WA,Nat.reduceEqDiff,Nat.reduceLT,↓reduceIte]
   refine a6 (by rw[hC];exact im _ xa (by omega) (by omega)) ?_
   repeat' (first|(simp (disch:=fail) only[WA,i7,l7,Nat.reduceEqDiff,Nat.reduceLT,Nat.reduceAdd,Nat.reduceBEq,Int.reduceAdd,Int.reduceSub,Int.reduceLT,Int.reduceLE,Int.reduceEq,Int.reduceNeg,↓reduceIte,reduceCtorEq,List.replicate])|apply j6|((first|apply n6|apply l9|apply k8|apply n7|apply n5|apply k9)<;>intro _))
   refine a6 (by rw[hC];exact r2 _) ?_
   simp (disch:=first|omega|exact bd (by with_unfolding_all rfl)|fail) only[WA,Nat.reduceEqDiff,Nat.reduceLT,↓reduceIte]
   refine a6 (by rw[hC];exact im _ xb (by omega) (by omega)) ?_
   repeat' (first|(simp (disch:=fail) only[WA,i7,l7,Nat.reduceEqDiff,Nat.reduceLT,Nat.reduceAdd,Nat.reduceBEq,Int.reduceAdd,Int.reduceSub,Int.reduceLT,Int.reduceLE,Int.reduceEq,Int.reduceNeg,↓reduceIte,reduceCtorEq,List.replicate])|apply j6|((first|apply n6|apply l9|apply k8|apply n7|apply n5|apply k9)<;>intro _))
   refine a6 (by rw[hC];exact r3 _) ?_
   repeat' (first|(simp (disch:=fail) only[WA,i7,l7,Nat.reduceEqDiff,Nat.reduceLT,Nat.reduceAdd,Nat.reduceBEq,Int.reduceAdd,Int.reduceSub,Int.reduceLT,Int.reduceLE,Int.reduceEq,Int.reduceNeg,↓reduceIte,reduceCtorEq,List.replicate])|apply j6|((first|apply n6|apply l9|apply k8|apply n7|apply n5|apply k9)<;>intro _))
   all_goals try (exfalso;omega)
   refine a6 (by rw[hC];exact im _ m (by omega) (by omega)) ?_
   simp (disch:=first|exact bd (by with_unfolding_all rfl)|(simp only[d9]<;>omega)) only[WA,Nat.reduceEqDiff,Nat.reduceLT,↓reduceIte,K2,List.append_assoc]
   all_goals try (exfalso;omega)
   exact b8 rfl h0 rfl
  ·rw[if_neg hm,List.append_nil]
   refine d6 rfl rfl (fun _ _=>rfl) (Nat.le_of_ble_eq_true rfl) (i6 w) rfl fun C hC h0=>?_
   simp (disch:=first|exact bd (by with_unfolding_all rfl)|fail) only[WA,Nat.reduceEqDiff,Nat.reduceLT,↓reduceIte,reduceCtorEq,c51]
   refine a6 (by rw[hC];exact hf.flat rfl rfl) ?_
   simp (disch:=first|exact bd (by with_unfolding_all rfl)|fail) only[WA,Nat.reduceEqDiff,Nat.reduceLT,↓reduceIte]
   refine a6 (by rw[hC];exact im _ xa (by omega) (by omega)) ?_
   repeat' (first|(simp (disch:=fail) only[WA,i7,l7,Nat.reduceEqDiff,Nat.reduceLT,Nat.reduceAdd,Nat.reduceBEq,Int.reduceAdd,Int.reduceSub,Int.reduceLT,Int.reduceLE,Int.reduceEq,Int.reduceNeg,↓reduceIte,reduceCtorEq,List.replicate])|apply j6|((first|apply n6|apply l9|apply k8|apply n7|apply n5|apply k9)<;>intro _))
   refine a6 (by rw[hC];exact r2 _) ?_
   simp (disch:=first|omega|exact bd (by with_unfolding_all rfl)|fail) only[WA,Nat.reduceEqDiff,Nat.reduceLT,↓reduceIte]
   refine a6 (by rw[hC];exact im _ xb (by omega) (by omega)) ?_
   repeat' (first|(simp (disch:=fail) only[WA,i7,l7,Nat.reduceEqDiff,Nat.reduceLT,Nat.reduceAdd,Nat.reduceBEq,Int.reduceAdd,Int.reduceSub,Int.reduceLT,Int.reduceLE,Int.reduceEq,Int.reduceNeg,↓reduceIte,reduceCtorEq,List.replicate])|apply j6|((first|apply n6|apply l9|apply k8|apply n7|apply n5|apply k9)<;>intro _))
   refine a6 (by rw[hC];exact r3 _) ?_
   repeat' (first|(simp (disch:=fail) only[WA,i7,l7,Nat.reduceEqDiff,Nat.reduceLT,Nat.reduceAdd,Nat.reduceBEq,Int.reduceAdd,Int.reduceSub,Int.reduceLT,Int.reduceLE,Int.reduceEq,Int.reduceNeg,↓reduceIte,reduceCtorEq,List.replicate])|apply j6|((first|apply n6|apply l9|apply k8|apply n7|apply n5|apply k9)<;>intro _))
   all_goals try (exfalso;omega)
   exact b8 rfl h0 rfl
end
theorem yW (x:p9):∀ l:List p9,∃ t,t≤l.length∧(∀ i,i<t→l[i]! =x)∧(t<l.length→l[t]! ≠ x)∧F5 (x::l)=(x,t+1)::F5 (l.drop t)
 | []=>⟨0,Nat.le_refl _,fun i h=>absurd h (Nat.not_lt_zero _),fun h=>absurd h (Nat.not_lt_zero _),rfl⟩
 |y::l=>by
  by_cases hy:y=x
  ·subst hy
   obtain ⟨t,h1,h2,h3,h4⟩:=yW y l
   refine ⟨t+1,by simp;omega,fun i hi=>?_,fun h=>?_,?_⟩
   ·cases i with
    |zero=>rfl
    |succ i=>simpa using h2 i (by omega)
   ·have:=h3 (by simpa using h)
    simpa using this
   ·rw[F5,h4]
    simp
  ·refine ⟨0,Nat.zero_le _,fun i h=>absurd h (Nat.not_lt_zero _),fun _=>hy,?_⟩
   rw[F5]
   cases hr:F5 (y::l) with
   |nil=>exact absurd hr (cD (by simp))
   |cons z r=>
    obtain ⟨z,m⟩:=z
    have hz:z=y:=by
     have:=cC (y::l)
     have hp:=bE (y::l) (z,m) (by rw[hr];simp)
     rw[hr,mT] at this
     obtain ⟨q,rfl⟩:∃ q,m=q+1:=⟨m - 1,by simp only at hp;omega⟩
     simp only[List.replicate_succ,List.cons_append] at this
     exact (List.cons.inj this).1
    rw[hz]
    simp only
    rw[if_neg hy,List.drop_zero,hr,hz]
theorem vW {L:List p9} {j:Nat} (h:j<L.length):L.drop j=L[j]! ::L.drop (j+1):=by
 rw[List.drop_eq_getElem_cons h,getElem!_pos _ j h]
theorem vV {L:List p9} {j i:Nat} (h:j+i<L.length):(L.drop j)[i]! =L[j+i]! :=by
 rw[getElem!_pos _ i (by rw[List.length_drop];omega),List.getElem_drop,getElem!_pos _ (j+i) h]
theorem aF2 (nx t:Nat) (b:ByteArray):M4 nx t 1 1 [.string ⟨#[]⟩] [(0,1,.sc (.string b))]=some (.ref nx 0 1 1,some (.row t 1 false false [.sc (.string b)]),[]):=(rfl)
theorem OQ {x:p9} {m:Int} (hx:G4 x) (h0:1≤m) (h1:m≤1000):(B8 x m).length≤100:=by
 have hb:=hx.bounds
 have hfl:=qU x.kind x.purl
 have l1:=F9 (z:=m) (by omega) (by omega)
 have l2:=F9 (z:=x.a) (by omega) (by omega)
 have l3:=F9 (z:=x.b) (by omega) (by omega)
 have aux:∀ (F u:List UInt8),u ≠ [35]→(Lib.replace F [35] u 1).length≤F.length+u.length:=fun F u hu=>by
  rcases S2 35 F with h|⟨p,q,e,h⟩
  ·rw[kX h];omega
  ·rw[e,bZ h hu];simp;omega
 rw[OP hx h0]
 split
 ·have:=aux (P4 x.kind x.purl) (Lib.itoa m) (S8 (by omega))
  omega
 ·have a1:=aux (P4 x.kind x.purl) (Lib.itoa x.a) (S8 (by omega))
  have a2:=aux (Lib.replace (P4 x.kind x.purl) [35] (Lib.itoa x.a) 1) (Lib.itoa x.b) (S8 (by omega))
  have ht:(J9 x m).length≤11:=by
   unfold J9
   split
   ·have:V7.length=5:=rfl
    simp only[List.length_cons,List.length_append,this];omega
   ·simp
  rw[List.length_append]
  omega
theorem XU:∀ (ws:List (List UInt8)) (b:Nat),(∀ w ∈ ws,w.length≤b)→(TQ ws).length≤ws.length*(b+2)
 | [],b,_=>by simp[TQ]
 |w::ws,b,h=>by
  have ih:=XU ws b fun x hx=>h x (List.mem_cons_of_mem _ hx)
  have hw:=h w (by simp)
  have e:(ws.length+1)*(b+2)=ws.length*(b+2)+(b+2):=Nat.succ_mul _ _
  cases ws with
  |nil=>simp[TQ];omega
  |cons v r=>
   rw[bU w (by simp)]
   simp only[List.length_append,List.length_cons] at ih e ⊢
   omega
theorem FB:∀ L:List p9,(F5 L).length≤L.length
 | []=>Nat.le_refl _
 |x::l=>by
  have ih:=FB l
  rw[F5]
  cases h:F5 l with
  |nil=>simp
  |cons y r=>
   obtain ⟨y,m⟩:=y
   rw[h] at ih
   simp only[List.length_cons] at ih ⊢
   split<;>simp<;>omega
section
variable (w:World) (n:Nat)
theorem RZ {C:D0} (hC:C.E=EN w (n+3)) (s:Nat) (L:List p9) (hL:L.length≤200) (j t:Nat) (hj:j+1+t≤L.length) (ht:∀ i,i<t→(L.drop (j+1))[i]! =L[j]!) (hn:t<(L.drop (j+1)).length→(L.drop (j+1))[t]! ≠ L[j]!) (q:Nat) (st:m9) {K:List KF} {P:B9}
  (hgo:gK C K (.exit 2) [(0,.sl s L.length (q9 L)),(3,.gr 2 0 q),(4,.sc (.int .i64 j)),(5,.sc (.int .i64 ((j+1+t:Nat):Int))),(29,.sc (.bool false))] st P) (hst0:st.own.length=st.own.length):
  gL C [0,3,4,5] KW K [(0,.sl s L.length (q9 L)),(3,.gr 2 0 q),(4,.sc (.int .i64 j)),(5,.sc (.int .i64 ((j+1:Nat):Int)))] st P:=by
 have hrn:C.E.rounds=F4:=by rw[hC,m7]
 have hil:=z6 L
 have hdl:(L.drop (j+1)).length=L.length - (j+1):=List.length_drop
 refine A6 (fun m fr st'=>∃ k:Nat,m=t - k∧k≤t∧fr= [(0,.sl s L.length (q9 L)),(3,.gr 2 0 q),(4,.sc (.int .i64 j)),(5,.sc (.int .i64 ((j+1+k:Nat):Int)))]∧st'=st) t ?_ ⟨_,_,.refl _ _,0,by omega,Nat.zero_le _,rfl,rfl⟩ ?_
 ·rw[hrn];unfold F4;omega
 rintro m fr st' ⟨k,rfl,hk,rfl,rfl⟩
 have hagj:=J1 L j (by omega)
 by_cases hlt:j+1+k<L.length
 ·have hag:=J1 L (j+1+k) hlt
  have hdk:=vV (L:=L) (j:=j+1) (i:=k) hlt
  by_cases hkt:k<t
  ·have he:=ht k hkt
   rw[hdk] at he
   rw[he] at hag
   generalize L[j]! =X at*
   obtain ⟨xk,xp,xa,xb⟩:=X
   simp (disch:=first|omega|exact bd (by with_unfolding_all rfl)|(simp only[d9]<;>omega)) only[WA,i7,l7,Nat.reduceEqDiff,Nat.reduceLT,↓reduceIte,reduceCtorEq,KW,hag,hagj,↓S6]
   exact ⟨t - (k+1),_,_,by omega,.refl _ _,k+1,rfl,by omega,by rw[show ((j+1+k:Nat):Int)+1=((j+1+(k+1):Nat):Int) from by omega],rfl⟩
  ·have:k=t:=by omega
   subst this
   have he:=hn (by omega)
   rw[hdk] at he
   have hd:=decide_eq_false he
   generalize L[j]! =X at*
   generalize L[j+1+k]! =Y at*
   obtain ⟨xk,xp,xa,xb⟩:=X
   obtain ⟨yk,yp,ya,yb⟩:=Y
   simp (disch:=first|omega|exact bd (by with_unfolding_all rfl)|fail) only[WA,i7,l7,Nat.reduceEqDiff,Nat.reduceLT,↓reduceIte,reduceCtorEq,KW,hag,hagj,↓S6,hd]
   exact hgo
 ·have:k=t:=by omega
  subst this
  simp (disch:=first|omega|exact bd (by with_unfolding_all rfl)|fail) only[WA,i7,l7,Nat.reduceEqDiff,Nat.reduceLT,↓reduceIte,reduceCtorEq,KW]
  exact hgo
theorem ZZ (s:Nat) (L:List p9) (hL:L.length≤200) (hok:L.all C7=true):n9 (EN w (n+4)) 28 [.sl s L.length (q9 L)] (o8 (A0 L)) ⟨[],0,0⟩:=by
 have hil:=z6 L
 have hrl:=FB L
 have hP:∀ x ∈ L,G4 x:=fun x hx=>D8.1 (List.all_eq_true.1 hok x hx)
 unfold A0
 by_cases hn:L= []
 ·subst hn
  rw[if_pos rfl]
  refine d6 rfl rfl (fun _ _=>rfl) (Nat.le_of_ble_eq_true rfl) (i6 w) rfl fun C hC h0=>?_
  simp (disch:=first|omega|exact bd (by with_unfolding_all rfl)|fail) only[WA,Nat.reduceEqDiff,Nat.reduceLT,↓reduceIte,reduceCtorEq,c28]
  exact b8 rfl h0 rfl
 rw[if_neg hn]
 have hln:0<L.length:=List.length_pos_iff.2 hn
 refine d6 rfl rfl (fun _ _=>rfl) (Nat.le_of_ble_eq_true rfl) (i6 w) rfl fun C hC h0=>?_
 have hrn:C.E.rounds=F4:=by rw[hC,m7]
 simp (disch:=first|omega|exact bd (by with_unfolding_all rfl)|fail) only[WA,Nat.reduceEqDiff,Nat.reduceLT,↓reduceIte,reduceCtorEq,c28]
 all_goals try (exfalso;omega)
 refine A6 (fun m fr st=>∃ (j:Nat) (R:List (p9 × Nat)),m=L.length - j∧j≤L.length∧F5 L=R++F5 (L.drop j)∧fr= [(0,.sl s L.length (q9 L)),(3,.gr 2 0 R.length),(4,.sc (.int .i64 j))]∧st=⟨[(0,.gro 9 1 false ((R.map phr).map sD))],1,0⟩) L.length ?_ ⟨_,_,P1 3 9 1 rfl,0,[],by omega,Nat.zero_le _,rfl,rfl,rfl⟩ ?_
 ·rw[hrn];unfold F4;omega
 rintro m fr st ⟨j,R,rfl,hj,hR,rfl,rfl⟩
 have hRl:R.length≤200:=by
  have:=congrArg List.length hR
  rw[List.length_append] at this
  omega
 by_cases hlt:j<L.length
 ·obtain ⟨t,h1,h2,h3,h4⟩:=yW L[j]! (L.drop (j+1))
  rw[← vW hlt] at h4
  have hdl:(L.drop (j+1)).length=L.length - (j+1):=List.length_drop
  rw[hdl] at h1
  have hXP:G4 L[j]! :=hP _ (by rw[getElem!_pos _ j hlt];exact List.getElem_mem hlt)
  have hph:=OR w n L[j]! hXP ((t+1:Nat):Int) (by omega) (by omega)
  have hag:=J1 L j hlt
  rw[List.drop_drop] at h4
  have hR2:F5 L=(R++ [(L[j]!,t+1)])++F5 (L.drop (j+1+t)):=by rw[hR,h4];simp
  simp (disch:=first|omega|exact bd (by with_unfolding_all rfl)|fail) only[WA,Nat.reduceEqDiff,Nat.reduceLT,↓reduceIte,reduceCtorEq,aK1]
  all_goals try (exfalso;omega)
  rw[show (j:Int)+1=((j+1:Nat):Int) from rfl]
  refine RZ w n hC s L hL j t (by omega) h2 h3 _ _ ?_ rfl
  have hdiff:((j+1+t:Nat):Int) - j=((t+1:Nat):Int):=by omega
  generalize L[j]! =X at*
  obtain ⟨xk,xp,xa,xb⟩:=X
  simp (disch:=first|omega|exact bd (by with_unfolding_all rfl)|fail) only[WA,Nat.reduceEqDiff,Nat.reduceLT,↓reduceIte,reduceCtorEq,hag,hdiff]
  refine a6 (by rw[hC];exact hph.flat rfl rfl) ?_
  simp (disch:=first|omega|exact bd (by with_unfolding_all rfl)|(simp only[d9]<;>omega)) only[WA,Nat.reduceEqDiff,Nat.reduceLT,Nat.reduceAdd,↓reduceIte,reduceCtorEq,aF2]
  all_goals try (exfalso;omega)
  refine ⟨L.length - (j+1+t),_,_,by omega,w7 [(2,0)] 1 h0 rfl rfl rfl rfl,j+1+t,R++ [(⟨xk,xp,xa,xb⟩,t+1)],rfl,by omega,hR2,?_,?_⟩
  ·rw[List.length_append];rfl
  ·simp only[List.map_append];rfl
 ·have:j=L.length:=by omega
  subst this
  rw[List.drop_length,F5,List.append_nil] at hR
  have hlen:=XU (R.map phr) 100 fun w hw=>by
   obtain ⟨r,hr,rfl⟩:=List.mem_map.1 hw
   have:=bE L r (by rw[hR];exact hr)
   exact OQ (hP _ this.2.2) (by omega) (by omega)
  rw[List.length_map] at hlen
  have hj:=bQ7 w (n+2) ⟨[],0,0⟩ 2 (by decide) (R.map phr) [44,32] (by rw[List.length_map];omega) (by rw[← TR];omega)
  rw[← TR] at hj
  rw[hR]
  have h1:∀ st:m9,f7 st.own 0=some (.gro 9 1 false ((R.map phr).map sD))→I2 st.own [.gr 2 0 R.length,.sc (.string ⟨#[44,32]⟩)]=some [.sl 2 (R.map phr).length ((R.map phr).map sD),.sc (.string ⟨#[44,32]⟩)]:=fun st h=>by
   have e:y7 st.own (.gr 2 0 R.length)=some (.sl 2 R.length ((R.map phr).map sD)):=by
    simp only[y7,cW,h,List.length_map,Nat.mul_one]
    rw[if_pos (by simp)]
    rfl
   rw[List.length_map]
   show (y7 st.own (.gr 2 0 R.length)).bind _=_
   rw[e]
   rfl
  simp (disch:=first|omega|exact bd (by with_unfolding_all rfl)|fail) only[WA,Nat.reduceEqDiff,Nat.reduceLT,↓reduceIte,reduceCtorEq,aK1]
  all_goals try (exfalso;omega)
  refine a6 (by rw[hC];exact (n9.ofO hj).flat rfl (h1 _ rfl)) ?_
  repeat' (first|(simp (disch:=fail) only[WA,i7,l7,Nat.reduceEqDiff,Nat.reduceLT,Nat.reduceAdd,Nat.reduceBEq,Int.reduceAdd,Int.reduceSub,Int.reduceLT,Int.reduceLE,Int.reduceEq,Int.reduceNeg,↓reduceIte,reduceCtorEq,List.replicate])|apply j6|((first|apply n6|apply l9|apply k8|apply n7|apply n5|apply k9)<;>intro _))
  exact b8 rfl h0 rfl
end
set_option maxHeartbeats 1000000
theorem cA2 (c:UInt8):∀ (m:Nat) (s:List UInt8),s.length≤m→(p5 c s).length=Lib.countB ⟨s.toArray⟩ ⟨[c].toArray⟩+1
 |m,s,hm=>by
  show (p5 c s).length=Lib.count s [c]+1
  rcases S2 c s with h1|⟨x,r,rfl,h1⟩
  ·rw[O2 h1,Lib.count_miss (qZ s h1)];rfl
  ·cases m with
   |zero=>simp at hm
   |succ m=>
    have ih:=cA2 c m r (by simp at hm;omega)
    rw[G3 r h1,Lib.count_hit (by simp) (kM x r h1),List.length_cons,ih]
    have e:(x++c::r).drop (x.length+ [c].length)=r:=by
     rw[show x++c::r=(x++ [c])++r from by simp,List.drop_left' (by simp)]
    rw[e]
    show Lib.count r [c]+1+1=_
    omega
theorem fO {n:Nat} {l:List D}:bH [] (.sl 3 n l):=dY rfl
theorem rZ {C:D0} {st:m9} {v:V} {s n:Nat} {l:List D} (hs:y7 st.own v=some (.sl s n l)) (hrow:E4 st.ro st.own (cR v)=true) (hk:s ≠ 1∨n ≠ 0) (h0:C.w0.nx=0) (hro:st.ro=0):N0 C [(0,v)] st [(0,.sl 3 n l)] ⟨[],0,0⟩:=
 (eG (t:=0) (v:=v) rfl hs hrow).trans ((M2 (t:=0) (v:= .sl s n l) (v':= .sl 3 n l) rfl (pQ hk)).trans (w7 [] 0 h0 hro rfl rfl rfl))
theorem RM (e o k n c:Nat) (j:IntKind) (b:Int) (h0:0≤b) (h1:b≤c) (hc:c<1000000000000) (hc0:c ≠ 0):aE e none (some (.int j b)) none (.ref o k n c)=some (.ref o k b.toNat c):=by
 have h2:Nat.blt c w6=true:=by rw[Nat.blt_eq];unfold w6;omega
 have h3:Nat.beq c 0=false:=SD.2 hc0
 have h4:nJ n c none (some (.int j b)) none=some (0,b.toNat,c,false):=by
  simp only[nJ,y4,h2,if_true,t8]
  rw[if_pos ⟨h0,h1⟩]
  simp[h3,h2]
 simp only[aE,h4,Option.map_some]
 simp
def dJ (dn:List (List UInt8)) (N:Nat):List D:=dn.map sD++List.replicate (N - dn.length) (sD [])
theorem CU (dn:List (List UInt8)) (N:Nat) (h:dn.length≤N):(dJ dn N).length=N:=by simp[dJ];omega
theorem kJ (dn:List (List UInt8)) (x:List UInt8) (N:Nat) (h:dn.length<N):(dJ dn N).set dn.length (sD x)=dJ (dn++ [x]) N:=by
 unfold dJ
 rw[List.set_append_right _ _ (by simp),List.length_map,Nat.sub_self,show N - dn.length=(N - (dn.length+1))+1 by omega,List.replicate_succ,List.length_append]
 simp
theorem CT (dn:List (List UInt8)) (N:Nat) (h:dn.length=N):dJ dn N=dn.map sD:=by simp[dJ,h]
section
variable (w:World) (n:Nat)
theorem aP7 (l:List UInt8) (c:UInt8) (hl:l.length≤1000000):n9 (EN w (n+5)) 56 [o8 l,o8 [c],.sc (.int .i64 0),.sc (.int .i64 (-1))] (.sl 3 (p5 c l).length ((p5 c l).map sD)) ⟨[],0,0⟩:=by
 refine A1 rfl rfl (fun _ _=>rfl) (Nat.le_of_ble_eq_true rfl) (i6 w) fO rfl fun C hC h0=>?_
 have h1:(ByteArray.mk [c].toArray).size=1:=rfl
 have hne:¬ (ByteArray.mk [c].toArray=ByteArray.mk #[]):=fun h=>by
  have:=congrArg (fun b:ByteArray=>b.data.toList) h
  simp at this
 have hsz:=s8 l
 have hcw:=cA2 c l.length l (Nat.le_refl _)
 have hwl:=(Go.Itp.words_len (c:=c) l.length (s:=l) (Nat.le_refl _)).1
 simp (disch:=first|exact bd (by with_unfolding_all rfl)|(simp only[d9]<;>omega)) only[WA,Nat.reduceEqDiff,Nat.reduceLT,Nat.reduceAdd,Int.reduceLT,Int.reduceNeg,↓reduceIte,reduceCtorEq,c56,hne]
 refine a6 (by rw[hC];exact WJ w (n+3) _ l [c] (by omega) (Nat.le_refl 1)) ?_
 generalize hN:Lib.countB ⟨l.toArray⟩ ⟨[c].toArray⟩=N at*
 have hmin:min ((N:Int)+1) (((ByteArray.mk l.toArray).size:Int)+1)=((N+1:Nat):Int):=by rw[hsz];omega
 have hNs:((N+1:Nat):Int) - 1=(N:Int):=by omega
 have hN1:(((N+1:Nat):Int)).toNat=N+1:=by omega
 have hr0:D.sc (Value.string ⟨#[]⟩)::List.replicate N (D.sc (Value.string ⟨#[]⟩))=dJ [] (N+1):=by simp[dJ,sD,List.replicate_succ]
 simp (disch:=first|omega|exact bd (by with_unfolding_all rfl)|fail) only[WA,Nat.reduceEqDiff,Nat.reduceLT,Int.reduceNeg,↓reduceIte,reduceCtorEq,List.replicate,uB,hmin,hN1,hNs]
 rw[hr0]
 refine A6 (fun m fr st=>∃ (dn:List (List UInt8)) (r:List UInt8),m=r.length∧r.length≤1000000∧p5 c l=dn++p5 c r∧fr= [(0,o8 r),(1,o8 [c]),(2,.sc (.int .i64 0)),(3,.sc (.int .i64 N)),(9,.ref 0 0 (N+1) (N+1)),(10,.sc (.int .i64 dn.length))]∧st=⟨[(0,.row 9 1 false false (dJ dn (N+1)))],1,0⟩) l.length ?_ ⟨_,_,.refl _ _,[],l,rfl,hl,rfl,?_,rfl⟩ ?_
 ·rw[hC,m7];unfold F4;omega
 ·simp
 rintro m fr st ⟨dn,r,rfl,hrl,hw,rfl,rfl⟩
 have hdl:dn.length+(p5 c r).length=N+1:=by rw[← hcw,hw,List.length_append]
 have hfl:=CU dn (N+1) (by omega)
 have hfs:=kJ dn r (N+1) (by have:=List.length_pos_iff.2 (eH c r);omega)
 rcases S2 c r with hf|⟨x,r',rfl,hf⟩
 ·have hwr:=O2 hf
  rw[hwr] at hw hdl
  have hd:dn.length=N:=by simpa using hdl
  have hcw':(dn++ [r]).length=N+1:=by simp[hd]
  simp (disch:=first|omega|exact bd (by with_unfolding_all rfl)|(simp only[d9]<;>omega)) only[WA,Nat.reduceEqDiff,Nat.reduceLT,↓reduceIte,reduceCtorEq,KY]
  all_goals try (exfalso;omega)
  have hv:=RM 1 0 0 (N+1) (N+1) .i64 ((dn.length:Int)+1) (by omega) (by omega) (by omega) (by omega)
  have hvN:((dn.length:Int)+1).toNat=N+1:=by omega
  rw[hvN] at hv
  simp (disch:=first|exact bd (by with_unfolding_all rfl)|fail) only[WA,Nat.reduceEqDiff,Nat.reduceLT,↓reduceIte,hv]
  refine rZ (s:=0) ?_ rfl (.inl (by decide)) h0 rfl
  rw[show D.sc (Value.string ⟨r.toArray⟩)=sD r from rfl,hfs,CT _ _ (by simp;omega),hw,hcw']
  exact FH rfl (by simp[hd])
 ·have hi:=kM x r' hf
  have hwr:=G3 r' hf
  have hlen:(x++c::r').length=x.length+r'.length+1:=by simp;omega
  have hwp:=List.length_pos_iff.2 (eH c r')
  have hdN:dn.length<N:=by rw[hwr] at hdl;simp at hdl;omega
  have e1:=pS (x++c::r') .i64 x.length (by omega) (by rw[hlen];omega)
  have e2:=aW (x++c::r') .i64 ((x.length:Int)+1) (by omega) (by rw[hlen];omega)
  rw[Int.toNat_natCast,List.take_left] at e1
  rw[show ((x.length:Int)+1).toNat=x.length+1 by omega,show (x++c::r').drop (x.length+1)=r' by rw[← List.drop_drop];simp] at e2
  have h1i:((1:Nat):Int)=1:=rfl
  have hfx:=kJ dn x (N+1) (by omega)
  simp (disch:=first|omega|exact bd (by with_unfolding_all rfl)|fail) only[WA,Nat.reduceEqDiff,Nat.reduceLT,↓reduceIte,reduceCtorEq,KY]
  refine a6 (by rw[hC];exact XS w (n+3) _ _ [c] (by omega)) ?_
  rw[hi]
  simp (disch:=first|omega|exact bd (by with_unfolding_all rfl)|(simp only[d9]<;>omega)) only[WA,Nat.reduceEqDiff,Nat.reduceLT,↓reduceIte,reduceCtorEq,h1,h1i,e1,e2,Int.add_zero]
  all_goals try (exfalso;omega)
  refine ⟨_,_,_,?_,.refl _ _,dn++ [x],r',rfl,by omega,?_,?_,?_⟩
  ·rw[hlen];omega
  ·rw[hw,hwr];simp
  ·simp
  ·rw[← hfx];rfl
theorem ZH (l:List UInt8) (c:UInt8) (hl:l.length≤1000000):n9 (EN w (n+6)) 31 [o8 l,o8 [c]] (.sl 3 (p5 c l).length ((p5 c l).map sD)) ⟨[],0,0⟩:=by
 refine A1 rfl rfl (fun _ _=>rfl) (Nat.le_of_ble_eq_true rfl) (i6 w) fO rfl fun C hC h0=>?_
 simp (disch:=first|exact bd (by with_unfolding_all rfl)|fail) only[WA,Nat.reduceEqDiff,Nat.reduceLT,Int.reduceNeg,↓reduceIte,reduceCtorEq,c31]
 refine n4 (by rw[hC];exact aP7 w n l c hl) rfl rfl (fun _=>rfl) ?_
 repeat' (first|(simp (disch:=fail) only[WA,i7,l7,Nat.reduceEqDiff,Nat.reduceLT,Nat.reduceAdd,Nat.reduceBEq,Int.reduceAdd,Int.reduceSub,Int.reduceLT,Int.reduceLE,Int.reduceEq,Int.reduceNeg,↓reduceIte,reduceCtorEq,List.replicate])|apply j6|((first|apply n6|apply l9|apply k8|apply n7|apply n5|apply k9)<;>intro _))
 exact w7 [] 0 h0 rfl rfl rfl rfl
theorem aC5 (l:List UInt8) (hl:l.length≤1000000):n9 (EN w (n+5)) 56 [o8 l,o8 [44,32],.sc (.int .i64 0),.sc (.int .i64 (-1))] (.sl 3 (u7 l).length ((u7 l).map sD)) ⟨[],0,0⟩:=by
 refine A1 rfl rfl (fun _ _=>rfl) (Nat.le_of_ble_eq_true rfl) (i6 w) fO rfl fun C hC h0=>?_
 have h1:(ByteArray.mk #[44,32]).size=2:=rfl
 have hne:¬ (ByteArray.mk #[44,32]=ByteArray.mk #[]):=fun h=>by
  have:=congrArg (fun b:ByteArray=>b.data.toList) h
  simp at this
 have hsz:=s8 l
 have hcw:=cA3 l.length l (Nat.le_refl _)
 have hwl:=fR l
 simp (disch:=first|exact bd (by with_unfolding_all rfl)|(simp only[d9]<;>omega)) only[WA,Nat.reduceEqDiff,Nat.reduceLT,Nat.reduceAdd,Int.reduceLT,Int.reduceNeg,↓reduceIte,reduceCtorEq,c56,hne]
 refine a6 (by rw[hC];exact WJ w (n+3) _ l [44,32] (by omega) (by decide)) ?_
 generalize hN:Lib.countB ⟨l.toArray⟩ ⟨#[44,32]⟩=N at*
 have hmin:min ((N:Int)+1) (((ByteArray.mk l.toArray).size:Int)+1)=((N+1:Nat):Int):=by rw[hsz];omega
 have hNs:((N+1:Nat):Int) - 1=(N:Int):=by omega
 have hN1:(((N+1:Nat):Int)).toNat=N+1:=by omega
 have hr0:D.sc (Value.string ⟨#[]⟩)::List.replicate N (D.sc (Value.string ⟨#[]⟩))=dJ [] (N+1):=by simp[dJ,sD,List.replicate_succ]
 simp (disch:=first|omega|exact bd (by with_unfolding_all rfl)|fail) only[WA,Nat.reduceEqDiff,Nat.reduceLT,Int.reduceNeg,↓reduceIte,reduceCtorEq,List.replicate,uB,hmin,hN1,hNs]
 rw[hr0]
 refine A6 (fun m fr st=>∃ (dn:List (List UInt8)) (r:List UInt8),m=r.length∧r.length≤1000000∧u7 l=dn++u7 r∧fr= [(0,o8 r),(1,o8 [44,32]),(2,.sc (.int .i64 0)),(3,.sc (.int .i64 N)),(9,.ref 0 0 (N+1) (N+1)),(10,.sc (.int .i64 dn.length))]∧st=⟨[(0,.row 9 1 false false (dJ dn (N+1)))],1,0⟩) l.length ?_ ⟨_,_,.refl _ _,[],l,rfl,hl,rfl,?_,rfl⟩ ?_
 ·rw[hC,m7];unfold F4;omega
 ·simp
 rintro m fr st ⟨dn,r,rfl,hrl,hw,rfl,rfl⟩
 have hdl:dn.length+(u7 r).length=N+1:=by rw[← hcw,hw,List.length_append]
 have hfl:=CU dn (N+1) (by omega)
 have hfs:=kJ dn r (N+1) (by have:=List.length_pos_iff.2 (rR r);omega)
 rcases mX r with ⟨hi0,hwr⟩|⟨x,r',rfl,hi,hwr⟩
 ·rw[hwr] at hw hdl
  have hd:dn.length=N:=by simpa using hdl
  have hcw':(dn++ [r]).length=N+1:=by simp[hd]
  simp (disch:=first|omega|exact bd (by with_unfolding_all rfl)|(simp only[d9]<;>omega)) only[WA,Nat.reduceEqDiff,Nat.reduceLT,↓reduceIte,reduceCtorEq,KY]
  all_goals try (exfalso;omega)
  have hv:=RM 1 0 0 (N+1) (N+1) .i64 ((dn.length:Int)+1) (by omega) (by omega) (by omega) (by omega)
  have hvN:((dn.length:Int)+1).toNat=N+1:=by omega
  rw[hvN] at hv
  simp (disch:=first|exact bd (by with_unfolding_all rfl)|fail) only[WA,Nat.reduceEqDiff,Nat.reduceLT,↓reduceIte,hv]
  refine rZ (s:=0) ?_ rfl (.inl (by decide)) h0 rfl
  rw[show D.sc (Value.string ⟨r.toArray⟩)=sD r from rfl,hfs,CT _ _ (by simp;omega),hw,hcw']
  exact FH rfl (by simp[hd])
 ·have hlen:(x++44::32::r').length=x.length+r'.length+2:=by simp;omega
  have hwp:=List.length_pos_iff.2 (rR r')
  have hdN:dn.length<N:=by rw[hwr] at hdl;simp at hdl;omega
  have e1:=pS (x++44::32::r') .i64 x.length (by omega) (by rw[hlen];omega)
  have e2:=aW (x++44::32::r') .i64 ((x.length:Int)+2) (by omega) (by rw[hlen];omega)
  rw[Int.toNat_natCast,List.take_left] at e1
  rw[show ((x.length:Int)+2).toNat=x.length+2 by omega,show (x++44::32::r').drop (x.length+2)=r' by rw[← List.drop_drop];simp] at e2
  have h1i:((2:Nat):Int)=2:=rfl
  have hfx:=kJ dn x (N+1) (by omega)
  simp (disch:=first|omega|exact bd (by with_unfolding_all rfl)|fail) only[WA,Nat.reduceEqDiff,Nat.reduceLT,↓reduceIte,reduceCtorEq,KY]
  refine a6 (by rw[hC];exact XS w (n+3) _ _ [44,32] (by omega)) ?_
  rw[hi]
  simp (disch:=first|omega|exact bd (by with_unfolding_all rfl)|(simp only[d9]<;>omega)) only[WA,Nat.reduceEqDiff,Nat.reduceLT,↓reduceIte,reduceCtorEq,h1,h1i,e1,e2,Int.add_zero]
  all_goals try (exfalso;omega)
  refine ⟨_,_,_,?_,.refl _ _,dn++ [x],r',rfl,by omega,?_,?_,?_⟩
  ·rw[hlen];omega
  ·rw[hw,hwr];simp
  ·simp
  ·rw[← hfx];rfl
theorem aW9 (l:List UInt8) (hl:l.length≤1000000):n9 (EN w (n+6)) 31 [o8 l,o8 [44,32]] (.sl 3 (u7 l).length ((u7 l).map sD)) ⟨[],0,0⟩:=by
 refine A1 rfl rfl (fun _ _=>rfl) (Nat.le_of_ble_eq_true rfl) (i6 w) fO rfl fun C hC h0=>?_
 simp (disch:=first|exact bd (by with_unfolding_all rfl)|fail) only[WA,Nat.reduceEqDiff,Nat.reduceLT,Int.reduceNeg,↓reduceIte,reduceCtorEq,c31]
 refine n4 (by rw[hC];exact aC5 w n l hl) rfl rfl (fun _=>rfl) ?_
 repeat' (first|(simp (disch:=fail) only[WA,i7,l7,Nat.reduceEqDiff,Nat.reduceLT,Nat.reduceAdd,Nat.reduceBEq,Int.reduceAdd,Int.reduceSub,Int.reduceLT,Int.reduceLE,Int.reduceEq,Int.reduceNeg,↓reduceIte,reduceCtorEq,List.replicate])|apply j6|((first|apply n6|apply l9|apply k8|apply n7|apply n5|apply k9)<;>intro _))
 exact w7 [] 0 h0 rfl rfl rfl rfl
end
set_option maxHeartbeats 400000
section
variable (w:World) (n:Nat)
theorem NG (s p:List UInt8) (hs:s.length≤1000000):n9 (EN w (n+1)) 88 [o8 s,o8 p] (.sc (.bool (y9 p s).isSome)) ⟨[],0,0⟩:=by
 have h1:=s8 s
 have h2:=s8 p
 unfold y9
 by_cases hl:p.length≤s.length
 ·have e1:=pS s .i64 p.length (by omega) (by omega)
  rw[Int.toNat_natCast] at e1
  by_cases he:s.take p.length=p
  ·rw[if_pos ⟨hl,he⟩]
   rw[he] at e1
   refine d6 rfl rfl (fun _ _=>rfl) (Nat.le_of_ble_eq_true rfl) (i6 w) rfl fun C hC h0=>?_
   simp (disch:=first|omega|exact bd (by with_unfolding_all rfl)|(simp only[d9]<;>omega)) only[WA,Nat.reduceEqDiff,Nat.reduceLT,↓reduceIte,reduceCtorEq,c88,h1,h2,e1]
   all_goals try (exfalso;omega)
   exact b8 rfl h0 rfl
  ·rw[if_neg fun h=>he h.2]
   have he2:¬ ((⟨(s.take p.length).toArray⟩:ByteArray)=⟨p.toArray⟩):=by rw[X0];exact he
   generalize s.take p.length=T at*
   refine d6 rfl rfl (fun _ _=>rfl) (Nat.le_of_ble_eq_true rfl) (i6 w) rfl fun C hC h0=>?_
   simp (disch:=first|omega|exact bd (by with_unfolding_all rfl)|fail) only[WA,Nat.reduceEqDiff,Nat.reduceLT,↓reduceIte,reduceCtorEq,c88,h1,h2,e1,he2]
   all_goals try (exfalso;omega)
   exact b8 rfl h0 rfl
 ·rw[if_neg fun h=>hl h.1]
  refine d6 rfl rfl (fun _ _=>rfl) (Nat.le_of_ble_eq_true rfl) (i6 w) rfl fun C hC h0=>?_
  simp (disch:=first|omega|exact bd (by with_unfolding_all rfl)|fail) only[WA,Nat.reduceEqDiff,Nat.reduceLT,↓reduceIte,reduceCtorEq,c88,h1,h2]
  all_goals try (exfalso;omega)
  exact b8 rfl h0 rfl
theorem aY {p s t:List UInt8} (h:y9 p s=some t):p.length≤s.length∧t=s.drop p.length:=by
 unfold y9 at h
 split at h
 ·rename_i hc;cases h;exact ⟨hc.1,rfl⟩
 ·cases h
theorem qJ {p s t:List UInt8} (h:J6 p s=some t):p.length≤s.length∧t=s.take (s.length - p.length):=by
 unfold J6 at h
 split at h
 ·rename_i hc;cases h;exact ⟨hc.1,rfl⟩
 ·cases h
theorem aB3 (s p:List UInt8) (hs:s.length≤1000000):n9 (EN w (n+2)) 66 [o8 s,o8 p] (.tup [o8 ((y9 p s).getD s),.sc (.bool (y9 p s).isSome)]) ⟨[],0,0⟩:=by
 have h1:=s8 s
 have h2:=s8 p
 have hh:=NG w n s p hs
 cases hc:y9 p s with
 |none=>
  rw[hc] at hh
  refine d6 rfl rfl (fun _ _=>rfl) (Nat.le_of_ble_eq_true rfl) (i6 w) rfl fun C hC h0=>?_
  simp (disch:=first|exact bd (by with_unfolding_all rfl)|fail) only[WA,Nat.reduceEqDiff,Nat.reduceLT,↓reduceIte,reduceCtorEq,c66]
  refine a6 (by rw[hC];exact hh.flat rfl rfl) ?_
  simp (disch:=first|exact bd (by with_unfolding_all rfl)|fail) only[WA,Nat.reduceEqDiff,Nat.reduceLT,↓reduceIte,reduceCtorEq,Option.isSome_none]
  exact b8 rfl h0 rfl
 |some t=>
  rw[hc] at hh
  obtain ⟨hl,ht⟩:=aY hc
  have e1:=aW s .i64 p.length (by omega) (by omega)
  rw[Int.toNat_natCast,← ht] at e1
  refine d6 rfl rfl (fun _ _=>rfl) (Nat.le_of_ble_eq_true rfl) (i6 w) rfl fun C hC h0=>?_
  simp (disch:=first|exact bd (by with_unfolding_all rfl)|fail) only[WA,Nat.reduceEqDiff,Nat.reduceLT,↓reduceIte,reduceCtorEq,c66]
  refine a6 (by rw[hC];exact hh.flat rfl rfl) ?_
  simp (disch:=first|exact bd (by with_unfolding_all rfl)|fail) only[WA,Nat.reduceEqDiff,Nat.reduceLT,↓reduceIte,reduceCtorEq,Option.isSome_some,h2,e1]
  exact b8 rfl h0 rfl
theorem vP (s p:List UInt8) (hs:s.length≤1000000):n9 (EN w (n+3)) 40 [o8 s,o8 p] (.tup [o8 ((y9 p s).getD s),.sc (.bool (y9 p s).isSome)]) ⟨[],0,0⟩:=by
 have hh:=aB3 w n s p hs
 generalize (y9 p s).getD s=T at*
 generalize (y9 p s).isSome=B at*
 refine d6 rfl rfl (fun _ _=>rfl) (Nat.le_of_ble_eq_true rfl) (i6 w) rfl fun C hC h0=>?_
 simp (disch:=first|exact bd (by with_unfolding_all rfl)|fail) only[WA,Nat.reduceEqDiff,Nat.reduceLT,↓reduceIte,reduceCtorEq,c40]
 refine a6 (by rw[hC];exact hh.flat rfl rfl) ?_
 simp (disch:=first|exact bd (by with_unfolding_all rfl)|fail) only[WA,Nat.reduceEqDiff,Nat.reduceLT,↓reduceIte,reduceCtorEq]
 exact b8 rfl h0 rfl
theorem VG (s p:List UInt8) (hs:s.length≤1000000):n9 (EN w (n+2)) 83 [o8 s,o8 p] (o8 ((y9 p s).getD s)) ⟨[],0,0⟩:=by
 have h1:=s8 s
 have h2:=s8 p
 have hh:=NG w n s p hs
 cases hc:y9 p s with
 |none=>
  rw[hc] at hh
  refine d6 rfl rfl (fun _ _=>rfl) (Nat.le_of_ble_eq_true rfl) (i6 w) rfl fun C hC h0=>?_
  simp (disch:=first|exact bd (by with_unfolding_all rfl)|fail) only[WA,Nat.reduceEqDiff,Nat.reduceLT,↓reduceIte,reduceCtorEq,c83]
  refine a6 (by rw[hC];exact hh.flat rfl rfl) ?_
  simp (disch:=first|exact bd (by with_unfolding_all rfl)|fail) only[WA,Nat.reduceEqDiff,Nat.reduceLT,↓reduceIte,reduceCtorEq,Option.isSome_none]
  exact b8 rfl h0 rfl
 |some t=>
  rw[hc] at hh
  obtain ⟨hl,ht⟩:=aY hc
  have e1:=aW s .i64 p.length (by omega) (by omega)
  rw[Int.toNat_natCast,← ht] at e1
  refine d6 rfl rfl (fun _ _=>rfl) (Nat.le_of_ble_eq_true rfl) (i6 w) rfl fun C hC h0=>?_
  simp (disch:=first|exact bd (by with_unfolding_all rfl)|fail) only[WA,Nat.reduceEqDiff,Nat.reduceLT,↓reduceIte,reduceCtorEq,c83]
  refine a6 (by rw[hC];exact hh.flat rfl rfl) ?_
  simp (disch:=first|exact bd (by with_unfolding_all rfl)|fail) only[WA,Nat.reduceEqDiff,Nat.reduceLT,↓reduceIte,reduceCtorEq,Option.isSome_some,h2,e1]
  exact b8 rfl h0 rfl
theorem aG8 (s p:List UInt8) (hs:s.length≤1000000):n9 (EN w (n+3)) 59 [o8 s,o8 p] (o8 ((y9 p s).getD s)) ⟨[],0,0⟩:=by
 have hh:=VG w n s p hs
 generalize (y9 p s).getD s=T at*
 refine d6 rfl rfl (fun _ _=>rfl) (Nat.le_of_ble_eq_true rfl) (i6 w) rfl fun C hC h0=>?_
 simp (disch:=first|exact bd (by with_unfolding_all rfl)|fail) only[WA,Nat.reduceEqDiff,Nat.reduceLT,↓reduceIte,reduceCtorEq,c59]
 refine a6 (by rw[hC];exact hh.flat rfl rfl) ?_
 repeat' (first|(simp (disch:=fail) only[WA,i7,l7,Nat.reduceEqDiff,Nat.reduceLT,Nat.reduceAdd,Nat.reduceBEq,Int.reduceAdd,Int.reduceSub,Int.reduceLT,Int.reduceLE,Int.reduceEq,Int.reduceNeg,↓reduceIte,reduceCtorEq,List.replicate])|apply j6|((first|apply n6|apply l9|apply k8|apply n7|apply n5|apply k9)<;>intro _))
 exact b8 rfl h0 rfl
theorem aP8 (s p:List UInt8) (hs:s.length≤1000000):n9 (EN w (n+1)) 87 [o8 s,o8 p] (.sc (.bool (J6 p s).isSome)) ⟨[],0,0⟩:=by
 have h1:=s8 s
 have h2:=s8 p
 unfold J6
 by_cases hl:p.length≤s.length
 ·have e1:=aW s .i64 ((s.length:Int) - p.length) (by omega) (by omega)
  rw[show ((s.length:Int) - p.length).toNat=s.length - p.length from by omega] at e1
  by_cases he:s.drop (s.length - p.length)=p
  ·rw[if_pos ⟨hl,he⟩]
   rw[he] at e1
   refine d6 rfl rfl (fun _ _=>rfl) (Nat.le_of_ble_eq_true rfl) (i6 w) rfl fun C hC h0=>?_
   simp (disch:=first|omega|exact bd (by with_unfolding_all rfl)|(simp only[d9]<;>omega)) only[WA,Nat.reduceEqDiff,Nat.reduceLT,↓reduceIte,reduceCtorEq,c87,h1,h2,e1]
   all_goals try (exfalso;omega)
   exact b8 rfl h0 rfl
  ·rw[if_neg fun h=>he h.2]
   have he2:¬ ((⟨(s.drop (s.length - p.length)).toArray⟩:ByteArray)=⟨p.toArray⟩):=by rw[X0];exact he
   generalize s.drop (s.length - p.length)=T at*
   refine d6 rfl rfl (fun _ _=>rfl) (Nat.le_of_ble_eq_true rfl) (i6 w) rfl fun C hC h0=>?_
   simp (disch:=first|omega|exact bd (by with_unfolding_all rfl)|fail) only[WA,Nat.reduceEqDiff,Nat.reduceLT,↓reduceIte,reduceCtorEq,c87,h1,h2,e1,he2]
   all_goals try (exfalso;omega)
   exact b8 rfl h0 rfl
 ·rw[if_neg fun h=>hl h.1]
  refine d6 rfl rfl (fun _ _=>rfl) (Nat.le_of_ble_eq_true rfl) (i6 w) rfl fun C hC h0=>?_
  simp (disch:=first|omega|exact bd (by with_unfolding_all rfl)|fail) only[WA,Nat.reduceEqDiff,Nat.reduceLT,↓reduceIte,reduceCtorEq,c87,h1,h2]
  all_goals try (exfalso;omega)
  exact b8 rfl h0 rfl
theorem aB4 (s p:List UInt8) (hs:s.length≤1000000):n9 (EN w (n+2)) 65 [o8 s,o8 p] (.tup [o8 ((J6 p s).getD s),.sc (.bool (J6 p s).isSome)]) ⟨[],0,0⟩:=by
 have h1:=s8 s
 have h2:=s8 p
 have hh:=aP8 w n s p hs
 cases hc:J6 p s with
 |none=>
  rw[hc] at hh
  refine d6 rfl rfl (fun _ _=>rfl) (Nat.le_of_ble_eq_true rfl) (i6 w) rfl fun C hC h0=>?_
  simp (disch:=first|exact bd (by with_unfolding_all rfl)|fail) only[WA,Nat.reduceEqDiff,Nat.reduceLT,↓reduceIte,reduceCtorEq,c65]
  refine a6 (by rw[hC];exact hh.flat rfl rfl) ?_
  simp (disch:=first|exact bd (by with_unfolding_all rfl)|fail) only[WA,Nat.reduceEqDiff,Nat.reduceLT,↓reduceIte,reduceCtorEq,Option.isSome_none]
  exact b8 rfl h0 rfl
 |some t=>
  rw[hc] at hh
  obtain ⟨hl,ht⟩:=qJ hc
  have e1:=pS s .i64 ((s.length:Int) - p.length) (by omega) (by omega)
  rw[show ((s.length:Int) - p.length).toNat=s.length - p.length from by omega,← ht] at e1
  refine d6 rfl rfl (fun _ _=>rfl) (Nat.le_of_ble_eq_true rfl) (i6 w) rfl fun C hC h0=>?_
  simp (disch:=first|exact bd (by with_unfolding_all rfl)|fail) only[WA,Nat.reduceEqDiff,Nat.reduceLT,↓reduceIte,reduceCtorEq,c65]
  refine a6 (by rw[hC];exact hh.flat rfl rfl) ?_
  simp (disch:=first|omega|exact bd (by with_unfolding_all rfl)|fail) only[WA,Nat.reduceEqDiff,Nat.reduceLT,↓reduceIte,reduceCtorEq,Option.isSome_some,h1,h2,e1]
  exact b8 rfl h0 rfl
theorem vR (s p:List UInt8) (hs:s.length≤1000000):n9 (EN w (n+3)) 39 [o8 s,o8 p] (.tup [o8 ((J6 p s).getD s),.sc (.bool (J6 p s).isSome)]) ⟨[],0,0⟩:=by
 have hh:=aB4 w n s p hs
 generalize (J6 p s).getD s=T at*
 generalize (J6 p s).isSome=B at*
 refine d6 rfl rfl (fun _ _=>rfl) (Nat.le_of_ble_eq_true rfl) (i6 w) rfl fun C hC h0=>?_
 simp (disch:=first|exact bd (by with_unfolding_all rfl)|fail) only[WA,Nat.reduceEqDiff,Nat.reduceLT,↓reduceIte,reduceCtorEq,c39]
 refine a6 (by rw[hC];exact hh.flat rfl rfl) ?_
 simp (disch:=first|exact bd (by with_unfolding_all rfl)|fail) only[WA,Nat.reduceEqDiff,Nat.reduceLT,↓reduceIte,reduceCtorEq]
 exact b8 rfl h0 rfl
theorem LV (s:List UInt8):(I6 s).length≤4∧(I6 s).length≤s.length∧I6 s=s.take (I6 s).length∧(∀ i,i<(I6 s).length→B6 s[i]! =true)∧((I6 s).length<4→(I6 s).length<s.length→B6 s[(I6 s).length]! =false):=by
 have aux:∀ (m:Nat) (l:List UInt8),((l.take m).takeWhile B6).length≤m∧((l.take m).takeWhile B6).length≤l.length∧(l.take m).takeWhile B6=l.take ((l.take m).takeWhile B6).length∧(∀ i,i<((l.take m).takeWhile B6).length→B6 l[i]! =true)∧(((l.take m).takeWhile B6).length<m→((l.take m).takeWhile B6).length<l.length→B6 l[((l.take m).takeWhile B6).length]! =false):=by
  intro m
  induction m with
  |zero=>intro l;simp
  |succ m ih=>
   intro l
   cases l with
   |nil=>simp
   |cons c l=>
    obtain ⟨h1,h2,h3,h4,h5⟩:=ih l
    rw[List.take_succ_cons,List.takeWhile_cons]
    cases hc:B6 c with
    |false=>simp[hc]
    |true=>
     simp only[if_true,List.length_cons,List.take_succ_cons]
     refine ⟨by omega,by omega,by rw[← h3],fun i hi=>?_,fun a b=>?_⟩
     ·cases i with
      |zero=>simpa using hc
      |succ i=>simpa using h4 i (by omega)
     ·have:=h5 (by omega) (by omega)
      simpa using this
 exact aux 4 s
theorem aG9 {s:List UInt8} {k:Nat} (hk:k<s.length):aB (s.take (k+1))=10*aB (s.take k)+((s[k]!.toNat:Int) - 48):=by
 rw[List.take_succ_eq_append_getElem hk,rU,getElem!_pos s k hk]
theorem VI:∀ (n:Nat) (l:List UInt8),l.length=n→(∀ c ∈ l,B6 c=true)→0≤aB l∧aB l<10 ^ l.length:=by
 intro n
 induction n with
 |zero=>
  intro l hl _
  have:=List.eq_nil_of_length_eq_zero hl
  subst this
  simp[aB]
 |succ n ih=>
  intro l hl h
  rcases List.eq_nil_or_concat l with rfl|⟨q,d,rfl⟩
  ·simp at hl
  ·have h1:=ih q (by simpa using hl) fun c hc=>h c (by simp[hc])
   have h2:=h d (by simp)
   simp only[B6,Bool.and_eq_true,decide_eq_true_eq] at h2
   rw[List.concat_eq_append,rU,List.length_append,List.length_singleton,Int.pow_succ]
   omega
theorem cD4 {s:List UInt8} {k:Nat} (hk:k≤(I6 s).length):0≤aB (s.take k)∧aB (s.take k)<10000:=by
 obtain ⟨h1,h2,h3,h4,h5⟩:=LV s
 have hb:=VI _ (s.take k) rfl fun c hc=>by
  obtain ⟨i,hi,rfl⟩:=List.mem_iff_getElem.1 hc
  rw[List.length_take] at hi
  have:=h4 i (by omega)
  rw[getElem!_pos s i (by omega)] at this
  rw[List.getElem_take];exact this
 refine ⟨hb.1,Int.lt_of_lt_of_le hb.2 ?_⟩
 have hl:(s.take k).length≤4:=by rw[List.length_take];omega
 rcases (by omega:(s.take k).length=0∨(s.take k).length=1∨(s.take k).length=2∨(s.take k).length=3∨(s.take k).length=4) with h|h|h|h|h<;>rw[h]<;>decide
theorem OE (s:List UInt8) (hs:s.length≤1000000):n9 (EN w (n+1)) 58 [o8 s] (.tup [.sc (.int .i64 (aB (I6 s))),o8 (dX s),.sc (.bool (decide (I6 s ≠ [])))]) ⟨[],0,0⟩:=by
 refine d6 rfl rfl (fun _ _=>rfl) (Nat.le_of_ble_eq_true rfl) (i6 w) rfl fun C hC h0=>?_
 have hrn:C.E.rounds=F4:=by rw[hC,m7]
 have hsz:=s8 s
 obtain ⟨h1,h2,h3,h4,h5⟩:=LV s
 have hv:=fun k (hk:k≤(I6 s).length)=>cD4 hk
 have hne:decide (I6 s ≠ [])=decide (0<(I6 s).length):=by
  rw[Bool.eq_iff_iff,decide_eq_true_iff,decide_eq_true_iff,List.length_pos_iff]
 rw[hne]
 unfold dX
 have hval:aB (I6 s)=aB (s.take (I6 s).length):=congrArg aB h3
 rw[hval]
 generalize (I6 s).length=d at*
 simp (disch:=first|exact bd (by with_unfolding_all rfl)|fail) only[WA,Nat.reduceEqDiff,Nat.reduceLT,↓reduceIte,reduceCtorEq,c58]
 refine A6 (fun m fr st=>∃ k:Nat,m=d - k∧k≤d∧fr= [(0,o8 s),(2,.sc (.int .i64 (aB (s.take k)))),(5,.sc (.int .i64 k))]∧st=⟨[],0,0⟩) d ?_ ⟨_,_,.refl _ _,0,by omega,Nat.zero_le _,rfl,rfl⟩ ?_
 ·rw[hrn];unfold F4;omega
 rintro m fr st ⟨k,rfl,hk,rfl,rfl⟩
 have hvk:=hv k hk
 by_cases hlt:k<d
 ·have hdg:=h4 k hlt
  have hb:=U3 s .i64 k (by omega) (by omega)
  rw[Int.toNat_natCast] at hb
  have hst:=aG9 (s:=s) (k:=k) (by omega)
  have hvk1:=hv (k+1) hlt
  simp only[B6,Bool.and_eq_true,decide_eq_true_eq] at hdg
  generalize s[k]!.toNat=b at*
  generalize aB (s.take k)=v at*
  have e1:IntKind.u8.wrap ((b:Int) - 48)=((b - 48:Nat):Int):=by rw[uM _ (by omega) (by omega)];omega
  simp (disch:=first|omega|exact bd (by with_unfolding_all rfl)|fail) only[WA,Nat.reduceEqDiff,Nat.reduceLT,↓reduceIte,reduceCtorEq,KZ,hsz,hb,e1]
  all_goals try (exfalso;omega)
  refine ⟨_,_,_,by omega,.refl _ _,k+1,rfl,hlt,?_,rfl⟩
  rw[hst,show (b:Int) - 48=((b - 48:Nat):Int) from by omega]
  rfl
 ·have:k=d:=by omega
  subst this
  have e1:=aW s .i64 k (by omega) (by omega)
  rw[Int.toNat_natCast] at e1
  by_cases hb4:k<4∧k<s.length
  ·have hdg:=h5 hb4.1 hb4.2
   have hb:=U3 s .i64 k (by omega) (by omega)
   rw[Int.toNat_natCast] at hb
   have hdg2:¬ (48≤s[k]!.toNat∧s[k]!.toNat≤57):=fun h=>by
    have:B6 s[k]! =true:=by simp only[B6,Bool.and_eq_true,decide_eq_true_eq];exact h
    rw[hdg] at this;cases this
   generalize s[k]!.toNat=b at*
   generalize aB (s.take k)=v at*
   rcases (by omega:b<48∨57<b) with h|h
   all_goals
    repeat' (first|(simp (disch:=first|omega|exact bd (by with_unfolding_all rfl)|fail) only[WA,i7,l7,Nat.reduceEqDiff,Nat.reduceLT,↓reduceIte,reduceCtorEq,KZ,hsz,hb,e1])|apply j6|((first|apply n6|apply l9|apply k8|apply n7|apply n5|apply k9)<;>intro _))
    all_goals try (exfalso;omega)
    rw[show decide ((0:Int)<k)=decide (0<k) from decide_eq_decide.2 (by omega)]
    exact b8 rfl h0 rfl
  ·generalize aB (s.take k)=v at*
   rcases (by omega:¬ k<s.length∨(k<s.length∧¬ k<4)) with h|h
   ·simp (disch:=first|omega|exact bd (by with_unfolding_all rfl)|fail) only[WA,i7,l7,Nat.reduceEqDiff,Nat.reduceLT,↓reduceIte,reduceCtorEq,KZ,hsz,e1]
    all_goals try (exfalso;omega)
    rw[show decide ((0:Int)<k)=decide (0<k) from decide_eq_decide.2 (by omega)]
    exact b8 rfl h0 rfl
   ·simp (disch:=first|omega|exact bd (by with_unfolding_all rfl)|fail) only[WA,i7,l7,Nat.reduceEqDiff,Nat.reduceLT,↓reduceIte,reduceCtorEq,KZ,hsz,e1]
    all_goals try (exfalso;omega)
    exact b8 rfl h0 rfl
end
def iY:Option (List Int × List UInt8)→V
 |none=> .tup [.sl 3 0 [],o8 [],.sc (.bool false)]
 |some (m,r)=> .tup [.sl 3 m.length (m.map iD),o8 r,.sc (.bool true)]
theorem EU (nx t:Nat) (z:Int):M4 nx t 1 1 [.int .i64 0] [(0,1,.sc (.int .i64 z))]=some (.ref nx 0 1 1,some (.row t 1 false false [.sc (.int .i64 z)]),[]):=(rfl)
theorem aW7 {H:E1} {o t n:Nat} {z:Bool} {l:List D} (h:f7 H o=some (.gro t 1 z l)) (hl:l.length=n):y7 H (.gr 2 o n)=some (.sl 2 n l):=by
 simp only[y7,cW,h,Nat.mul_one]
 rw[if_pos ⟨hl,by decide,by decide,by decide⟩]
 rfl
theorem EO (s:List UInt8):(dX s).length≤s.length:=by unfold dX;rw[List.length_drop];omega
section
variable (w:World) (n:Nat)
theorem IP (s form:List UInt8) (hs:s.length≤100000) (hf:form.length≤1000):n9 (EN w (n+7)) 38 [o8 s,o8 form] (iY (C3 (p5 35 form) s)) ⟨[],0,0⟩:=by
 have hsp:=ZH w n form 35 (by omega)
 have hwl:=(Go.Itp.words_len (c:=35) form.length (s:=form) (Nat.le_refl _))
 have hwn:=eH 35 form
 generalize p5 35 form=f at*
 refine A1 rfl rfl (fun _ _=>rfl) (Nat.le_of_ble_eq_true rfl) (i6 w) (by cases C3 f s<;>exact UX) rfl fun C hC h0=>?_
 have hrn:C.E.rounds=F4:=by rw[hC,m7]
 simp (disch:=first|exact bd (by with_unfolding_all rfl)|fail) only[WA,Nat.reduceEqDiff,Nat.reduceLT,↓reduceIte,reduceCtorEq,c38]
 refine n4 (by rw[hC];exact hsp) rfl rfl (fun _=>rfl) ?_
 simp (disch:=first|exact bd (by with_unfolding_all rfl)|fail) only[WA,Nat.reduceEqDiff,Nat.reduceLT,↓reduceIte,reduceCtorEq]
 refine A6 (fun m fr st=>∃ (k:Nat) (t:List UInt8) (l:List Int),m=f.length - k∧k≤f.length∧t.length≤s.length∧l.length≤k∧(if k=0 then t=s∧l= [] else C3 f s=S4 (f.drop k) t l)∧fr= [(0,o8 t),(4,.gr 2 0 l.length),(17,.sl 3 f.length (f.map sD)),(18,.sc (.int .i64 f.length)),(19,.sc (.int .i64 k))]∧st=⟨[(0,.gro 3 1 false (l.map iD))],1,0⟩) f.length ?_ ⟨_,_,P1 4 3 1 rfl,0,s,[],by omega,Nat.zero_le _,Nat.le_refl _,Nat.le_refl _,by rw[if_pos rfl];exact ⟨rfl,rfl⟩,rfl,rfl⟩ ?_
 ·rw[hrn];unfold F4;omega
 rintro m fr st ⟨k,t,l,rfl,hk,htl,hll,hinv,rfl,rfl⟩
 by_cases hlt:k<f.length
 ·have hfk:f.drop k=f[k]! ::f.drop (k+1):=by rw[List.drop_eq_getElem_cons hlt,getElem!_pos f k hlt]
  have hpl:f[k]!.length≤1000:=by
   have:=hwl.2 f[k]! (by rw[getElem!_pos f k hlt];exact List.getElem_mem hlt)
   omega
  generalize hp:f[k]! =p at*
  by_cases hk0:k=0
  ·subst hk0
   rw[if_pos rfl] at hinv
   obtain ⟨rfl,rfl⟩:=hinv
   have hcp:=vP w (n+3) t p (by omega)
   rw[List.drop_zero] at hfk
   have hm:C3 f t=match y9 p t with
     |none=>none
     |some t'=>S4 (f.drop 1) t' []:=by rw[hfk];rfl
   cases hc:y9 p t with
   |none=>
    rw[hc] at hcp hm
    rw[hm]
    simp (disch:=first|omega|exact bd (by with_unfolding_all rfl)|fail) only[WA,Nat.reduceEqDiff,Nat.reduceLT,↓reduceIte,reduceCtorEq,vF,hp]
    all_goals try (exfalso;omega)
    refine a6 (by rw[hC];exact hcp.flat rfl rfl) ?_
    simp (disch:=first|exact bd (by with_unfolding_all rfl)|fail) only[WA,Nat.reduceEqDiff,Nat.reduceLT,↓reduceIte,reduceCtorEq,Option.isSome_none]
    exact fZ h0 rfl
   |some t'=>
    rw[hc] at hcp hm
    have hle:=aY hc
    have htl':t'.length≤t.length:=by rw[hle.2,List.length_drop];omega
    simp (disch:=first|omega|exact bd (by with_unfolding_all rfl)|fail) only[WA,Nat.reduceEqDiff,Nat.reduceLT,↓reduceIte,reduceCtorEq,vF,hp]
    all_goals try (exfalso;omega)
    refine a6 (by rw[hC];exact hcp.flat rfl rfl) ?_
    simp (disch:=first|omega|exact bd (by with_unfolding_all rfl)|fail) only[WA,Nat.reduceEqDiff,Nat.reduceLT,↓reduceIte,reduceCtorEq,Option.isSome_some,Option.getD_some]
    exact ⟨f.length - 1,_,_,by omega,.refl _ _,1,t',[],rfl,by omega,htl',Nat.zero_le _,by rw[if_neg (by decide)];exact hm,rfl,rfl⟩
  ·rw[if_neg hk0] at hinv
   rw[hfk,S4] at hinv
   have hnum:=OE w (n+5) t (by omega)
   by_cases hd:I6 t= []
   ·rw[if_pos hd] at hinv
    rw[hinv]
    rw[hd,show decide (([]:List UInt8) ≠ [])=false from rfl] at hnum
    simp (disch:=first|omega|exact bd (by with_unfolding_all rfl)|fail) only[WA,Nat.reduceEqDiff,Nat.reduceLT,↓reduceIte,reduceCtorEq,vF,hp]
    all_goals try (exfalso;omega)
    refine a6 (by rw[hC];exact hnum.flat rfl rfl) ?_
    simp (disch:=first|exact bd (by with_unfolding_all rfl)|fail) only[WA,Nat.reduceEqDiff,Nat.reduceLT,↓reduceIte,reduceCtorEq]
    exact fZ h0 rfl
   ·rw[if_neg hd] at hinv
    rw[decide_eq_true hd] at hnum
    have hrl:=EO t
    generalize aB (I6 t)=v at*
    generalize dX t=r at*
    have hcp:=vP w (n+3) r p (by omega)
    cases hc:y9 p r with
    |none=>
     rw[hc] at hcp hinv
     rw[hinv]
     simp (disch:=first|omega|exact bd (by with_unfolding_all rfl)|fail) only[WA,Nat.reduceEqDiff,Nat.reduceLT,↓reduceIte,reduceCtorEq,vF,hp]
     all_goals try (exfalso;omega)
     refine a6 (by rw[hC];exact hnum.flat rfl rfl) ?_
     simp (disch:=first|omega|exact bd (by with_unfolding_all rfl)|(simp only[d9]<;>omega)) only[WA,Nat.reduceEqDiff,Nat.reduceLT,Nat.reduceAdd,↓reduceIte,reduceCtorEq,EU]
     all_goals try (exfalso;omega)
     refine a6 (by rw[hC];exact hcp.flat rfl rfl) ?_
     simp (disch:=first|exact bd (by with_unfolding_all rfl)|fail) only[WA,Nat.reduceEqDiff,Nat.reduceLT,↓reduceIte,reduceCtorEq,Option.isSome_none]
     exact fZ h0 rfl
    |some t'=>
     rw[hc] at hcp hinv
     have hle:=aY hc
     have htl':t'.length≤r.length:=by rw[hle.2,List.length_drop];omega
     simp (disch:=first|omega|exact bd (by with_unfolding_all rfl)|fail) only[WA,Nat.reduceEqDiff,Nat.reduceLT,↓reduceIte,reduceCtorEq,vF,hp]
     all_goals try (exfalso;omega)
     refine a6 (by rw[hC];exact hnum.flat rfl rfl) ?_
     simp (disch:=first|omega|exact bd (by with_unfolding_all rfl)|(simp only[d9]<;>omega)) only[WA,Nat.reduceEqDiff,Nat.reduceLT,Nat.reduceAdd,↓reduceIte,reduceCtorEq,EU]
     all_goals try (exfalso;omega)
     refine a6 (by rw[hC];exact hcp.flat rfl rfl) ?_
     simp (disch:=first|omega|exact bd (by with_unfolding_all rfl)|fail) only[WA,Nat.reduceEqDiff,Nat.reduceLT,↓reduceIte,reduceCtorEq,Option.isSome_some,Option.getD_some]
     refine ⟨f.length - (k+1),_,_,by omega,w7 [(2,0)] 1 h0 rfl rfl rfl rfl,k+1,t',l++ [v],rfl,by omega,by omega,by rw[List.length_append];simp;omega,by rw[if_neg (by omega)];exact hinv,by rw[List.length_append];rfl,by rw[List.map_append];rfl⟩
 ·have:k=f.length:=by omega
  subst this
  have hpos:=List.length_pos_iff.2 hwn
  rw[if_neg (by omega),List.drop_length,S4] at hinv
  rw[hinv]
  unfold iY
  simp (disch:=first|omega|exact bd (by with_unfolding_all rfl)|fail) only[WA,Nat.reduceEqDiff,Nat.reduceLT,↓reduceIte,reduceCtorEq,vF]
  all_goals try (exfalso;omega)
  refine aI3 (s:=2) (n:=l.length) (l:=l.map iD) ?_ rfl (.inl (by omega)) h0 rfl
  exact aW7 rfl (by simp)
end
end Go.Proofs.YtimmmnanllcfoaaDoor
namespace Go.Itp
def AC.l:AC→AC
 | .seq a _=>a
 |x=>x
def AC.r:AC→AC
 | .seq _ b=>b
 |x=>x
def AC.b:AC→AC
 | .block _ b=>b
 |x=>x
end Go.Itp
namespace Go.Proofs.YtimmmnanllcfoaaDoor
open Go Go.Itp
set_option maxRecDepth 100000
set_option maxHeartbeats 400000
set_option linter.unusedSimpArgs false
set_option linter.unusedVariables false
abbrev cL (x:p9):Go.Itp.Obj:= .box 48 1 [.sc (.int .u8 x.kind),.sc (.bool x.purl),.sc (.int .i64 x.a),.sc (.int .i64 x.b)]
def AU:AC:=AC.b (AC.l (AC.r (AC.r N4)))
def lG:AC:=AC.r (AC.r (AC.r (AC.r (AC.r (AC.r AU)))))
def BH:AC:=AC.r lG
theorem UJ {x:p9} {m:Int} {s:List UInt8}:(¬ (⟨(B8 x m).toArray⟩:ByteArray)=⟨s.toArray⟩)↔B8 x m ≠ s:=by rw[X0]
section
variable (w:World) (n:Nat)
theorem PH (G:V) {fr:List (Nat × V)} {C:D0} (hC:C.E=EN w (n+7)) (s:List UInt8) (hs:s.length≤100000) (x:p9) (hx:x.kind<256) (j k:Int) (m:Int) (r:List UInt8) (hr:r.length≤100000) {T S:AC} (hT:T=BH) {P:B9}
  (hgo:bK x (m,r) s=none→gK C [KF.seq S] .normal [(0,o8 s),(2,.ptr 0 0),(5,.sc (.int .u8 k)),(7,.ptr 1 0),(8,.sc (.int .i64 m)),(20,.sc (.int .i64 j)),(106,.sc (.bool false))] ⟨[(1,cL x),(0,cL tW)],2,0⟩ P)
  (hret:∀ fr st,bK x (m,r) s=some (x,m)→f7 fr 2=some (.ptr 0 0)→f7 fr 3=some (.sc (.int .i64 m))→f7 fr 4=some (.sc (.bool true))→f7 st.own 0=some (cL x)→st.ro=0→P .ret fr st)
  (hfr:fr= [(0,o8 s),(2,.ptr 0 0),(5,.sc (.int .u8 k)),(7,.ptr 1 0),(8,.sc (.int .i64 m)),(12,o8 r),(20,.sc (.int .i64 j))]∨fr= [(0,o8 s),(2,.ptr 0 0),(5,.sc (.int .u8 k)),(7,.ptr 1 0),(8,.sc (.int .i64 m)),(12,o8 r),(14,G),(20,.sc (.int .i64 j)),(77,.sc (.bool false))]):
  gK C [KF.seq T,KF.block 3,KF.seq S] .normal fr ⟨[(1,cL x),(0,cL tW)],2,0⟩ P:=by
 rcases hfr with hfr|hfr<;>subst hfr
 all_goals
  have hck:=PY w (n+5) x hx
  have hph:=fun h1 h2 h3=>OR w (n+4) x h1 m h2 h3
  have hn:¬ (r= []∧(1≤m∧m≤200)∧G4 x∧B8 x m=s)→bK x (m,r) s=none:=fun h=>by unfold bK;rw[if_neg h]
  have hy:(r= []∧(1≤m∧m≤200)∧G4 x∧B8 x m=s)→bK x (m,r) s=some (x,m):=fun h=>by unfold bK;rw[if_pos h]
  have hemp:((⟨r.toArray⟩:ByteArray)=⟨#[]⟩)=(r= []):=X0 r []
  generalize bK x (m,r) s=cc at*
  subst hT
  by_cases h1:r= []
  case neg=>
   have hgo:=hgo (hn fun h=>h1 h.1)
   obtain ⟨xk,xp,xa,xb⟩:=x
   simp (disch:=first|exact bd (by with_unfolding_all rfl)|fail) only[WA,Nat.reduceEqDiff,Nat.reduceLT,↓reduceIte,reduceCtorEq,BH,lG,AU,AC.r,AC.l,AC.b,N4,hemp,h1]
   exact hgo
  by_cases h2:1≤m
  case neg=>
   have hgo:=hgo (hn fun h=>h2 h.2.1.1)
   obtain ⟨xk,xp,xa,xb⟩:=x
   simp (disch:=first|omega|exact bd (by with_unfolding_all rfl)|(simp only[d9]<;>omega)) only[WA,Nat.reduceEqDiff,Nat.reduceLT,↓reduceIte,reduceCtorEq,BH,lG,AU,AC.r,AC.l,AC.b,N4,hemp,h1]
   all_goals try (exfalso;omega)
   exact hgo
  by_cases h3:m≤200
  case neg=>
   have hgo:=hgo (hn fun h=>h3 h.2.1.2)
   obtain ⟨xk,xp,xa,xb⟩:=x
   simp (disch:=first|omega|exact bd (by with_unfolding_all rfl)|(simp only[d9]<;>omega)) only[WA,Nat.reduceEqDiff,Nat.reduceLT,↓reduceIte,reduceCtorEq,BH,lG,AU,AC.r,AC.l,AC.b,N4,hemp,h1]
   all_goals try (exfalso;omega)
   exact hgo
  cases h4:C7 x with
  |false=>
   have hgo:=hgo (hn fun h=>by rw[D8.2 h.2.2.1] at h4;cases h4)
   rw[h4,if_neg (by decide)] at hck
   obtain ⟨xk,xp,xa,xb⟩:=x
   simp (disch:=first|omega|exact bd (by with_unfolding_all rfl)|(simp only[d9]<;>omega)) only[WA,Nat.reduceEqDiff,Nat.reduceLT,↓reduceIte,reduceCtorEq,BH,lG,AU,AC.r,AC.l,AC.b,N4,hemp,h1]
   all_goals try (exfalso;omega)
   refine a6 (by rw[hC];exact hck.flat rfl rfl) ?_
   simp (disch:=first|exact bd (by with_unfolding_all rfl)|fail) only[WA,Nat.reduceEqDiff,Nat.reduceLT,Int.reduceEq,↓reduceIte,reduceCtorEq]
   exact hgo
  |true=>
   have hP:=D8.1 h4
   rw[h4,if_pos rfl] at hck
   have hph:=hph hP h2 (by omega)
   by_cases h5:B8 x m=s
   ·have hret:=fun fr st=>hret fr st (hy ⟨h1,⟨h2,h3⟩,hP,h5⟩)
    rw[h5] at hph
    clear hgo hn hy
    obtain ⟨xk,xp,xa,xb⟩:=x
    simp (disch:=first|omega|exact bd (by with_unfolding_all rfl)|(simp only[d9]<;>omega)) only[WA,Nat.reduceEqDiff,Nat.reduceLT,↓reduceIte,reduceCtorEq,BH,lG,AU,AC.r,AC.l,AC.b,N4,hemp,h1]
    all_goals try (exfalso;omega)
    refine a6 (by rw[hC];exact hck.flat rfl rfl) ?_
    simp (disch:=first|exact bd (by with_unfolding_all rfl)|(simp only[d9]<;>omega)) only[WA,Nat.reduceEqDiff,Nat.reduceLT,↓reduceIte,reduceCtorEq]
    refine a6 (by rw[hC];exact hph.flat rfl rfl) ?_
    simp (disch:=first|exact bd (by with_unfolding_all rfl)|(simp only[d9]<;>omega)) only[WA,Nat.reduceEqDiff,Nat.reduceLT,↓reduceIte,reduceCtorEq]
    exact hret _ _ rfl rfl rfl rfl rfl
   ·have hgo:=hgo (hn fun h=>h5 h.2.2.2)
    have h5':=UJ.2 h5
    generalize B8 x m=ph at*
    obtain ⟨xk,xp,xa,xb⟩:=x
    simp (disch:=first|omega|exact bd (by with_unfolding_all rfl)|(simp only[d9]<;>omega)) only[WA,Nat.reduceEqDiff,Nat.reduceLT,↓reduceIte,reduceCtorEq,BH,lG,AU,AC.r,AC.l,AC.b,N4,hemp,h1]
    all_goals try (exfalso;omega)
    refine a6 (by rw[hC];exact hck.flat rfl rfl) ?_
    simp (disch:=first|exact bd (by with_unfolding_all rfl)|(simp only[d9]<;>omega)) only[WA,Nat.reduceEqDiff,Nat.reduceLT,↓reduceIte,reduceCtorEq]
    refine a6 (by rw[hC];exact hph.flat rfl rfl) ?_
    simp (disch:=first|exact bd (by with_unfolding_all rfl)|fail) only[WA,Nat.reduceEqDiff,Nat.reduceLT,↓reduceIte,reduceCtorEq,h5']
    exact hgo
theorem kV (G11:V) {fr:List (Nat × V)} {C:D0} (hC:C.E=EN w (n+7)) (s:List UInt8) (hs:s.length≤100000) (x:p9) (hx:x.kind<256) (j k:Int) (m:List Int) (m0:Int) (r:List UInt8) (hr:r.length≤100000) (hm0:m0=if countB x.kind=true then m.headD 0 else 1) {T S:AC} (hT:T=lG) {P:B9}
  (hgo:bK x (Z3 x.kind m r) s=none→∀ m',gK C [KF.seq S] .normal [(0,o8 s),(2,.ptr 0 0),(5,.sc (.int .u8 k)),(7,.ptr 1 0),(8,.sc (.int .i64 m')),(20,.sc (.int .i64 j)),(106,.sc (.bool false))] ⟨[(1,cL x),(0,cL tW)],2,0⟩ P)
  (hret:∀ fr st m',bK x (Z3 x.kind m r) s=some (x,m')→f7 fr 2=some (.ptr 0 0)→f7 fr 3=some (.sc (.int .i64 m'))→f7 fr 4=some (.sc (.bool true))→f7 st.own 0=some (cL x)→st.ro=0→P .ret fr st)
  (hfr:fr= [(0,o8 s),(2,.ptr 0 0),(5,.sc (.int .u8 k)),(7,.ptr 1 0),(8,.sc (.int .i64 m0)),(10,.sc (.bool (countB x.kind))),(12,o8 r),(20,.sc (.int .i64 j))]∨fr= [(0,o8 s),(2,.ptr 0 0),(5,.sc (.int .u8 k)),(7,.ptr 1 0),(8,.sc (.int .i64 m0)),(10,.sc (.bool (countB x.kind))),(11,G11),(12,o8 r),(20,.sc (.int .i64 j)),(60,.sc (.bool false))]):
  gK C [KF.seq T,KF.block 3,KF.seq S] .normal fr ⟨[(1,cL x),(0,cL tW)],2,0⟩ P:=by
 rcases hfr with hfr|hfr<;>subst hfr
 all_goals
  have hcs:=vR w (n+4) r jO (by omega)
  have hchk:=fun (m':Int) (r':List UInt8) (hr':r'.length≤100000) (e:Z3 x.kind m r=(m',r'))=>PH w n .dead hC s hs x hx j k m' r' hr' (T:=BH) (S:=S) rfl (P:=P) (fun h=>hgo (by rw[e];exact h) m') (fun fr st h=>hret fr st m' (by rw[e];exact h)) (Or.inl rfl)
  have hchkG:=fun (G:V) (m':Int) (r':List UInt8) (hr':r'.length≤100000) (e:Z3 x.kind m r=(m',r'))=>PH w n G hC s hs x hx j k m' r' hr' (T:=BH) (S:=S) rfl (P:=P) (fun h=>hgo (by rw[e];exact h) m') (fun fr st h=>hret fr st m' (by rw[e];exact h)) (Or.inr rfl)
  clear hgo hret
  subst hT
  obtain ⟨T2,hT2⟩:∃ T2,T2=BH:=⟨_,rfl⟩
  rw[← hT2] at hchk hchkG
  have hc:lG= .seq (AC.l lG) T2:=by rw[hT2];rfl
  rw[hc]
  cases hcn:countB x.kind with
  |true=>
   rw[hcn,if_pos rfl] at hm0
   have e:Z3 x.kind m r=(m0,r):=by unfold Z3;rw[if_pos hcn,hm0]
   generalize (J6 jO r).getD r=G at*
   have hchk:=hchkG (o8 G) m0 r hr e
   cases hB:(J6 jO r).isSome with
   |true=>
    rw[hB] at hcs
    simp (disch:=first|exact bd (by with_unfolding_all rfl)|fail) only[WA,Nat.reduceEqDiff,Nat.reduceLT,↓reduceIte,reduceCtorEq,lG,AU,AC.r,AC.l,AC.b,N4]
    refine a6 (by rw[hC];exact hcs.flat rfl rfl) ?_
    simp (disch:=first|exact bd (by with_unfolding_all rfl)|fail) only[WA,Nat.reduceEqDiff,Nat.reduceLT,↓reduceIte,reduceCtorEq]
    exact hchk
   |false=>
    rw[hB] at hcs
    simp (disch:=first|exact bd (by with_unfolding_all rfl)|fail) only[WA,Nat.reduceEqDiff,Nat.reduceLT,↓reduceIte,reduceCtorEq,lG,AU,AC.r,AC.l,AC.b,N4]
    refine a6 (by rw[hC];exact hcs.flat rfl rfl) ?_
    simp (disch:=first|exact bd (by with_unfolding_all rfl)|fail) only[WA,Nat.reduceEqDiff,Nat.reduceLT,↓reduceIte,reduceCtorEq]
    exact hchk
  |false=>
   rw[hcn,if_neg (by decide)] at hm0
   cases hcu:J6 jO r with
   |none=>
    have e:Z3 x.kind m r=(m0,r):=by unfold Z3;rw[if_neg (by rw[hcn];decide),hcu,hm0]
    have hchk:=hchkG (o8 r) m0 r hr e
    rw[hcu] at hcs
    simp (disch:=first|exact bd (by with_unfolding_all rfl)|fail) only[WA,Nat.reduceEqDiff,Nat.reduceLT,↓reduceIte,reduceCtorEq,lG,AU,AC.r,AC.l,AC.b,N4]
    refine a6 (by rw[hC];exact hcs.flat rfl rfl) ?_
    simp (disch:=first|exact bd (by with_unfolding_all rfl)|fail) only[WA,Nat.reduceEqDiff,Nat.reduceLT,↓reduceIte,reduceCtorEq,Option.isSome_none,Option.getD_none]
    exact hchk
   |some t=>
    have hle:=qJ hcu
    have htl:t.length≤r.length:=by rw[hle.2,List.length_take];omega
    have htr:=aG8 w (n+4) t [32] (by omega)
    have hul:((y9 [32] t).getD t).length≤t.length:=by
     cases hp:y9 [32] t with
     |none=>exact Nat.le_refl _
     |some u=>have:=aY hp;simp only[Option.getD_some];rw[this.2,List.length_drop];omega
    have e:Z3 x.kind m r=(aB (I6 ((y9 [32] t).getD t)),dX ((y9 [32] t).getD t)):=by unfold Z3;rw[if_neg (by rw[hcn];decide),hcu]
    generalize (y9 [32] t).getD t=u at*
    have hnm:=OE w (n+6) u (by omega)
    have hrl:=EO u
    have hchk:=hchk _ _ (by omega) e
    generalize aB (I6 u)=nv at*
    generalize dX u=rv at*
    generalize decide (I6 u ≠ [])=bv at*
    rw[hcu] at hcs
    simp (disch:=first|exact bd (by with_unfolding_all rfl)|fail) only[WA,Nat.reduceEqDiff,Nat.reduceLT,↓reduceIte,reduceCtorEq,lG,AU,AC.r,AC.l,AC.b,N4]
    refine a6 (by rw[hC];exact hcs.flat rfl rfl) ?_
    simp (disch:=first|exact bd (by with_unfolding_all rfl)|fail) only[WA,Nat.reduceEqDiff,Nat.reduceLT,↓reduceIte,reduceCtorEq,Option.isSome_some,Option.getD_some]
    refine a6 (by rw[hC];exact htr.flat rfl rfl) ?_
    repeat' (first|(simp (disch:=fail) only[WA,i7,l7,Nat.reduceEqDiff,Nat.reduceLT,Nat.reduceAdd,Nat.reduceBEq,Int.reduceAdd,Int.reduceSub,Int.reduceLT,Int.reduceLE,Int.reduceEq,Int.reduceNeg,↓reduceIte,reduceCtorEq,List.replicate])|apply j6|((first|apply n6|apply l9|apply k8|apply n7|apply n5|apply k9)<;>intro _))
    refine a6 (by rw[hC];exact hnm.flat rfl rfl) ?_
    simp (disch:=first|exact bd (by with_unfolding_all rfl)|fail) only[WA,Nat.reduceEqDiff,Nat.reduceLT,↓reduceIte,reduceCtorEq]
    exact hchk
end
end Go.Proofs.YtimmmnanllcfoaaDoor
namespace Go.Proofs.YtimmmnanllcfoaaDoor
open Go Go.Itp
set_option maxRecDepth 100000
set_option maxHeartbeats 400000
set_option linter.unusedSimpArgs false
set_option linter.unusedVariables false
def aU9:Option (p9 × Int)→V
 |none=> .tup [nM tW,.sc (.int .i64 0),.sc (.bool false)]
 |some (x,m)=> .tup [nM x,.sc (.int .i64 m),.sc (.bool true)]
theorem bG4 (T1:AC) (h:T1=lG):N4= .seq (AC.l N4) (.seq (AC.l (AC.r N4)) (.seq (.block 3 (.seq (AC.l AU) (.seq (AC.l (AC.r AU)) (.seq (AC.l (AC.r (AC.r AU))) (.seq (AC.l (AC.r (AC.r (AC.r AU)))) (.seq (AC.l (AC.r (AC.r (AC.r (AC.r AU))))) (.seq (AC.l (AC.r (AC.r (AC.r (AC.r (AC.r AU)))))) T1))))))) (AC.r (AC.r (AC.r N4))))):=by rw[h];rfl
section
variable (w:World) (n:Nat)
theorem dl1 (a:Int):E7 [iD a] 0 none=some (.sc (.int .i64 a)):=(rfl)
theorem cH7 (a b:Int):E7 [iD a,iD b] 0 none=some (.sc (.int .i64 a)):=(rfl)
theorem cH8 (a b:Int):E7 [iD a,iD b] 1 none=some (.sc (.int .i64 b)):=(rfl)
theorem UT {C:D0} (hC:C.E=EN w (n+7)) (s:List UInt8) (hs:s.length≤100000) (k:Nat) (hk1:1≤k) (hk2:k≤10) (p:Bool) (j:Nat) (hj:j<2) (hp:decide ((j:Int)=1)=p) {P:B9}
  (hgo:iB k p s=none→∀ x,P .normal [(0,o8 s),(2,.ptr 0 0),(5,.sc (.int .u8 k)),(20,.sc (.int .i64 ((j:Int)+1)))] ⟨[(1,cL x),(0,cL tW)],2,0⟩)
  (hret:∀ fr st x m',iB k p s=some (x,m')→f7 fr 2=some (.ptr 0 0)→f7 fr 3=some (.sc (.int .i64 m'))→f7 fr 4=some (.sc (.bool true))→f7 st.own 0=some (cL x)→st.ro=0→P .ret fr st):
  gC C N4 [] [(0,o8 s),(2,.ptr 0 0),(5,.sc (.int .u8 k)),(20,.sc (.int .i64 j))] ⟨[(0,cL tW)],1,0⟩ P:=by
 have hf:=aN3 w (n+5) k p hk1 hk2
 have hm:=IP w n s (P4 k p) hs (by have:=qU k p;omega)
 rw[MI] at hm
 have hlen:=fun m r (h:C3 (r7 k p) s=some (m,r))=>nA (f:=r7 k p) (by unfold r7;split<;>simp) h
 have hfl:(r7 k p).length=if countB k=true then 2 else if k=2 then 1 else if k=6∨k=7 then 3 else 2:=by
  rcases (by omega:k=1∨k=2∨k=3∨k=4∨k=5∨k=6∨k=7∨k=8∨k=9∨k=10) with rfl|rfl|rfl|rfl|rfl|rfl|rfl|rfl|rfl|rfl<;>cases p<;>rfl
 have hcand:iB k p s=match C3 (r7 k p) s with
   |none=>none
   |some (m,r)=>bK (sJ k p m) (Z3 k m r) s:=rfl
 obtain ⟨T1,hT1⟩:∃ T1,T1=lG:=⟨_,rfl⟩
 rw[bG4 T1 hT1]
 cases hM:C3 (r7 k p) s with
 |none=>
  rw[hM] at hm hcand
  unfold iY at hm
  have hgo:=hgo hcand
  simp (disch:=first|omega|exact bd (by with_unfolding_all rfl)|(simp only[d9]<;>omega)) only[WA,Nat.reduceEqDiff,Nat.reduceLT,Nat.reduceAdd,↓reduceIte,reduceCtorEq,List.replicate,AU,AC.r,AC.l,AC.b,N4,hp]
  all_goals try (exfalso;omega)
  refine a6 (by rw[hC];exact hf.flat rfl rfl) ?_
  simp (disch:=first|exact bd (by with_unfolding_all rfl)|fail) only[WA,Nat.reduceEqDiff,Nat.reduceLT,↓reduceIte,reduceCtorEq]
  refine n4 (by rw[hC];exact hm) rfl rfl (fun _=>rfl) ?_
  simp (disch:=first|omega|exact bd (by with_unfolding_all rfl)|fail) only[WA,Nat.reduceEqDiff,Nat.reduceLT,↓reduceIte,reduceCtorEq]
  exact hgo ⟨k,p,0,0⟩
 |some mr=>
  obtain ⟨m,r⟩:=mr
  have hl:=hlen m r hM
  rw[hM] at hm hcand
  unfold iY at hm
  simp only at hcand
  rw[hcand] at hgo hret
  clear hcand hM hlen
  cases hcn:countB k with
  |true=>
   rw[hcn,if_pos rfl] at hfl
   obtain ⟨a,rfl⟩:∃ a,m= [a]:=by
    cases m with
    |nil=>simp at hl;omega
    |cons a q=>cases q with
     |nil=>exact ⟨a,rfl⟩
     |cons b c=>simp at hl;omega
   rw[hcn] at hf
   have hx:sJ k p [a]=⟨k,p,0,0⟩:=by unfold sJ;rw[if_pos hcn]
   rw[hx] at hgo hret
   have htail:=fun S hg=>kV w n .dead hC s hs ⟨k,p,0,0⟩ (by simp only;omega) j k [a] a r (by omega) (by simp only[hcn,if_true];rfl) hT1 (S:=S) (P:=P) hg (fun fr st m'=>hret fr st _ m') (Or.inl rfl)
   clear hret
   simp (disch:=first|omega|exact bd (by with_unfolding_all rfl)|(simp only[d9]<;>omega)) only[WA,Nat.reduceEqDiff,Nat.reduceLT,Nat.reduceAdd,↓reduceIte,reduceCtorEq,List.replicate,AU,AC.r,AC.l,AC.b,N4,hp]
   all_goals try (exfalso;omega)
   refine a6 (by rw[hC];exact hf.flat rfl rfl) ?_
   simp (disch:=first|exact bd (by with_unfolding_all rfl)|fail) only[WA,Nat.reduceEqDiff,Nat.reduceLT,↓reduceIte,reduceCtorEq]
   refine n4 (by rw[hC];exact hm) rfl rfl (fun _=>rfl) ?_
   simp (disch:=first|omega|exact bd (by with_unfolding_all rfl)|fail) only[WA,Nat.reduceEqDiff,Nat.reduceLT,↓reduceIte,reduceCtorEq,List.map_cons,List.map_nil,uH,dl1]
   simp only[hcn] at htail
   refine htail _ fun hn m'=>?_
   simp (disch:=first|omega|exact bd (by with_unfolding_all rfl)|fail) only[WA,Nat.reduceEqDiff,Nat.reduceLT,↓reduceIte,reduceCtorEq]
   exact hgo hn _
  |false=>
   rw[hcn,if_neg (by decide)] at hfl
   rw[hcn] at hf
   have hxx:∀ m,sJ k p m=match m with
     | [a,b]=>⟨k,p,a,b⟩
     | [a]=>⟨k,p,a,0⟩
     |_=>⟨k,p,0,0⟩:=fun m=>by unfold sJ;rw[if_neg (by rw[hcn];decide)];try rfl
   rw[hxx] at hgo hret
   by_cases h2:k=2
   ·rw[if_pos h2] at hfl
    obtain rfl:m= []:=List.eq_nil_of_length_eq_zero (by omega)
    simp only at hgo hret
    have htail:=fun S hg=>kV w n (.sl 3 0 []) hC s hs ⟨k,p,0,0⟩ (by simp only;omega) j k [] 1 r (by omega) (by simp only[hcn,Bool.false_eq_true,if_false]) hT1 (S:=S) (P:=P) hg (fun fr st m'=>hret fr st _ m') (Or.inr rfl)
    clear hret
    simp (disch:=first|omega|exact bd (by with_unfolding_all rfl)|(simp only[d9]<;>omega)) only[WA,Nat.reduceEqDiff,Nat.reduceLT,Nat.reduceAdd,↓reduceIte,reduceCtorEq,List.replicate,AU,AC.r,AC.l,AC.b,N4,hp]
    all_goals try (exfalso;omega)
    refine a6 (by rw[hC];exact hf.flat rfl rfl) ?_
    simp (disch:=first|exact bd (by with_unfolding_all rfl)|fail) only[WA,Nat.reduceEqDiff,Nat.reduceLT,↓reduceIte,reduceCtorEq]
    refine n4 (by rw[hC];exact hm) rfl rfl (fun _=>rfl) ?_
    simp (disch:=first|omega|exact bd (by with_unfolding_all rfl)|fail) only[WA,Nat.reduceEqDiff,Nat.reduceLT,↓reduceIte,reduceCtorEq,List.map_nil]
    simp only[hcn] at htail
    refine htail _ fun hn m'=>?_
    simp (disch:=first|omega|exact bd (by with_unfolding_all rfl)|fail) only[WA,Nat.reduceEqDiff,Nat.reduceLT,↓reduceIte,reduceCtorEq]
    exact hgo hn _
   rw[if_neg h2] at hfl
   by_cases h67:k=6∨k=7
   ·rw[if_pos h67] at hfl
    obtain ⟨a,b,rfl⟩:∃ a b,m= [a,b]:=by
     cases m with
     |nil=>simp at hl;omega
     |cons a q=>cases q with
      |nil=>simp at hl;omega
      |cons b c=>cases c with
       |nil=>exact ⟨a,b,rfl⟩
       |cons d e=>simp at hl;omega
    simp only at hgo hret
    have htail:=fun S hg=>kV w n .dead hC s hs ⟨k,p,a,b⟩ (by simp only;omega) j k [a,b] 1 r (by omega) (by simp only[hcn,Bool.false_eq_true,if_false]) hT1 (S:=S) (P:=P) hg (fun fr st m'=>hret fr st _ m') (Or.inl rfl)
    clear hret
    simp (disch:=first|omega|exact bd (by with_unfolding_all rfl)|(simp only[d9]<;>omega)) only[WA,Nat.reduceEqDiff,Nat.reduceLT,Nat.reduceAdd,↓reduceIte,reduceCtorEq,List.replicate,AU,AC.r,AC.l,AC.b,N4,hp]
    all_goals try (exfalso;omega)
    refine a6 (by rw[hC];exact hf.flat rfl rfl) ?_
    simp (disch:=first|exact bd (by with_unfolding_all rfl)|fail) only[WA,Nat.reduceEqDiff,Nat.reduceLT,↓reduceIte,reduceCtorEq]
    refine n4 (by rw[hC];exact hm) rfl rfl (fun _=>rfl) ?_
    repeat' (first|(simp (disch:=first|omega|exact bd (by with_unfolding_all rfl)|(simp only[d9]<;>omega)) only[WA,i7,l7,Nat.reduceEqDiff,Nat.reduceLT,Nat.reduceAdd,↓reduceIte,reduceCtorEq,List.map_cons,List.map_nil,uH,tn1,cH7,cH8])|apply j6|((first|apply n6|apply l9|apply k8|apply n7|apply n5|apply k9)<;>intro _))
    simp only[hcn] at htail
    refine htail _ fun hn m'=>?_
    simp (disch:=first|omega|exact bd (by with_unfolding_all rfl)|fail) only[WA,Nat.reduceEqDiff,Nat.reduceLT,↓reduceIte,reduceCtorEq]
    exact hgo hn _
   ·rw[if_neg h67] at hfl
    obtain ⟨a,rfl⟩:∃ a,m= [a]:=by
     cases m with
     |nil=>simp at hl;omega
     |cons a q=>cases q with
      |nil=>exact ⟨a,rfl⟩
      |cons b c=>simp at hl;omega
    simp only at hgo hret
    have htail:=fun S hg=>kV w n .dead hC s hs ⟨k,p,a,0⟩ (by simp only;omega) j k [a] 1 r (by omega) (by simp only[hcn,Bool.false_eq_true,if_false]) hT1 (S:=S) (P:=P) hg (fun fr st m'=>hret fr st _ m') (Or.inl rfl)
    clear hret
    simp (disch:=first|omega|exact bd (by with_unfolding_all rfl)|(simp only[d9]<;>omega)) only[WA,Nat.reduceEqDiff,Nat.reduceLT,Nat.reduceAdd,↓reduceIte,reduceCtorEq,List.replicate,AU,AC.r,AC.l,AC.b,N4,hp]
    all_goals try (exfalso;omega)
    refine a6 (by rw[hC];exact hf.flat rfl rfl) ?_
    simp (disch:=first|exact bd (by with_unfolding_all rfl)|fail) only[WA,Nat.reduceEqDiff,Nat.reduceLT,↓reduceIte,reduceCtorEq]
    refine n4 (by rw[hC];exact hm) rfl rfl (fun _=>rfl) ?_
    simp (disch:=first|omega|exact bd (by with_unfolding_all rfl)|(simp only[d9]<;>omega)) only[WA,Nat.reduceEqDiff,Nat.reduceLT,↓reduceIte,reduceCtorEq,List.map_cons,List.map_nil,uH,dl1]
    simp only[hcn] at htail
    refine htail _ fun hn m'=>?_
    simp (disch:=first|omega|exact bd (by with_unfolding_all rfl)|fail) only[WA,Nat.reduceEqDiff,Nat.reduceLT,↓reduceIte,reduceCtorEq]
    exact hgo hn _
theorem bT3 (s:List UInt8) (hs:s.length≤100000):n9 (EN w (n+8)) 32 [o8 s] (aU9 (dU s)) ⟨[],0,0⟩:=by
 refine d6 rfl rfl (fun _ _=>rfl) (Nat.le_of_ble_eq_true rfl) (i6 w) (by rcases dU s with _|⟨x,m⟩<;>rfl) fun C hC h0=>?_
 have hrn:C.E.rounds=F4:=by rw[hC,m7]
 simp (disch:=first|exact bd (by with_unfolding_all rfl)|fail) only[WA,Nat.reduceEqDiff,Nat.reduceLT,↓reduceIte,reduceCtorEq,List.replicate,c32]
 refine A6 (fun m fr st=>∃ k:Nat,m=11 - k∧1≤k∧k≤11∧(∀ k' p,1≤k'→k'<k→iB k' p s=none)∧fr= [(0,o8 s),(2,.ptr 0 0),(5,.sc (.int .u8 k))]∧st=⟨[(0,cL tW)],1,0⟩) 10 ?_ ⟨_,_,.refl _ _,1,by omega,Nat.le_refl _,by omega,fun k' p h1 h2=>absurd h2 (by omega),rfl,rfl⟩ ?_
 ·rw[hrn];unfold F4;omega
 rintro m fr st ⟨k,rfl,hk1,hk,hno,rfl,rfl⟩
 by_cases hlt:k≤10
 ·have hw1:IntKind.u8.wrap ((k:Int)+1)=((k+1:Nat):Int):=by rw[uM _ (by omega) (by omega)];omega
  simp (disch:=first|omega|exact bd (by with_unfolding_all rfl)|fail) only[WA,Nat.reduceEqDiff,Nat.reduceLT,↓reduceIte,reduceCtorEq,aK2]
  all_goals try (exfalso;omega)
  refine A6 (fun m fr st=>∃ j:Nat,m=2 - j∧j≤2∧(0<j→iB k false s=none)∧(1<j→iB k true s=none)∧fr= [(0,o8 s),(2,.ptr 0 0),(5,.sc (.int .u8 k)),(20,.sc (.int .i64 j))]∧st=⟨[(0,cL tW)],1,0⟩) 2 ?_ ⟨_,_,.refl _ _,0,by omega,Nat.zero_le _,fun h=>absurd h (by omega),fun h=>absurd h (by omega),rfl,rfl⟩ ?_
  ·rw[hrn];unfold F4;omega
  rintro m fr st ⟨j,rfl,hj,hj0,hj1,rfl,rfl⟩
  by_cases hjl:j<2
  ·have hp:decide ((j:Int)=1)=decide (j=1):=decide_eq_decide.2 (by omega)
   refine UT w n hC s hs k hk1 hlt (decide (j=1)) j hjl hp (fun hn x=>?_) (fun fr st x m' hc e2 e3 e4 e5 e6=>?_)
   ·simp (disch:=fail) only[WA]
    refine ⟨2 - (j+1),_,_,by omega,w7 [(0,0)] 1 h0 rfl rfl rfl rfl,j+1,rfl,by omega,fun _=>?_,fun h1=>?_,rfl,rfl⟩
    ·rcases (by omega:j=0∨j=1) with rfl|rfl
     ·exact hn
     ·exact hj0 (by decide)
    ·obtain rfl:j=1:=by omega
     exact hn
   ·rw[SS hc]
    simp (disch:=fail) only[WA,e2,e3,e4,e5]
    exact b8 rfl h0 e6
  ·have:j=2:=by omega
   subst this
   simp (disch:=first|omega|exact bd (by with_unfolding_all rfl)|fail) only[WA,Nat.reduceEqDiff,Nat.reduceLT,↓reduceIte,reduceCtorEq,N4]
   all_goals try (exfalso;omega)
   rw[hw1]
   refine ⟨11 - (k+1),_,_,by omega,.refl _ _,k+1,rfl,by omega,by omega,fun k' p a b=>?_,rfl,rfl⟩
   rcases (by omega:k'<k∨k'=k) with h|rfl
   ·exact hno k' p a h
   ·cases p
    ·exact hj0 (by decide)
    ·exact hj1 (by decide)
 ·have:k=11:=by omega
  subst this
  have hr:dU s=none:=aE7 (cand:=iB) (fun hx a b=>aK9 hx a b) fun k p h1 h2=>hno k p h1 (by omega)
  rw[hr]
  simp (disch:=first|omega|exact bd (by with_unfolding_all rfl)|(simp only[d9]<;>omega)) only[WA,Nat.reduceEqDiff,Nat.reduceLT,↓reduceIte,reduceCtorEq,aK2]
  all_goals try (exfalso;omega)
  exact b8 rfl h0 rfl
end
end Go.Proofs.YtimmmnanllcfoaaDoor
