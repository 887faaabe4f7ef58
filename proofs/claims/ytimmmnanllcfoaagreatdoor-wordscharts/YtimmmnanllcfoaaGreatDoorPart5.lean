/- What is proved: the law WordsCharts returns true for every input. Conditions: none beyond the card's own.
   Texts: C41VA, S41D, H41V, P41a, P41b, P41c, P41d, P41e, Q41a, Q41b, Q41c, P41f, Q41d, Q41e, Q41f, Q41g, Q41h, Q41i, Q41j, Q41k.
-/
import Derived.Test.YtimmmnanllcfoaaGreatDoorPart4
import Derived.Test.YtimmmnanllcfoaaGreatDoorProg
import Derived.Shelf.Strings.Builder1
import Derived.Shelf.Strings.Builder2
import Derived.Shelf.Strings.OnBuilder
import Derived.Shelf.Small.Wraps
import Derived.Shelf.Strings.BuilderF
import Derived.Shelf.Strings.BuilderK
import Derived.Shelf.Utf8.RuneCount
import Derived.Shelf.Strings.Builder2Cap
import Derived.Shelf.Strconv.Itoa0
import Derived.Shelf.Strconv.Itoa1
import Derived.Shelf.LaysM
import Derived.Shelf.Strconv.Itoa2
import Derived.Shelf.Strconv.Itoa3
import Derived.Shelf.Strings.Search1
import Derived.Shelf.Strings.Search2
import Derived.Shelf.Strings.Search3
import Derived.Shelf.Strings.Count
import Derived.Shelf.Strings.Shaped
import Derived.Shelf.Strings.Prefix
import Derived.Shelf.Strings.Split
import Derived.Shelf.Strings.Replace
import Derived.Shelf.Strings.SplitShaped
import Derived.Shelf.Unicode.Decode
import Derived.Shelf.Strings.RuneCount
import Derived.Shelf.Strings.Explode
import Derived.Shelf.Unicode.DecodeSlow
import Derived.Shelf.Unicode.DecodeAny
import Derived.Shelf.Strings.BuilderCap
import Derived.KernelRfl
import Derived.Lib.Join
import Derived.Lib.Replace
import Derived.Lib.Bytealg
namespace Go.Proofs.YtimmmnanllcfoaaGreatDoor
open Go Go.Itp
set_option maxRecDepth 100000
def c3:n7:=⟨zS [d6 2 (.box 24 (zT 0)),d6 4 (.mov zf)] [1,2] (.seq (zS [d6 13 (.load (some 2) (zT 2)),L4 14 4 13,a7 15 14,y7 16 15 (.mov (zT 1)),y7 17 15 (.len true (zT 16)),y7 18 15 (.bin .gtr (zT 17) (n6 6000)),y7 19 15 (.mov (zT 18)),x9 20 19 (.mov (zT 1)),x9 21 19 (.len true (zT 20)),x9 22 19 (.bin .leq (zT 21) (n6 60000)),y7 23 15 (.pick (zT 19) (zT 22) zf),d6 24 (.pick (zT 15) zt (zT 23)),a7 25 24,y7 26 25 (.mov (zT 1)),y7 27 25 (.len true (zT 26)),y7 28 25 (.bin .gtr (zT 27) (n6 61000)),d6 29 (.pick (zT 25) zt (zT 28))] [1,2,29] (zC 29 (zS [d6 4 (.mov zt)] [4] .ret) .skip)) (zS [d6 31 (.load (some 2) (zT 2)),L4 32 5 31,a7 30 32,J0 33 30 0,J0 34 30 1,a7 5 33,a7 6 34] [1,2,5,6] (zS [d6 36 (.load (some 2) (zT 2)),L4 37 6 36,a7 35 37,J0 38 35 0,J0 39 35 1,a7 7 38,a7 8 39] [1,2,5,6,7,8] (zS [a7 41 1,L4 42 7 41,a7 40 42,J0 43 40 0,J0 44 40 1,d6 9 (.alloc 24 [(1,(.int .i64 0)),(1,(.slice none 0 0))]),⟨none,none,.store 2 (zT 9) (zT 43)⟩,a7 10 44] [1,2,5,6,7,8,9,10] (zS [a7 46 1,L4 47 8 46,a7 45 47,J0 48 45 0,J0 49 45 1,d6 11 (.alloc 24 [(1,(.int .i64 0)),(1,(.slice none 0 0))]),⟨none,none,.store 2 (zT 11) (zT 48)⟩,a7 12 49] [2,5,6,7,8,9,10,11,12] (.seq (.draw [d6 50 (.load (some 2) (zT 2)),L4 51 9 50,d6 52 (.load (some 2) (zT 2)),L4 53 10 52,l8 54 51 .eql (zT 53),a7 55 54,x9 56 55 (.mov (zT 5)),x9 57 55 (.mov (zT 7)),x9 58 55 (.bin .eql (zT 56) (zT 57)),d6 59 (.pick (zT 55) (zT 58) zf),a7 60 59,x9 61 60 (.mov (zT 6)),x9 62 60 (.mov (zT 8)),x9 63 60 (.bin .eql (zT 61) (zT 62)),d6 64 (.pick (zT 60) (zT 63) zf),a7 65 64,x9 66 65 (.load (some 2) (zT 9)),x9 67 65 (.load (some 2) (zT 11)),x9 68 65 (.callF 11 [(zT 66),(zT 67)]),d6 69 (.pick (zT 65) (zT 68) zf),a7 70 69,x9 71 70 (.mov (zT 10)),x9 72 70 (.mov (zT 12))] [x9 73 70 (.bin .eql (zT 71) (zT 72)),d6 74 (.pick (zT 70) (zT 73) zf),
  a7 4 74] [[],[],[false,false],[],[],[],[],[],[],[],[],[],[],[],[],[],[],[],[],[],[],[],[]] [4]) .ret)))))),75,[(4,none)],true⟩
def aL8:AC:= .seq (zS [a7 4 3,J9 5 1 1,G9 6 5,d6 7 (.len false (zT 6)),l8 8 4 .lss (zT 7)] [1,3,8] (zC 8 .skip (.exit 0))) (.seq (.block 1 (zS [J9 11 1 1,G9 12 11,a7 13 3,d6 14 (.idxS 2 (zT 12) (zT 13)),J9 15 1 14,G9 16 15,L4 17 12 16] [1,3,17] (zC 17 (zS [d6 2 (.mov zt)] [2] .ret) .skip))) (.ops [a7 9 3,l8 10 9 .add (n6 1),a7 3 10] [1,3]))
def c4:n7:=⟨zS [d6 1 (.box 24 (zT 0)),d6 2 (.mov zf)] [1] (.seq (zS [x8 3 0] [1,3] (.block 0 (.loop [1,3] aL8))) (zS [J9 18 1 1,G9 19 18,d6 20 (.len false (zT 19)),l8 21 20 .gtr (n6 20),a7 22 21,x9 23 22 (.fldA 1 (zT 1)),x9 24 22 (.load none (zT 23)),x9 25 22 (.len false (zT 24)),x9 26 22 (.bin .leq (zT 25) (n6 100)),d6 27 (.pick (zT 22) (zT 26) zf),a7 28 27,y7 29 28 (.fldA 1 (zT 1)),y7 30 28 (.load none (zT 29)),y7 31 28 (.len false (zT 30)),y7 32 28 (.bin .gtr (zT 31) (n6 110)),d6 33 (.pick (zT 28) zt (zT 32)),a7 2 33] [2] .ret)),34,[(2,none)],true⟩
def aM1:AC:= zS [l8 25 24 .lss (zT 23)] [5,22,23,24,25] (.seq (zC 25 .skip (.exit 0)) (.seq (.block 1 (zS [a7 26 24,d6 27 (.idxS 2 (zT 22) (zT 24)),d6 28 (.load (some 2) (zT 27)),d6 7 (.alloc 42 [(1,(.bool false)),(1,(.slice none 0 0))]),a7 6 26,⟨none,none,.store 2 (zT 7) (zT 28)⟩] [5,6,7,22,23,24] (zS [d6 30 (.load (some 2) (zT 7)),a7 31 6,l8 32 31 .add (n6 1),d6 33 (.callF 15 [(zT 30),(zT 32)]),a7 29 33,J0 34 29 0,J0 35 29 1,a7 8 34,a7 9 35] [5,8,9,22,23,24] (.seq (zS [a7 36 9,l8 37 36 .neq (n6 0)] [5,8,9,22,23,24,37] (zC 37 (zS [a7 38 9,d6 2 (.mov (.const (.string ⟨#[]⟩))),a7 3 38] [2,3] .ret) .skip)) (.ops [a7 39 8,d6 40 (.bin .add (zT 39) (.const (.string ⟨#[10]⟩))),d6 41 (.callF 13 [(zT 5),(zT 40)])] [5,22,23,24]))))) (.ops [l8 42 24 .add (n6 1),a7 24 42] [5,22,23,24])))
def c5:n7:=⟨zS [d6 1 (.box 24 (zT 0)),d6 2 (.mov (.const (.string ⟨#[]⟩))),x8 3 0] [1] (.seq (zS [d6 10 (.load (some 2) (zT 1)),L4 11 9 10,a7 4 11] [1,4] (zS [a7 12 4,l8 13 12 .neq (n6 0)] [1,4,13] (zC 13 (zS [a7 14 4,d6 2 (.mov (.const (.string ⟨#[]⟩))),a7 3 14] [2,3] .ret) .skip))) (zS [d6 5 (.alloc 46 [(1,(.pointer none)),(1,(.slice none 0 0))])] [1,5] (zS [J9 15 0 1,G9 16 15,L4 17 14 16,d6 18 (.bin .add (.const (.string ⟨#[115,116,97,114,116,32,119,105,116,104,32]⟩)) (zT 17)),d6 19 (.bin .add (zT 18) (.const (.string ⟨#[32,115,116,105,116,99,104,101,115,46,10]⟩))),d6 20 (.callF 13 [(zT 5),(zT 19)])] [1,5] (.seq (zS [J9 21 1 1,G9 22 21,d6 23 (.len false (zT 22)),x8 24 0] [5,22,23,24] (.block 0 (.loop [5,22,23,24] aM1))) (.seq (zS [L4 43 16 5,l8 44 43 .gtr (n6 60000)] [5,44] (zC 44 (zS [d6 2 (.mov (.const (.string ⟨#[]⟩))),x8 3 4] [2,3] .ret) .skip)) (zS [L4 45 17 5,a7 2 45,x8 3 0] [2,3] .ret)))))),46,[(2,none),(3,none)],true⟩
def aM2:AC:= .seq (zS [a7 19 6,J9 20 1 1,G9 21 20,d6 22 (.len false (zT 21)),l8 23 19 .lss (zT 22)] [1,5,6,23] (zC 23 .skip (.exit 0))) (.seq (.block 1 (zS [J9 27 1 1,G9 28 27,a7 29 6,d6 30 (.idxS 2 (zT 28) (zT 29)),d6 31 (.load (some 2) (zT 30)),a7 32 6,l8 33 32 .add (n6 1),d6 34 (.callF 19 [(zT 31),(zT 33)]),a7 26 34,J0 35 26 0,J0 36 26 1,a7 7 35,a7 8 36] [1,5,6,7,8] (.seq (zS [a7 37 8,l8 38 37 .neq (n6 0)] [1,5,6,7,8,38] (zC 38 (zS [a7 39 8,d6 2 (.mov (.const (.string ⟨#[]⟩))),a7 3 39] [2,3] .ret) .skip)) (.ops [a7 40 5,a7 41 7,l8 42 40 .add (zT 41),d6 43 (.bin .add (zT 42) (.const (.string ⟨#[10]⟩))),a7 5 43] [1,5,6])))) (.ops [a7 24 6,l8 25 24 .add (n6 1),a7 6 25] [1,5,6]))
def c6:n7:=⟨zS [d6 1 (.box 24 (zT 0)),d6 2 (.mov (.const (.string ⟨#[]⟩))),x8 3 0] [1] (.seq (zS [d6 9 (.load (some 2) (zT 1)),L4 10 10 9,a7 4 10] [1,4] (zS [a7 11 4,l8 12 11 .neq (n6 0)] [1,4,12] (zC 12 (zS [a7 13 4,d6 2 (.mov (.const (.string ⟨#[]⟩))),a7 3 13] [2,3] .ret) .skip))) (zS [J9 14 0 1,G9 15 14,L4 16 18 15,d6 17 (.bin .add (.const (.string ⟨#[115,116,97,114,116,32,119,105,116,104,32]⟩)) (zT 16)),d6 18 (.bin .add (zT 17) (.const (.string ⟨#[32,115,116,105,116,99,104,101,115,46,10]⟩))),a7 5 18] [1,5] (.seq (zS [x8 6 0] [1,5,6] (.block 0 (.loop [1,5,6] aM2))) (.seq (zS [a7 44 5,d6 45 (.len true (zT 44)),l8 46 45 .gtr (n6 60000)] [5,46] (zC 46 (zS [d6 2 (.mov (.const (.string ⟨#[]⟩))),x8 3 4] [2,3] .ret) .skip)) (zS [a7 47 5,a7 2 47,x8 3 0] [2,3] .ret))))),48,[(2,none),(3,none)],true⟩
def TD:AC:= .seq (zS [a7 45 9,a7 46 4,d6 47 (.len false (zT 46)),l8 48 47 .sub (n6 1),l8 49 45 .lss (zT 48)] [0,2,4,8,9,49] (zC 49 .skip (.exit 0))) (.seq (.block 1 (zS [a7 53 4,a7 54 9,d6 55 (.idxS 1 (zT 53) (zT 54)),G9 56 55,L4 57 22 56,a7 52 57,J0 58 52 0,J0 59 52 1,J0 60 52 2,d6 10 (.alloc 42 [(1,(.bool false)),(1,(.slice none 0 0))]),⟨none,none,.store 2 (zT 10) (zT 58)⟩,a7 11 59,a7 12 60] [0,2,4,8,9,10,11,12] (.seq (zS [a7 61 12,l8 62 61 .neq (n6 0),a7 63 62,y7 64 63 (.mov (zT 11)),y7 65 63 (.mov (zT 9)),y7 66 63 (.bin .neq (zT 64) (zT 65)),d6 67 (.pick (zT 63) zt (zT 66))] [0,2,4,8,9,10,67] (zC 67 (zS [d6 68 (.build [(.int .i64 0),(.slice none 0 0)] []),⟨none,none,.store 2 (zT 2) (zT 68)⟩,x8 3 12] [2,3] .ret) .skip)) (.ops [J9 69 1 8,G9 70 69,d6 71 (.load (some 2) (zT 10)),d6 72 (.mkRow 42 2 1 [(.bool false),(.slice none 0 0)] [(0,2,(zT 71))]),d6 73 (.app 42 2 32 (zT 70) (zT 72)),J9 74 1 8,⟨none,none,.store 1 (zT 74) (zT 73)⟩] [0,2,4,8,9])))) (.ops [a7 50 9,l8 51 50 .add (n6 1),a7 9 51] [0,2,4,8,9]))
def c7:n7:=⟨zS [d6 2 (.alloc 24 [(1,(.int .i64 0)),(1,(.slice none 0 0))]),x8 3 0] [0,2] (.seq (zS [a7 15 0,d6 16 (.len true (zT 15)),l8 17 16 .gtr (n6 60000)] [0,2,17] (zC 17 (zS [d6 18 (.build [(.int .i64 0),(.slice none 0 0)] []),⟨none,none,.store 2 (zT 2) (zT 18)⟩,x8 3 12] [2,3] .ret) .skip)) (zS [a7 19 0,d6 20 (.callF 20 [(zT 19),(.const (.string ⟨#[10]⟩))]),a7 4 20] [0,2,4] (zS [a7 22 4,d6 23 (.idxS 1 (zT 22) (n6 0)),G9 24 23,d6 25 (.callF 21 [(zT 24),(.const (.string ⟨#[115,116,97,114,116,32,119,105,116,104,32,35,32,115,116,105,116,99,104,101,115,46]⟩))]),a7 21 25,J0 26 21 0,J0 27 21 1,J0 28 21 2,a7 5 26,a7 6 27,a7 7 28] [0,2,4,5,6,7] (.seq (zS [a7 29 7,d6 30 (.un .not (zT 29)),a7 31 30,y7 32 31 (.mov (zT 6)),y7 33 31 (.bin .neq (zT 32) (.const (.string ⟨#[]⟩))),d6 34 (.pick (zT 31) zt (zT 33)),a7 35 34,y7 36 35 (.mov (zT 4)),y7 37 35 (.len false (zT 36)),y7 38 35 (.bin .gtr (zT 37) (n6 102)),d6 39 (.pick (zT 35) zt (zT 38))] [0,2,4,5,39] (zC 39 (zS [d6 40 (.build [(.int .i64 0),(.slice none 0 0)] []),⟨none,none,.store 2 (zT 2) (zT 40)⟩,x8 3 12] [2,3] .ret) .skip)) (zS [a7 41 5,d6 42 (.idxS 1 (zT 41) (n6 0)),G9 43 42,d6 44 (.build [(.int .i64 0),(.slice none 0 0)] [(0,1,(zT 43))]),d6 8 (.alloc 24 [(1,(.int .i64 0)),(1,(.slice none 0 0))]),⟨none,none,.store 2 (zT 8) (zT 44)⟩] [0,2,4,8] (.seq (zS [x8 9 1] [0,2,4,8,9] (.block 0 (.loop [0,2,4,8,9] TD))) (.seq (zS [d6 76 (.load (some 2) (zT 8)),L4 77 5 76,a7 75 77,J0 78 75 0,J0 79 75 1,a7 13 78,a7 14 79] [0,2,8,13,14] (zS [a7 80 14,l8 81 80 .neq (n6 0),a7 82 81,y7 83 82 (.mov (zT 13)),y7 84 82 (.mov (zT 0)),y7 85 82 (.bin .neq (zT 83) (zT 84)),d6 86 (.pick (zT 82) zt (zT 85))] [2,8,86] (zC 86 (zS [d6 87 (.build [(.int .i64 0),(.slice none 0 0)] []),⟨none,none,.store 2 (zT 2) (zT 87)⟩,x8 3 12] [2,3] .ret) .skip))) (zS [d6 88 (.load (some 2) (zT 8)),⟨none,none,.store 2 (zT 2) (zT 88)⟩,x8 3 0] [2,3] .ret)))))))),89,[(2,(some (some 2))),(3,none)],true⟩
def TE:AC:= .seq (zS [a7 43 9,l8 44 43 .add (n6 1),a7 45 4,d6 46 (.len false (zT 45)),l8 47 44 .lss (zT 46)] [0,2,4,8,9,47] (zC 47 .skip (.exit 0))) (.seq (.block 1 (zS [a7 51 4,a7 52 9,d6 53 (.idxS 1 (zT 51) (zT 52)),G9 54 53,L4 55 25 54,a7 50 55,J0 56 50 0,J0 57 50 1,J0 58 50 2,d6 10 (.alloc 42 [(1,(.bool false)),(1,(.slice none 0 0))]),⟨none,none,.store 2 (zT 10) (zT 56)⟩,a7 11 57,a7 12 58] [0,2,4,8,9,10,11,12] (.seq (zS [a7 59 12,l8 60 59 .neq (n6 0),a7 61 60,y7 62 61 (.mov (zT 11)),y7 63 61 (.mov (zT 9)),y7 64 61 (.bin .neq (zT 62) (zT 63)),d6 65 (.pick (zT 61) zt (zT 64))] [0,2,4,8,9,10,65] (zC 65 (zS [d6 66 (.build [(.int .i64 0),(.slice none 0 0)] []),⟨none,none,.store 2 (zT 2) (zT 66)⟩,x8 3 12] [2,3] .ret) .skip)) (.ops [J9 67 1 8,G9 68 67,d6 69 (.load (some 2) (zT 10)),d6 70 (.mkRow 42 2 1 [(.bool false),(.slice none 0 0)] [(0,2,(zT 69))]),d6 71 (.app 42 2 32 (zT 68) (zT 70)),J9 72 1 8,⟨none,none,.store 1 (zT 72) (zT 71)⟩] [0,2,4,8,9])))) (.ops [a7 48 9,l8 49 48 .add (n6 1),a7 9 49] [0,2,4,8,9]))
def c8:n7:=⟨zS [d6 2 (.alloc 24 [(1,(.int .i64 0)),(1,(.slice none 0 0))]),x8 3 0] [0,2] (.seq (zS [a7 15 0,d6 16 (.len true (zT 15)),l8 17 16 .gtr (n6 60000)] [0,2,17] (zC 17 (zS [d6 18 (.build [(.int .i64 0),(.slice none 0 0)] []),⟨none,none,.store 2 (zT 2) (zT 18)⟩,x8 3 12] [2,3] .ret) .skip)) (zS [a7 19 0,d6 20 (.callF 23 [(zT 19),(I0 10)]),a7 4 20] [0,2,4] (zS [a7 21 4,d6 22 (.idxS 1 (zT 21) (n6 0)),G9 23 22,d6 24 (.callF 23 [(zT 23),(I0 32)]),a7 5 24] [0,2,4,5] (.seq (zS [a7 25 5,d6 26 (.len false (zT 25)),l8 27 26 .neq (n6 4),a7 28 27,y7 29 28 (.mov (zT 4)),y7 30 28 (.len false (zT 29)),y7 31 28 (.bin .gtr (zT 30) (n6 102)),d6 32 (.pick (zT 28) zt (zT 31))] [0,2,4,5,32] (zC 32 (zS [d6 33 (.build [(.int .i64 0),(.slice none 0 0)] []),⟨none,none,.store 2 (zT 2) (zT 33)⟩,x8 3 12] [2,3] .ret) .skip)) (zS [a7 35 5,d6 36 (.idxS 1 (zT 35) (n6 2)),G9 37 36,L4 38 24 37,a7 34 38,J0 39 34 0,J0 40 34 1,a7 6 39,a7 7 40] [0,2,4,6] (zS [a7 41 6,d6 42 (.build [(.int .i64 0),(.slice none 0 0)] [(0,1,(zT 41))]),d6 8 (.alloc 24 [(1,(.int .i64 0)),(1,(.slice none 0 0))]),⟨none,none,.store 2 (zT 8) (zT 42)⟩] [0,2,4,8] (.seq (zS [x8 9 1] [0,2,4,8,9] (.block 0 (.loop [0,2,4,8,9] TE))) (zS [d6 74 (.load (some 2) (zT 8)),L4 75 6 74,a7 73 75,J0 76 73 0,J0 77 73 1,a7 13 76,a7 14 77] [0,2,8,13,14] (.seq (zS [a7 78 14,l8 79 78 .neq (n6 0),a7 80 79,y7 81 80 (.mov (zT 13)),y7 82 80 (.mov (zT 0)),y7 83 80 (.bin .neq (zT 81) (zT 82)),d6 84 (.pick (zT 80) zt (zT 83))] [2,8,84] (zC 84 (zS [d6 85 (.build [(.int .i64 0),(.slice none 0 0)] []),⟨none,none,.store 2 (zT 2) (zT 85)⟩,x8 3 12] [2,3] .ret) .skip)) (zS [d6 86 (.load (some 2) (zT 8)),⟨none,none,.store 2 (zT 2) (zT 86)⟩,x8 3 0] [2,3] .ret)))))))))),87,[(2,(some (some 2))),(3,none)],true⟩
def bE3:AC:= zS [l8 22 21 .lss (zT 20)] [19,20,21,22] (.seq (zC 22 .skip (.exit 0)) (.seq (.block 1 (zS [d6 23 (.idxS 2 (zT 19) (zT 21)),d6 24 (.load (some 2) (zT 23)),d6 4 (.alloc 42 [(1,(.bool false)),(1,(.slice none 0 0))]),⟨none,none,.store 2 (zT 4) (zT 24)⟩] [4,19,20,21] (zS [J9 25 1 4,G9 26 25,L4 27 26 26,a7 5 27] [5,19,20,21] (zS [a7 28 5,l8 29 28 .neq (n6 0)] [5,19,20,21,29] (zC 29 (zS [a7 30 5,a7 2 30] [2] .ret) .skip))))) (.ops [l8 31 21 .add (n6 1),a7 21 31] [19,20,21])))
def c9:n7:=⟨zS [d6 1 (.box 24 (zT 0)),x8 2 0] [1] (.seq (zS [J9 6 1 1,G9 7 6,d6 8 (.len false (zT 7)),l8 9 8 .gtr (n6 100)] [1,9] (zC 9 (zS [x8 2 4] [2] .ret) .skip)) (.seq (zS [J9 10 0 1,G9 11 10,l8 12 11 .lss (n6 0),a7 13 12,y7 14 13 (.fldA 0 (zT 1)),y7 15 13 (.load none (zT 14)),y7 16 13 (.bin .gtr (zT 15) (n6 200)),d6 17 (.pick (zT 13) zt (zT 16))] [1,17] (zC 17 (zS [x8 2 8] [2] .ret) .skip)) (.seq (zS [J9 18 1 1,G9 19 18,d6 20 (.len false (zT 19)),x8 21 0] [19,20,21] (.block 0 (.loop [19,20,21] bE3))) (zS [x8 2 0] [2] .ret)))),32,[(2,none)],true⟩
def WM:AC:= .seq (zS [a7 17 3,J9 18 1 1,G9 19 18,d6 20 (.len false (zT 19)),l8 21 17 .lss (zT 20)] [1,3,21] (zC 21 .skip (.exit 0))) (.seq (.block 1 (zS [J9 24 1 1,G9 25 24,a7 26 3,d6 27 (.idxS 2 (zT 25) (zT 26)),J9 28 1 27,G9 29 28,L4 30 27 29,a7 4 30] [1,3,4] (zS [a7 31 4,l8 32 31 .neq (n6 0)] [1,3,4,32] (zC 32 (zS [a7 33 4,a7 2 33] [2] .ret) .skip)))) (.ops [a7 22 3,l8 23 22 .add (n6 1),a7 3 23] [1,3]))
def c10:n7:=⟨zS [d6 1 (.box 24 (zT 0)),x8 2 0] [1] (.seq (zS [J9 5 1 1,G9 6 5,d6 7 (.len false (zT 6)),l8 8 7 .gtr (n6 100)] [1,8] (zC 8 (zS [x8 2 4] [2] .ret) .skip)) (.seq (zS [J9 9 0 1,G9 10 9,l8 11 10 .lss (n6 0),a7 12 11,y7 13 12 (.fldA 0 (zT 1)),y7 14 12 (.load none (zT 13)),y7 15 12 (.bin .gtr (zT 14) (n6 200)),d6 16 (.pick (zT 12) zt (zT 15))] [1,16] (zC 16 (zS [x8 2 8] [2] .ret) .skip)) (.seq (zS [x8 3 0] [1,3] (.block 0 (.loop [1,3] WM))) (zS [x8 2 0] [2] .ret)))),34,[(2,none)],true⟩
def aL3:AC:= .seq (zS [a7 20 5,J9 21 1 2,G9 22 21,d6 23 (.len false (zT 22)),l8 24 20 .lss (zT 23)] [2,3,5,24] (zC 24 .skip (.exit 0))) (.seq (.block 1 (.seq (.draw [J9 27 1 2,G9 28 27,a7 29 5,d6 30 (.idxS 2 (zT 28) (zT 29)),J9 31 0 30,G9 32 31,J9 33 1 3,G9 34 33,a7 35 5,d6 36 (.idxS 2 (zT 34) (zT 35)),J9 37 0 36,G9 38 37,d6 39 (.eqB true (zT 32) (zT 38)),a7 40 39,y7 41 40 (.fldA 1 (zT 2)),y7 42 40 (.load none (zT 41)),y7 43 40 (.mov (zT 5)),y7 44 40 (.idxS 2 (zT 42) (zT 43)),y7 45 40 (.fldA 1 (zT 44)),y7 46 40 (.load none (zT 45)),y7 47 40 (.fldA 1 (zT 3)),y7 48 40 (.load none (zT 47)),y7 49 40 (.mov (zT 5)),y7 50 40 (.idxS 2 (zT 48) (zT 49)),y7 51 40 (.fldA 1 (zT 50)),y7 52 40 (.load none (zT 51))] [y7 53 40 (.callF 28 [(zT 46),(zT 52)]),y7 54 40 (.un .not (zT 53)),d6 55 (.pick (zT 40) zt (zT 54))] [[],[],[],[],[],[],[],[],[],[],[],[],[],[],[],[],[],[],[],[],[],[],[],[],[],[]] [2,3,5,55]) (zC 55 (zS [d6 4 (.mov zf)] [4] .ret) .skip))) (.ops [a7 25 5,l8 26 25 .add (n6 1),a7 5 26] [2,3,5]))
def c11:n7:=⟨zS [d6 2 (.box 24 (zT 0)),d6 3 (.box 24 (zT 1)),d6 4 (.mov zf)] [2,3] (.seq (zS [J9 6 0 2,G9 7 6,J9 8 0 3,G9 9 8,l8 10 7 .neq (zT 9),a7 11 10,y7 12 11 (.fldA 1 (zT 2)),y7 13 11 (.load none (zT 12)),y7 14 11 (.len false (zT 13)),y7 15 11 (.fldA 1 (zT 3)),y7 16 11 (.load none (zT 15)),y7 17 11 (.len false (zT 16)),y7 18 11 (.bin .neq (zT 14) (zT 17)),d6 19 (.pick (zT 11) zt (zT 18))] [2,3,19] (zC 19 (zS [d6 4 (.mov zf)] [4] .ret) .skip)) (.seq (zS [x8 5 0] [2,3,5] (.block 0 (.loop [2,3,5] aL3))) (zS [d6 4 (.mov zt)] [4] .ret))),56,[(4,none)],true⟩
def c12:n7:=⟨zS [d6 2 (.mov zf)] [0] (zS [a7 3 0,d6 4 (.len false (zT 3)),l8 5 4 .gtr (n6 60),a7 6 5,x9 7 6 (.mov (zT 0)),x9 8 6 (.len false (zT 7)),x9 9 6 (.bin .leq (zT 8) (n6 200)),d6 10 (.pick (zT 6) (zT 9) zf),a7 11 10,y7 12 11 (.mov (zT 0)),y7 13 11 (.len false (zT 12)),y7 14 11 (.bin .gtr (zT 13) (n6 300)),d6 15 (.pick (zT 11) zt (zT 14)),a7 2 15] [2] .ret),16,[(2,none)],true⟩
def c13:n7:=⟨zS [x8 4 0,d6 5 (.mov (.const .nilIface))] [0,1] (zS [a7 6 0,L4 7 29 6] [0,1] (zS [a7 8 0,a7 9 0,d6 10 (.nilChk (zT 9)),J9 11 1 10,G9 12 11,a7 13 1,d6 14 (.app 5 1 1 (zT 12) (zT 13)),d6 15 (.nilChk (zT 8)),J9 16 1 15,⟨none,none,.store 1 (zT 16) (zT 14)⟩] [1] (zS [a7 17 1,d6 18 (.len true (zT 17)),a7 4 18,d6 5 (.mov (.const .nilIface))] [4,5] .ret))),19,[(4,none),(5,none)],false⟩
def c15:n7:=⟨zS [d6 2 (.box 42 (zT 0)),d6 4 (.mov (.const (.string ⟨#[]⟩))),x8 5 0] [1,2] (.seq (zS [J9 9 1 2,G9 10 9,L4 11 26 10,a7 6 11] [1,2,6] (zS [a7 12 6,l8 13 12 .neq (n6 0)] [1,2,6,13] (zC 13 (zS [a7 14 6,d6 4 (.mov (.const (.string ⟨#[]⟩))),a7 5 14] [4,5] .ret) .skip))) (.seq (zS [a7 15 1,l8 16 15 .lss (n6 1),a7 17 16,y7 18 17 (.mov (zT 1)),y7 19 17 (.bin .gtr (zT 18) (n6 100)),d6 20 (.pick (zT 17) zt (zT 19))] [1,2,20] (zC 20 (zS [d6 4 (.mov (.const (.string ⟨#[]⟩))),x8 5 2] [4,5] .ret) .skip)) (zS [J9 22 1 2,G9 23 22,L4 24 31 23,a7 21 24,J0 25 21 0,J0 26 21 1,a7 7 25,a7 8 26] [1,2,7,8] (.seq (zS [a7 27 8,l8 28 27 .neq (n6 0)] [1,2,7,8,28] (zC 28 (zS [a7 29 8,d6 4 (.mov (.const (.string ⟨#[]⟩))),a7 5 29] [4,5] .ret) .skip)) (.seq (.draw [a7 30 1,L4 31 14 30,d6 32 (.bin .add (.const (.string ⟨#[114,111,119,32]⟩)) (zT 31)),d6 33 (.bin .add (zT 32) (.const (.string ⟨#[32,40]⟩))),J9 34 0 2,G9 35 34,L4 36 32 35,l8 37 33 .add (zT 36),d6 38 (.bin .add (zT 37) (.const (.string ⟨#[41,58,32]⟩))),a7 39 7] [l8 40 38 .add (zT 39),d6 41 (.bin .add (zT 40) (.const (.string ⟨#[46]⟩))),a7 4 41,x8 5 0] [[],[],[],[],[false,false,false,false],[true,false,false,false,false],[],[],[],[false,false,false,false,false,false,false,false,false]] [4,5]) .ret))))),42,[(4,none),(5,none)],true⟩
def c16:n7:=⟨zS [x8 2 0] [0] (zS [a7 3 0,d6 4 (.nilChk (zT 3)),J9 5 1 4,G9 6 5,d6 7 (.len false (zT 6)),a7 2 7] [2] .ret),8,[(2,none)],true⟩
def c17:n7:=⟨zS [d6 2 (.mov (.const (.string ⟨#[]⟩)))] [0] (.seq (.draw [a7 3 0,d6 4 (.nilChk (zT 3)),J9 5 1 4,G9 6 5,d6 7 (.sdata (zT 6)),a7 8 0,d6 9 (.nilChk (zT 8)),J9 10 1 9,G9 11 10,d6 12 (.len false (zT 11))] [d6 13 (.ustr 5 (zT 7) (zT 12)),a7 2 13] [[],[],[],[],[],[],[],[],[],[]] [2]) .ret),14,[(2,none)],false⟩
def aL4:AC:= .seq (zS [a7 12 0,l8 13 12 .gtr (n6 0)] [0,3,13] (zC 13 .skip (.exit 0))) (.seq (.block 1 (.ops [a7 16 0,l8 17 16 .rem (n6 10),d6 18 (.bin .add (n6 48) (zT 17)),d6 19 (.convI .u8 (zT 18)),d6 20 (.mkRow 5 1 1 [(.int .u8 0)] [(0,1,(zT 19))]),d6 21 (.b2s (zT 20)),a7 22 3,l8 23 21 .add (zT 22),a7 3 23] [0,3])) (.ops [a7 14 0,l8 15 14 .quo (n6 10),a7 0 15] [0,3]))
def c18:n7:=⟨zS [d6 2 (.mov (.const (.string ⟨#[]⟩)))] [0] (zS [a7 4 0,l8 5 4 .rem (n6 10),d6 6 (.bin .add (n6 48) (zT 5)),d6 7 (.convI .u8 (zT 6)),d6 8 (.mkRow 5 1 1 [(.int .u8 0)] [(0,1,(zT 7))]),d6 9 (.b2s (zT 8)),a7 3 9] [0,3] (.seq (zS [a7 10 0,l8 11 10 .quo (n6 10),a7 0 11] [0,3] (.block 0 (.loop [0,3] aL4))) (zS [a7 24 3,a7 2 24] [2] .ret))),25,[(2,none)],true⟩
def c19:n7:=⟨zS [d6 2 (.box 42 (zT 0)),d6 4 (.mov (.const (.string ⟨#[]⟩))),x8 5 0] [1,2] (.seq (zS [J9 9 1 2,G9 10 9,L4 11 27 10,a7 6 11] [1,2,6] (zS [a7 12 6,l8 13 12 .neq (n6 0)] [1,2,6,13] (zC 13 (zS [a7 14 6,d6 4 (.mov (.const (.string ⟨#[]⟩))),a7 5 14] [4,5] .ret) .skip))) (.seq (zS [a7 15 1,l8 16 15 .lss (n6 1),a7 17 16,y7 18 17 (.mov (zT 1)),y7 19 17 (.bin .gtr (zT 18) (n6 100)),d6 20 (.pick (zT 17) zt (zT 19))] [1,2,20] (zC 20 (zS [d6 4 (.mov (.const (.string ⟨#[]⟩))),x8 5 2] [4,5] .ret) .skip)) (zS [J9 22 1 2,G9 23 22,L4 24 33 23,a7 21 24,J0 25 21 0,J0 26 21 1,a7 7 25,a7 8 26] [1,2,7,8] (.seq (zS [a7 27 8,l8 28 27 .neq (n6 0)] [1,2,7,8,28] (zC 28 (zS [a7 29 8,d6 4 (.mov (.const (.string ⟨#[]⟩))),a7 5 29] [4,5] .ret) .skip)) (zS [J9 30 0 2,G9 31 30,a7 32 1,d6 33 (.callF 34 [(zT 31),(zT 32)]),a7 34 7,l8 35 33 .add (zT 34),d6 36 (.bin .add (zT 35) (.const (.string ⟨#[46]⟩))),a7 4 36,x8 5 0] [4,5] .ret))))),37,[(4,none),(5,none)],true⟩
def c20:n7:=⟨zS [d6 4 (.mov (.const (.slice none 0 0)))] [0,1] (zS [a7 5 0,a7 6 1,d6 7 (.callF 35 [(zT 5),(zT 6),(n6 0),(n6 (-1))]),a7 4 7] [4] .ret),8,[(4,none)],true⟩
def vQ:AC:= zS [l8 20 19 .lss (zT 18)] [0,4,17,18,19,20] (.seq (zC 20 .skip (.exit 0)) (.seq (.block 1 (zS [a7 21 19,d6 22 (.idxS 1 (zT 17) (zT 19)),G9 23 22,a7 8 21,a7 9 23] [0,4,8,9,17,18,19] (.seq (zS [a7 24 8,l8 25 24 .gtr (n6 0)] [0,4,9,17,18,19,25] (zC 25 (zS [a7 27 0,L4 28 36 27,a7 26 28,J0 29 26 0,J0 30 26 1,J0 31 26 2,a7 10 29,a7 11 30,a7 12 31] [4,9,10,11,12,17,18,19] (.seq (zS [a7 32 12,d6 33 (.un .not (zT 32))] [4,9,10,11,17,18,19,33] (zC 33 (zS [d6 4 (.mov (.const (.slice none 0 0))),d6 5 (.mov (.const (.string ⟨#[]⟩))),d6 6 (.mov zf)] [4,5,6] .ret) .skip)) (.ops [a7 34 4,a7 35 10,d6 36 (.mkRow 3 1 1 [(.int .i64 0)] [(0,1,(zT 35))]),d6 37 (.app 3 1 8 (zT 34) (zT 36)),a7 38 11,a7 4 37,a7 0 38] [0,4,9,17,18,19]))) .skip)) (zS [a7 40 0,a7 41 9,d6 42 (.callF 37 [(zT 40),(zT 41)]),a7 39 42,J0 43 39 0,J0 44 39 1,a7 13 43,a7 14 44] [4,13,14,17,18,19] (.seq (zS [a7 45 14,d6 46 (.un .not (zT 45))] [4,13,17,18,19,46] (zC 46 (zS [d6 4 (.mov (.const (.slice none 0 0))),d6 5 (.mov (.const (.string ⟨#[]⟩))),d6 6 (.mov zf)] [4,5,6] .ret) .skip)) (.ops [a7 47 13,a7 0 47] [0,4,17,18,19])))))) (.ops [l8 48 19 .add (n6 1),a7 19 48] [0,4,17,18,19])))
def c21:n7:=⟨zS [d6 4 (.mov (.const (.slice none 0 0))),d6 5 (.mov (.const (.string ⟨#[]⟩))),d6 6 (.mov zf)] [0,1,4] (zS [a7 15 1,d6 16 (.callF 20 [(zT 15),(.const (.string ⟨#[35]⟩))]),a7 7 16] [0,4,7] (.seq (zS [a7 17 7,d6 18 (.len false (zT 17)),x8 19 0] [0,4,17,18,19] (.block 0 (.loop [0,4,17,18,19] vQ))) (zS [a7 49 4,a7 50 0,a7 4 49,a7 5 50,d6 6 (.mov zt)] [4,5,6] .ret))),51,[(4,none),(5,none),(6,none)],true⟩
def sS:AC:= zS [l8 39 38 .lss (n6 2)] [0,2,5,8,37,38,39] (.seq (zC 39 .skip (.exit 0)) (.seq (.block 1 (zS [d6 40 (.idxV 2 1 none (zT 37) (zT 38)),a7 11 40] [0,2,5,8,11,37,38] (zS [a7 42 8,a7 43 11,L4 44 32 43,d6 45 (.bin .add (zT 44) (.const (.string ⟨#[41,58,32]⟩))),d6 46 (.callF 37 [(zT 42),(zT 45)]),a7 41 46,J0 47 41 0,J0 48 41 1,a7 12 47,a7 13 48] [0,2,5,8,11,12,13,37,38] (.seq (zS [a7 49 13,d6 50 (.un .not (zT 49))] [0,2,5,8,11,12,37,38,50] (zC 50 (.exit 1) .skip)) (zS [a7 52 12,L4 53 39 52,a7 51 53,J0 54 51 0,J0 55 51 1,a7 14 54,a7 15 55] [0,2,5,8,11,14,15,37,38] (zS [a7 56 11,a7 57 14,d6 58 (.build [(.bool false),(.slice none 0 0)] [(0,1,(zT 56)),(1,1,(zT 57))]),d6 16 (.alloc 42 [(1,(.bool false)),(1,(.slice none 0 0))]),⟨none,none,.store 2 (zT 16) (zT 58)⟩] [0,2,5,8,15,16,37,38] (.seq (.draw [d6 60 (.load (some 2) (zT 16)),a7 61 5,d6 62 (.idxS 1 (zT 61) (n6 0)),G9 63 62,d6 64 (.callF 15 [(zT 60),(zT 63)]),a7 59 64,J0 65 59 0,J0 66 59 1,a7 17 65] [a7 18 66] [[],[],[],[],[],[],[],[],[]] [0,2,5,8,15,16,17,18,37,38]) (zS [a7 67 15,l8 68 67 .eql (n6 0),a7 69 68,x9 70 69 (.mov (zT 18)),x9 71 69 (.bin .eql (zT 70) (n6 0)),d6 72 (.pick (zT 69) (zT 71) zf),a7 73 72,x9 74 73 (.mov (zT 17)),x9 75 73 (.mov (zT 0)),x9 76 73 (.bin .eql (zT 74) (zT 75)),d6 77 (.pick (zT 73) (zT 76) zf)] [0,2,5,8,16,37,38,77] (zC 77 (.seq (.drawW [⟨d6 78 (.load (some 2) (zT 16)),[],none⟩,⟨a7 79 5,[0],none⟩,⟨d6 80 (.idxS 1 (zT 79) (n6 0)),[0],none⟩,⟨G9 81 80,[0],none⟩,⟨⟨none,none,.store 2 (zT 2) (zT 78)⟩,[1,2,3],none⟩] [a7 3 81,x8 4 0] [2,3,4]) .ret) .skip))))))))) (.ops [l8 82 38 .add (n6 1),a7 38 82] [0,2,5,8,37,38])))
def c22:n7:=⟨zS [d6 2 (.alloc 42 [(1,(.bool false)),(1,(.slice none 0 0))]),x8 3 0,x8 4 0] [0,2] (zS [a7 20 0,d6 21 (.callF 21 [(zT 20),(.const (.string ⟨#[114,111,119,32,35,32,40]⟩))]),a7 19 21,J0 22 19 0,J0 23 19 1,J0 24 19 2,a7 5 22,a7 6 23,a7 7 24] [0,2,5,6,7] (zS [a7 26 6,d6 27 (.callF 38 [(zT 26),(.const (.string ⟨#[46]⟩))]),a7 25 27,J0 28 25 0,J0 29 25 1,a7 8 28,a7 9 29] [0,2,5,7,8,9] (.seq (zS [a7 30 7,d6 31 (.un .not (zT 30)),a7 32 31,y7 33 32 (.mov (zT 9)),y7 34 32 (.un .not (zT 33)),d6 35 (.pick (zT 32) zt (zT 34))] [0,2,5,8,35] (zC 35 (zS [d6 36 (.build [(.bool false),(.slice none 0 0)] []),⟨none,none,.store 2 (zT 2) (zT 36)⟩,x8 3 0,x8 4 12] [2,3,4] .ret) .skip)) (.seq (zS [d6 37 (.build [(.bool false),(.bool false)] [(0,1,zf),(1,1,zt)]),x8 38 0] [0,2,5,8,37,38] (.block 0 (.loop [0,2,5,8,37,38] sS))) (zS [d6 83 (.build [(.bool false),(.slice none 0 0)] []),⟨none,none,.store 2 (zT 2) (zT 83)⟩,x8 3 0,x8 4 12] [2,3,4] .ret))))),84,[(2,(some (some 2))),(3,none),(4,none)],true⟩
def LL:AC:= .seq (zS [a7 8 7,a7 9 0,d6 10 (.len true (zT 9)),l8 11 8 .leq (zT 10)] [0,1,5,6,7,11] (zC 11 .skip (.exit 0))) (.seq (.block 1 (zS [a7 14 7,a7 15 0,d6 16 (.len true (zT 15)),l8 17 14 .eql (zT 16),a7 18 17,y7 19 18 (.mov (zT 0)),y7 20 18 (.mov (zT 7)),y7 21 18 (.idxStr (zT 19) (zT 20)),y7 22 18 (.mov (zT 1)),y7 23 18 (.bin .eql (zT 21) (zT 22)),d6 24 (.pick (zT 18) zt (zT 23))] [0,1,5,6,7,24] (zC 24 (zS [a7 25 5,a7 26 0,a7 27 6,a7 28 7,d6 29 (.slcS (zT 26) (some (zT 27)) (some (zT 28))),d6 30 (.mkRow 9 1 1 [(.string ⟨#[]⟩)] [(0,1,(zT 29))]),d6 31 (.app 9 1 16 (zT 25) (zT 30)),a7 5 31] [0,1,5,7] (.ops [a7 32 7,l8 33 32 .add (n6 1),a7 6 33] [0,1,5,6,7])) .skip))) (.ops [a7 12 7,l8 13 12 .add (n6 1),a7 7 13] [0,1,5,6,7]))
def c23:n7:=⟨zS [d6 4 (.mov (.const (.slice none 0 0)))] [0,1] (zS [d6 5 (.mov (.const (.slice none 0 0)))] [0,1,5] (zS [x8 6 0] [0,1,5,6] (.seq (zS [x8 7 0] [0,1,5,6,7] (.block 0 (.loop [0,1,5,6,7] LL))) (zS [a7 34 5,a7 4 34] [4] .ret)))),35,[(4,none)],true⟩
def WN:AC:= .seq (zS [a7 24 5,a7 25 0,d6 26 (.len true (zT 25)),l8 27 24 .lss (zT 26)] [0,4,5,27] (zC 27 .skip (.exit 0))) (.seq (.block 1 (.seq (zS [a7 30 0,a7 31 5,d6 32 (.idxStr (zT 30) (zT 31)),l8 33 32 .lss (I0 48),a7 34 33,y7 35 34 (.mov (zT 0)),y7 36 34 (.mov (zT 5)),y7 37 34 (.idxStr (zT 35) (zT 36)),y7 38 34 (.bin .gtr (zT 37) (I0 57)),d6 39 (.pick (zT 34) zt (zT 38))] [0,4,5,39] (zC 39 (zS [x8 2 0,d6 3 (.mov zf)] [2,3] .ret) .skip)) (.ops [a7 40 4,d6 41 (.bin .mul (n6 10) (zT 40)),a7 42 0,a7 43 5,d6 44 (.idxStr (zT 42) (zT 43)),l8 45 44 .sub (I0 48),d6 46 (.convI .i64 (zT 45)),l8 47 41 .add (zT 46),a7 4 47] [0,4,5]))) (.ops [a7 28 5,l8 29 28 .add (n6 1),a7 5 29] [0,4,5]))
def c24:n7:=⟨zS [x8 2 0,d6 3 (.mov zf)] [0] (.seq (zS [a7 6 0,d6 7 (.len true (zT 6)),l8 8 7 .eql (n6 0),a7 9 8,y7 10 9 (.mov (zT 0)),y7 11 9 (.len true (zT 10)),y7 12 9 (.bin .gtr (zT 11) (n6 4)),d6 13 (.pick (zT 9) zt (zT 12)),a7 14 13,y7 15 14 (.mov (zT 0)),y7 16 14 (.len true (zT 15)),y7 17 14 (.bin .gtr (zT 16) (n6 1)),y7 18 14 (.mov (zT 17)),x9 19 18 (.mov (zT 0)),x9 20 18 (.idxStr (zT 19) (n6 0)),x9 21 18 (.bin .eql (zT 20) (I0 48)),y7 22 14 (.pick (zT 18) (zT 21) zf),d6 23 (.pick (zT 14) zt (zT 22))] [0,23] (zC 23 (zS [x8 2 0,d6 3 (.mov zf)] [2,3] .ret) .skip)) (zS [x8 4 0] [0,4] (.seq (zS [x8 5 0] [0,4,5] (.block 0 (.loop [0,4,5] WN))) (zS [a7 48 4,a7 2 48,d6 3 (.mov zt)] [2,3] .ret)))),49,[(2,none),(3,none)],true⟩
def sT:AC:= .seq (zS [a7 14 6,l8 15 14 .lss (n6 2)] [0,2,5,6,15] (zC 15 .skip (.exit 2))) (.seq (.block 3 (zS [a7 18 6,l8 19 18 .eql (n6 1),a7 20 5,d6 21 (.callF 34 [(zT 19),(zT 20)]),a7 7 21] [0,2,5,6,7] (.seq (zS [a7 22 0,a7 23 7,d6 24 (.callF 40 [(zT 22),(zT 23)]),d6 25 (.un .not (zT 24)),a7 26 25,y7 27 26 (.mov (zT 0)),y7 28 26 (.len true (zT 27)),y7 29 26 (.mov (zT 7)),y7 30 26 (.len true (zT 29)),y7 31 26 (.bin .eql (zT 28) (zT 30)),d6 32 (.pick (zT 26) zt (zT 31)),a7 33 32,y7 34 33 (.mov (zT 0)),y7 35 33 (.mov (zT 0)),y7 36 33 (.len true (zT 35)),y7 37 33 (.bin .sub (zT 36) (n6 1)),y7 38 33 (.idxStr (zT 34) (zT 37)),y7 39 33 (.bin .neq (zT 38) (I0 46)),d6 40 (.pick (zT 33) zt (zT 39))] [0,2,5,6,7,40] (zC 40 (.exit 3) .skip)) (zS [a7 42 0,a7 43 7,d6 44 (.len true (zT 43)),a7 45 0,d6 46 (.len true (zT 45)),l8 47 46 .sub (n6 1),d6 48 (.slcS (zT 42) (some (zT 44)) (some (zT 47))),L4 49 41 48,a7 41 49,J0 50 41 0,J0 51 41 1,a7 8 50,a7 9 51] [0,2,5,6,8,9] (zS [a7 52 9,l8 53 52 .eql (n6 0)] [0,2,5,6,8,53] (zC 53 (zS [a7 54 6,l8 55 54 .eql (n6 1),a7 56 8,d6 57 (.build [(.bool false),(.slice none 0 0)] [(0,1,(zT 55)),(1,1,(zT 56))]),a7 58 5,⟨none,none,.store 2 (zT 2) (zT 57)⟩,a7 3 58,x8 4 0] [2,3,4] .ret) .skip)))))) (.ops [a7 16 6,l8 17 16 .add (n6 1),a7 6 17] [0,2,5,6]))
def aL5:AC:= .seq (zS [a7 10 5,l8 11 10 .leq (n6 100)] [0,2,5,11] (zC 11 .skip (.exit 0))) (.seq (.block 1 (zS [x8 6 0] [0,2,5,6] (.block 2 (.loop [0,2,5,6] sT)))) (.ops [a7 12 5,l8 13 12 .add (n6 1),a7 5 13] [0,2,5]))
def c25:n7:=⟨zS [d6 2 (.alloc 42 [(1,(.bool false)),(1,(.slice none 0 0))]),x8 3 0,x8 4 0] [0,2] (.seq (zS [x8 5 1] [0,2,5] (.block 0 (.loop [0,2,5] aL5))) (zS [d6 59 (.build [(.bool false),(.slice none 0 0)] []),⟨none,none,.store 2 (zT 2) (zT 59)⟩,x8 3 0,x8 4 12] [2,3,4] .ret)),60,[(2,(some (some 2))),(3,none),(4,none)],true⟩
def c26:n7:=⟨zS [x8 2 0] [0] (.seq (zS [a7 5 0,d6 6 (.len false (zT 5)),l8 7 6 .gtr (n6 200)] [0,7] (zC 7 (zS [x8 2 4] [2] .ret) .skip)) (.seq (zS [a7 8 0,d6 9 (.callF 42 [(zT 8),(.func 43)])] [0,9] (zC 9 (zS [x8 2 8] [2] .ret) .skip)) (.seq (zS [a7 11 0,L4 12 45 11,a7 10 12,J0 13 10 0,J0 14 10 1,a7 3 13,a7 4 14] [3,4] (zS [a7 15 3,a7 16 4,d6 17 (.mm true (zT 15) (zT 16)),l8 18 17 .gtr (n6 200)] [18] (zC 18 (zS [x8 2 4] [2] .ret) .skip))) (zS [x8 2 0] [2] .ret)))),19,[(2,none)],true⟩
def LM:AC:= .seq (zS [a7 9 3,a7 10 0,d6 11 (.len false (zT 10)),l8 12 9 .lss (zT 11)] [0,3,12] (zC 12 .skip (.exit 0))) (.seq (.block 1 (zS [a7 15 0,a7 16 3,d6 17 (.idxS 4 (zT 15) (zT 16)),d6 18 (.load (some 4) (zT 17)),L4 19 46 18,l8 20 19 .neq (n6 0)] [0,3,20] (zC 20 (zS [x8 2 8] [2] .ret) .skip))) (.ops [a7 13 3,l8 14 13 .add (n6 1),a7 3 14] [0,3]))
def c27:n7:=⟨zS [x8 2 0] [0] (.seq (zS [a7 6 0,d6 7 (.len false (zT 6)),l8 8 7 .gtr (n6 200)] [0,8] (zC 8 (zS [x8 2 4] [2] .ret) .skip)) (.seq (zS [x8 3 0] [0,3] (.block 0 (.loop [0,3] LM))) (zS [a7 22 0,L4 23 47 22,a7 21 23,J0 24 21 0,J0 25 21 1,a7 4 24,a7 5 25] [4,5] (.seq (zS [a7 26 4,l8 27 26 .gtr (n6 200),a7 28 27,y7 29 28 (.mov (zT 5)),y7 30 28 (.bin .gtr (zT 29) (n6 200)),d6 31 (.pick (zT 28) zt (zT 30))] [31] (zC 31 (zS [x8 2 4] [2] .ret) .skip)) (zS [x8 2 0] [2] .ret))))),32,[(2,none)],true⟩
def WO:AC:= .seq (zS [a7 11 5,a7 12 0,d6 13 (.len false (zT 12)),l8 14 11 .lss (zT 13)] [0,1,5,14] (zC 14 .skip (.exit 0))) (.seq (.block 1 (.seq (.draw [a7 17 0,a7 18 5,d6 19 (.idxS 4 (zT 17) (zT 18)),d6 20 (.load (some 4) (zT 19)),a7 21 1,a7 22 5,d6 23 (.idxS 4 (zT 21) (zT 22)),d6 24 (.load (some 4) (zT 23))] [d6 25 (.eqAgg true [(0,0),(1,2),(2,0),(3,0)] (zT 20) (zT 24))] [[],[],[],[],[],[],[],[]] [0,1,5,25]) (zC 25 (zS [d6 4 (.mov zf)] [4] .ret) .skip))) (.ops [a7 15 5,l8 16 15 .add (n6 1),a7 5 16] [0,1,5]))
def c28:n7:=⟨zS [d6 4 (.mov zf)] [0,1] (.seq (zS [a7 6 0,d6 7 (.len false (zT 6)),a7 8 1,d6 9 (.len false (zT 8)),l8 10 7 .neq (zT 9)] [0,1,10] (zC 10 (zS [d6 4 (.mov zf)] [4] .ret) .skip)) (.seq (zS [x8 5 0] [0,1,5] (.block 0 (.loop [0,1,5] WO))) (zS [d6 4 (.mov zt)] [4] .ret))),26,[(4,none)],true⟩
def c29:n7:=⟨zS [a7 2 0,d6 3 (.nilChk (zT 2)),J9 4 0 3,G9 5 4,d6 6 (.eqNil 0 false (zT 5) (.const (.pointer none)))] [0,6] (zC 6 (.ops [a7 7 0,a7 8 0,d6 9 (.toUns (zT 8)),L4 10 48 9,d6 11 (.fromUns 46 2 (zT 10)),d6 12 (.nilChk (zT 7)),J9 13 0 12,⟨none,none,.store 1 (zT 13) (zT 11)⟩] []) (zS [a7 14 0,d6 15 (.nilChk (zT 14)),J9 16 0 15,G9 17 16,a7 18 0,d6 19 (.eqPtr true (zT 17) (zT 18))] [19] (zC 19 (.bad) .skip))),20,[],false⟩
def c31:n7:=⟨zS [d6 2 (.mov (.const (.string ⟨#[]⟩))),x8 3 0] [0] (.seq (zS [a7 6 0,L4 7 26 6,a7 4 7] [0,4] (zS [a7 8 4,l8 9 8 .neq (n6 0)] [0,4,9] (zC 9 (zS [a7 10 4,d6 2 (.mov (.const (.string ⟨#[]⟩))),a7 3 10] [2,3] .ret) .skip))) (zS [a7 11 0,L4 12 50 11,a7 5 12] [5] (.seq (zS [a7 13 5,d6 14 (.len true (zT 13)),l8 15 14 .gtr (n6 2000)] [5,15] (zC 15 (zS [d6 2 (.mov (.const (.string ⟨#[]⟩))),x8 3 4] [2,3] .ret) .skip)) (zS [a7 16 5,a7 2 16,x8 3 0] [2,3] .ret)))),17,[(2,none),(3,none)],true⟩
def c32:n7:=⟨zS [d6 2 (.mov (.const (.string ⟨#[]⟩)))] [0] (.seq (zS [a7 3 0] [3] (zC 3 (zS [d6 2 (.mov (.const (.string ⟨#[98,97,99,107]⟩)))] [2] .ret) .skip)) (zS [d6 2 (.mov (.const (.string ⟨#[102,114,111,110,116]⟩)))] [2] .ret)),4,[(2,none)],true⟩
def c33:n7:=⟨zS [d6 2 (.mov (.const (.string ⟨#[]⟩))),x8 3 0] [0] (.seq (zS [a7 6 0,L4 7 27 6,a7 4 7] [0,4] (zS [a7 8 4,l8 9 8 .neq (n6 0)] [0,4,9] (zC 9 (zS [a7 10 4,d6 2 (.mov (.const (.string ⟨#[]⟩))),a7 3 10] [2,3] .ret) .skip))) (zS [a7 11 0,L4 12 51 11,a7 5 12] [5] (.seq (zS [a7 13 5,d6 14 (.len true (zT 13)),l8 15 14 .gtr (n6 2000)] [5,15] (zC 15 (zS [d6 2 (.mov (.const (.string ⟨#[]⟩))),x8 3 4] [2,3] .ret) .skip)) (zS [a7 16 5,a7 2 16,x8 3 0] [2,3] .ret)))),17,[(2,none),(3,none)],true⟩
def c34:n7:=⟨zS [d6 4 (.mov (.const (.string ⟨#[]⟩)))] [0,1] (.seq (zS [a7 5 0] [1,5] (zC 5 (zS [a7 6 1,L4 7 18 6,d6 8 (.bin .add (.const (.string ⟨#[114,111,119,32]⟩)) (zT 7)),d6 9 (.bin .add (zT 8) (.const (.string ⟨#[32,40,98,97,99,107,41,58,32]⟩))),a7 4 9] [4] .ret) .skip)) (zS [a7 10 1,L4 11 18 10,d6 12 (.bin .add (.const (.string ⟨#[114,111,119,32]⟩)) (zT 11)),d6 13 (.bin .add (zT 12) (.const (.string ⟨#[32,40,102,114,111,110,116,41,58,32]⟩))),a7 4 13] [4] .ret)),14,[(4,none)],true⟩
def LN:AC:= .seq (zS [a7 34 10,a7 35 3,l8 36 34 .lss (zT 35)] [0,1,2,3,9,10,36] (zC 36 .skip (.exit 0))) (.block 1 (zS [a7 37 0,a7 38 1,d6 39 (.callF 54 [(zT 37),(zT 38)]),a7 11 39] [0,1,2,3,9,10,11] (.seq (zS [a7 40 11,l8 41 40 .lss (n6 0)] [0,1,2,3,9,10,11,41] (zC 41 (.exit 0) .skip)) (zS [a7 42 9,a7 43 10,a7 44 0,a7 45 11,a7 46 2,l8 47 45 .add (zT 46),d6 48 (.slcS (zT 44) none (some (zT 47))),d6 49 (.idxS 1 (zT 42) (zT 43)),⟨none,none,.store 1 (zT 49) (zT 48)⟩] [0,1,2,3,9,10,11] (zS [a7 50 0,a7 51 11,a7 52 1,d6 53 (.len true (zT 52)),l8 54 51 .add (zT 53),d6 55 (.slcS (zT 50) (some (zT 54)) none),a7 0 55] [0,1,2,3,9,10] (.ops [a7 56 10,l8 57 56 .add (n6 1),a7 10 57] [0,1,2,3,9,10]))))))
def c35:n7:=⟨zS [d6 8 (.mov (.const (.slice none 0 0)))] [0,1,2,3] (.seq (zS [a7 12 3,l8 13 12 .eql (n6 0)] [0,1,2,3,13] (zC 13 (zS [d6 8 (.mov (.const (.slice none 0 0)))] [8] .ret) .skip)) (.seq (zS [a7 14 1,d6 15 (.bin .eql (zT 14) (.const (.string ⟨#[]⟩)))] [0,1,2,3,15] (zC 15 (zS [a7 16 0,a7 17 3,d6 18 (.callF 52 [(zT 16),(zT 17)]),a7 8 18] [8] .ret) .skip)) (.seq (zS [a7 19 3,l8 20 19 .lss (n6 0)] [0,1,2,3,20] (zC 20 (.ops [a7 21 0,a7 22 1,d6 23 (.callF 53 [(zT 21),(zT 22)]),l8 24 23 .add (n6 1),a7 3 24] [0,1,2,3]) .skip)) (zS [a7 25 3,a7 26 0,d6 27 (.len true (zT 26)),l8 28 27 .add (n6 1),d6 29 (.mm false (zT 25) (zT 28)),a7 3 29] [0,1,2,3] (zS [a7 30 3,d6 31 (.mkSlice 9 1 16 [(.string ⟨#[]⟩)] (zT 30) (zT 30)),a7 9 31] [0,1,2,3,9] (zS [a7 32 3,l8 33 32 .sub (n6 1),a7 3 33] [0,1,2,3,9] (zS [x8 10 0] [0,1,2,3,9,10] (.seq (.block 0 (.loop [0,1,2,3,9,10] LN)) (zS [a7 58 9,a7 59 10,a7 60 0,d6 61 (.idxS 1 (zT 58) (zT 59)),⟨none,none,.store 1 (zT 61) (zT 60)⟩] [9,10] (zS [a7 62 9,a7 63 10,l8 64 63 .add (n6 1),d6 65 (.slc 1 (zT 62) none (some (zT 64)) none),a7 8 65] [8] .ret)))))))))),66,[(8,none)],true⟩
def LO:AC:= .seq (zS [a7 6 5,a7 7 0,d6 8 (.len true (zT 7)),l8 9 6 .lss (zT 8),a7 10 9,x9 11 10 (.mov (zT 5)),x9 12 10 (.bin .lss (zT 11) (n6 4)),d6 13 (.pick (zT 10) (zT 12) zf),a7 14 13,x9 15 14 (.mov (zT 0)),x9 16 14 (.mov (zT 5)),x9 17 14 (.idxStr (zT 15) (zT 16)),x9 18 14 (.bin .geq (zT 17) (I0 48)),d6 19 (.pick (zT 14) (zT 18) zf),a7 20 19,x9 21 20 (.mov (zT 0)),x9 22 20 (.mov (zT 5)),x9 23 20 (.idxStr (zT 21) (zT 22)),x9 24 20 (.bin .leq (zT 23) (I0 57)),d6 25 (.pick (zT 20) (zT 24) zf)] [0,2,5,25] (zC 25 .skip (.exit 0))) (.block 1 (zS [a7 26 2,d6 27 (.bin .mul (n6 10) (zT 26)),a7 28 0,a7 29 5,d6 30 (.idxStr (zT 28) (zT 29)),l8 31 30 .sub (I0 48),d6 32 (.convI .i64 (zT 31)),l8 33 27 .add (zT 32),a7 2 33] [0,2,5] (.ops [a7 34 5,l8 35 34 .add (n6 1),a7 5 35] [0,2,5])))
def c36:n7:=⟨zS [x8 2 0,d6 3 (.mov (.const (.string ⟨#[]⟩))),d6 4 (.mov zf)] [0,2] (zS [x8 5 0] [0,2,5] (.seq (.block 0 (.loop [0,2,5] LO)) (.seq (.draw [a7 36 2,a7 37 0,a7 38 5,d6 39 (.slcS (zT 37) (some (zT 38)) none),a7 40 5,l8 41 40 .gtr (n6 0),a7 2 36,a7 3 39] [a7 4 41] [[],[],[],[],[],[],[],[]] [2,3,4]) .ret))),42,[(2,none),(3,none),(4,none)],true⟩
def c37:n7:=⟨zS [d6 4 (.mov (.const (.string ⟨#[]⟩))),d6 5 (.mov zf)] [0,1] (zS [a7 6 0,a7 7 1,d6 8 (.callF 55 [(zT 6),(zT 7)]),J0 9 8 0,J0 10 8 1,a7 4 9,a7 5 10] [4,5] .ret),11,[(4,none),(5,none)],true⟩
def c38:n7:=⟨zS [d6 4 (.mov (.const (.string ⟨#[]⟩))),d6 5 (.mov zf)] [0,1] (zS [a7 6 0,a7 7 1,d6 8 (.callF 56 [(zT 6),(zT 7)]),J0 9 8 0,J0 10 8 1,a7 4 9,a7 5 10] [4,5] .ret),11,[(4,none),(5,none)],true⟩
def WP:AC:= zS [l8 39 38 .lss (zT 37)] [0,4,7,16,17,18,37,38,39] (.seq (zC 39 .skip (.exit 2)) (.seq (.block 3 (.ops [a7 40 4,d6 41 (.load (some 4) (zT 7)),d6 42 (.mkRow 89 4 1 [(.int .u8 0),(.bool false),(.int .i64 0),(.int .i64 0)] [(0,4,(zT 41))]),d6 43 (.app 89 4 24 (zT 40) (zT 42)),a7 4 43] [0,4,7,16,17,18,37,38])) (.ops [l8 44 38 .add (n6 1),a7 38 44] [0,4,7,16,17,18,37,38])))
def vR:AC:= zS [l8 19 18 .lss (zT 17)] [0,4,16,17,18,19] (.seq (zC 19 .skip (.exit 0)) (.seq (.block 1 (zS [d6 20 (.idxS 1 (zT 16) (zT 18)),G9 21 20,a7 6 21] [0,4,6,16,17,18] (zS [a7 23 6,L4 24 57 23,a7 22 24,J0 25 22 0,J0 26 22 1,J0 27 22 2,d6 7 (.alloc 89 [(1,(.int .u8 0)),(1,(.bool false)),(2,(.int .i64 0))]),⟨none,none,.store 4 (zT 7) (zT 25)⟩,a7 8 26,a7 9 27] [0,4,7,8,9,16,17,18] (.seq (zS [a7 28 9,d6 29 (.un .not (zT 28)),a7 30 29,y7 31 30 (.mov (zT 4)),y7 32 30 (.len false (zT 31)),y7 33 30 (.mov (zT 8)),y7 34 30 (.bin .add (zT 32) (zT 33)),y7 35 30 (.bin .gtr (zT 34) (n6 200)),d6 36 (.pick (zT 30) zt (zT 35))] [0,4,7,8,16,17,18,36] (zC 36 (zS [d6 2 (.mov (.const (.slice none 0 0))),x8 3 12] [2,3] .ret) .skip)) (zS [a7 37 8,x8 38 0] [0,4,7,16,17,18,37,38] (.block 2 (.loop [0,4,7,16,17,18,37,38] WP))))))) (.ops [l8 45 18 .add (n6 1),a7 18 45] [0,4,16,17,18])))
def c39:n7:=⟨zS [d6 2 (.mov (.const (.slice none 0 0))),x8 3 0] [0] (.seq (zS [a7 10 0,d6 11 (.len true (zT 10)),l8 12 11 .gtr (n6 2000)] [0,12] (zC 12 (zS [d6 2 (.mov (.const (.slice none 0 0))),x8 3 12] [2,3] .ret) .skip)) (.seq (zS [a7 13 0,d6 14 (.bin .eql (zT 13) (.const (.string ⟨#[110,111,116,104,105,110,103]⟩)))] [0,14] (zC 14 (zS [d6 2 (.mov (.const (.slice none 0 0))),x8 3 0] [2,3] .ret) .skip)) (zS [d6 4 (.mov (.const (.slice none 0 0)))] [0,4] (.seq (zS [a7 15 0,d6 16 (.callF 20 [(zT 15),(.const (.string ⟨#[44,32]⟩))]),d6 17 (.len false (zT 16)),x8 18 0] [0,4,16,17,18] (.block 0 (.loop [0,4,16,17,18] vR))) (.seq (zS [a7 46 4,L4 47 26 46,l8 48 47 .neq (n6 0),a7 49 48,y7 50 49 (.mov (zT 4)),y7 51 49 (.callF 50 [.tmp 50]),y7 52 49 (.mov (zT 0)),y7 53 49 (.bin .neq (zT 51) (zT 52)),d6 54 (.pick (zT 49) zt (zT 53))] [4,54] (zC 54 (zS [d6 2 (.mov (.const (.slice none 0 0))),x8 3 12] [2,3] .ret) .skip)) (zS [a7 55 4,a7 2 55,x8 3 0] [2,3] .ret)))))),56,[(2,none),(3,none)],true⟩
def c40:n7:=⟨zS [d6 4 (.mov zf)] [0,1] (zS [a7 5 0,d6 6 (.len true (zT 5)),a7 7 1,d6 8 (.len true (zT 7)),l8 9 6 .geq (zT 8),a7 10 9,x9 11 10 (.mov (zT 0)),x9 12 10 (.mov (zT 1)),x9 13 10 (.len true (zT 12)),x9 14 10 (.slcS (zT 11) none (some (zT 13))),x9 15 10 (.mov (zT 1)),x9 16 10 (.bin .eql (zT 14) (zT 15)),d6 17 (.pick (zT 10) (zT 16) zf),a7 4 17] [4] .ret),18,[(4,none)],true⟩
def WQ:AC:= .seq (zS [a7 40 9,a7 41 8,l8 42 40 .lss (zT 41)] [0,4,5,6,7,8,9,42] (zC 42 .skip (.exit 2))) (.seq (.block 3 (.ops [a7 45 4,d6 46 (.load (some 4) (zT 7)),d6 47 (.mkRow 89 4 1 [(.int .u8 0),(.bool false),(.int .i64 0),(.int .i64 0)] [(0,4,(zT 46))]),d6 48 (.app 89 4 24 (zT 45) (zT 47)),a7 4 48] [0,4,5,6,7,8,9])) (.ops [a7 43 9,l8 44 43 .add (n6 1),a7 9 44] [0,4,5,6,7,8,9]))
def vS:AC:= .seq (zS [a7 17 6,a7 18 5,d6 19 (.len false (zT 18)),l8 20 17 .lss (zT 19)] [0,4,5,6,20] (zC 20 .skip (.exit 0))) (.seq (.block 1 (zS [a7 24 5,a7 25 6,d6 26 (.idxS 1 (zT 24) (zT 25)),G9 27 26,L4 28 59 27,a7 23 28,J0 29 23 0,J0 30 23 1,d6 7 (.alloc 89 [(1,(.int .u8 0)),(1,(.bool false)),(2,(.int .i64 0))]),⟨none,none,.store 4 (zT 7) (zT 29)⟩,a7 8 30] [0,4,5,6,7,8] (.seq (zS [a7 31 8,l8 32 31 .eql (n6 0),a7 33 32,y7 34 33 (.mov (zT 4)),y7 35 33 (.len false (zT 34)),y7 36 33 (.mov (zT 8)),y7 37 33 (.bin .add (zT 35) (zT 36)),y7 38 33 (.bin .gtr (zT 37) (n6 200)),d6 39 (.pick (zT 33) zt (zT 38))] [0,4,5,6,7,8,39] (zC 39 (zS [d6 2 (.mov (.const (.slice none 0 0))),x8 3 12] [2,3] .ret) .skip)) (zS [x8 9 0] [0,4,5,6,7,8,9] (.block 2 (.loop [0,4,5,6,7,8,9] WQ)))))) (.ops [a7 21 6,l8 22 21 .add (n6 1),a7 6 22] [0,4,5,6]))
def c41:n7:=⟨zS [d6 2 (.mov (.const (.slice none 0 0))),x8 3 0] [0] (.seq (zS [a7 10 0,d6 11 (.len true (zT 10)),l8 12 11 .gtr (n6 2000)] [0,12] (zC 12 (zS [d6 2 (.mov (.const (.slice none 0 0))),x8 3 12] [2,3] .ret) .skip)) (.seq (zS [a7 13 0,d6 14 (.bin .eql (zT 13) (.const (.string ⟨#[110,111,116,104,105,110,103]⟩)))] [0,14] (zC 14 (zS [d6 2 (.mov (.const (.slice none 0 0))),x8 3 0] [2,3] .ret) .skip)) (zS [d6 4 (.mov (.const (.slice none 0 0)))] [0,4] (zS [a7 15 0,L4 16 58 15,a7 5 16] [0,4,5] (.seq (zS [x8 6 0] [0,4,5,6] (.block 0 (.loop [0,4,5,6] vS))) (.seq (zS [a7 49 4,L4 50 27 49,l8 51 50 .neq (n6 0),a7 52 51,y7 53 52 (.mov (zT 4)),y7 54 52 (.callF 51 [.tmp 53]),y7 55 52 (.mov (zT 0)),y7 56 52 (.bin .neq (zT 54) (zT 55)),d6 57 (.pick (zT 52) zt (zT 56))] [4,57] (zC 57 (zS [d6 2 (.mov (.const (.slice none 0 0))),x8 3 12] [2,3] .ret) .skip)) (zS [a7 58 4,a7 2 58,x8 3 0] [2,3] .ret))))))),59,[(2,none),(3,none)],true⟩
def c42:n7:=⟨zS [d6 4 (.mov zf)] [0,1] (zS [a7 5 0,a7 6 1,d6 7 (.callF 60 [(zT 5),(zT 6)]),l8 8 7 .geq (n6 0),a7 4 8] [4] .ret),9,[(4,none)],true⟩
def c43:n7:=⟨zS [d6 1 (.box 89 (zT 0)),d6 2 (.mov zf)] [1] (zS [d6 3 (.load (some 4) (zT 1)),L4 4 44 3,l8 5 4 .neq (n6 0),a7 2 5] [2] .ret),6,[(2,none)],true⟩
def c44:n7:=⟨zS [d6 1 (.box 89 (zT 0)),x8 2 0] [1] (zS [J9 6 0 1,G9 7 6,L4 8 61 7,a7 5 8,J0 9 5 0,J0 10 5 1,d6 3 (.alloc 109 [(1,(.string ⟨#[]⟩)),(4,(.int .i64 0)),(1,(.bool false)),(2,(.int .i64 0))]),⟨none,none,.store 8 (zT 3) (zT 9)⟩,a7 4 10] [1,3,4] (.seq (zS [a7 11 4,d6 12 (.un .not (zT 11)),a7 13 12,y7 14 13 (.fldA 2 (zT 1)),y7 15 13 (.load none (zT 14)),y7 16 13 (.fldA 1 (zT 3)),y7 17 13 (.load (some 2) (zT 16)),y7 18 13 (.callF 62 [(zT 15),(zT 17)]),y7 19 13 (.un .not (zT 18)),d6 20 (.pick (zT 13) zt (zT 19)),a7 21 20,y7 22 21 (.fldA 3 (zT 1)),y7 23 21 (.load none (zT 22)),y7 24 21 (.fldA 3 (zT 3)),y7 25 21 (.load (some 2) (zT 24)),y7 26 21 (.callF 62 [(zT 23),(zT 25)]),y7 27 21 (.un .not (zT 26)),d6 28 (.pick (zT 21) zt (zT 27)),a7 29 28,y7 30 29 (.fldA 1 (zT 1)),y7 31 29 (.load none (zT 30)),y7 32 29 (.mov (zT 31)),x9 33 32 (.fldA 5 (zT 3)),x9 34 32 (.load none (zT 33)),x9 35 32 (.un .not (zT 34)),y7 36 29 (.pick (zT 32) (zT 35) zf),d6 37 (.pick (zT 29) zt (zT 36))] [37] (zC 37 (zS [x8 2 8] [2] .ret) .skip)) (zS [x8 2 0] [2] .ret))),38,[(2,none)],true⟩
def aL6:AC:= zS [l8 11 10 .lss (zT 9)] [2,3,8,9,10,11] (.seq (zC 11 .skip (.exit 0)) (.seq (.block 1 (zS [d6 12 (.idxS 4 (zT 8) (zT 10)),d6 13 (.load (some 4) (zT 12)),d6 5 (.alloc 89 [(1,(.int .u8 0)),(1,(.bool false)),(2,(.int .i64 0))]),⟨none,none,.store 4 (zT 5) (zT 13)⟩] [2,3,5,8,9,10] (zS [J9 15 0 5,G9 16 15,L4 17 61 16,a7 14 17,J0 18 14 0,J0 19 14 1,d6 6 (.alloc 109 [(1,(.string ⟨#[]⟩)),(4,(.int .i64 0)),(1,(.bool false)),(2,(.int .i64 0))]),⟨none,none,.store 8 (zT 6) (zT 18)⟩,a7 7 19] [2,3,5,6,8,9,10] (zS [a7 20 2,d6 21 (.load (some 4) (zT 5)),J9 22 6 6,G9 23 22,d6 24 (.callF 63 [(zT 21),(zT 23)]),l8 25 20 .add (zT 24),a7 2 25] [2,3,5,6,8,9,10] (.ops [a7 26 3,d6 27 (.load (some 4) (zT 5)),J9 28 7 6,G9 29 28,d6 30 (.callF 63 [(zT 27),(zT 29)]),l8 31 26 .add (zT 30),a7 3 31] [2,3,8,9,10]))))) (.ops [l8 32 10 .add (n6 1),a7 10 32] [2,3,8,9,10])))
def c45:n7:=⟨zS [x8 2 0,x8 3 0] [0,2,3] (.seq (zS [a7 8 0,d6 9 (.len false (zT 8)),x8 10 0] [2,3,8,9,10] (.block 0 (.loop [2,3,8,9,10] aL6))) (zS [a7 33 2,a7 34 3,a7 2 33,a7 3 34] [2,3] .ret)),35,[(2,none),(3,none)],true⟩
def c46:n7:=⟨zS [d6 1 (.box 89 (zT 0)),x8 2 0] [1] (zS [J9 5 2 1,G9 6 5,l8 7 6 .eql (n6 0),a7 8 7,x9 9 8 (.fldA 3 (zT 1)),x9 10 8 (.load none (zT 9)),x9 11 8 (.bin .eql (zT 10) (n6 0)),d6 12 (.pick (zT 8) (zT 11) zf),a7 3 12] [1,3] (zS [d6 4 (.mov zf)] [1,3,4] (.seq (zS [J9 13 0 1,G9 14 13] [1,3,4,14] (.block 0 (.seq (zS [l8 16 14 .eql (I0 1),a7 15 16] [1,3,4,14,15] (zC 15 .skip (.ops [l8 17 14 .eql (I0 8),a7 15 17] [1,3,4,14,15]))) (zC 15 (.ops [a7 18 3,a7 4 18] [4]) (zS [l8 20 14 .eql (I0 2),a7 19 20] [1,3,4,14,19] (zC 19 (.ops [a7 21 3,a7 22 21,x9 23 22 (.fldA 1 (zT 1)),x9 24 22 (.load none (zT 23)),x9 25 22 (.un .not (zT 24)),d6 26 (.pick (zT 22) (zT 25) zf),a7 4 26] [4]) (.seq (zS [l8 28 14 .eql (I0 3),a7 27 28] [1,4,14,27] (zC 27 .skip (zS [l8 29 14 .eql (I0 4),a7 27 29] [1,4,14,27] (zC 27 .skip (.ops [l8 30 14 .eql (I0 5),a7 27 30] [1,4,14,27]))))) (zC 27 (.ops [J9 31 3 1,G9 32 31,l8 33 32 .eql (n6 0),a7 34 33,x9 35 34 (.fldA 2 (zT 1)),x9 36 34 (.load none (zT 35)),x9 37 34 (.bin .geq (zT 36) (n6 2)),d6 38 (.pick (zT 34) (zT 37) zf),a7 39 38,x9 40 39 (.fldA 2 (zT 1)),x9 41 39 (.load none (zT 40)),x9 42 39 (.bin .leq (zT 41) (n6 4)),d6 43 (.pick (zT 39) (zT 42) zf),a7 4 43] [4]) (.seq (zS [l8 45 14 .eql (I0 6),a7 44 45] [1,4,14,44] (zC 44 .skip (.ops [l8 46 14 .eql (I0 7),a7 44 46] [1,4,14,44]))) (zC 44 (.ops [J9 47 2 1,G9 48 47,l8 49 48 .geq (n6 1),a7 50 49,x9 51 50 (.fldA 2 (zT 1)),x9 52 50 (.load none (zT 51)),x9 53 50 (.bin .leq (zT 52) (n6 6)),d6 54 (.pick (zT 50) (zT 53) zf),a7 55 54,x9 56 55 (.fldA 3 (zT 1)),x9 57 55 (.load none (zT 56)),x9 58 55 (.bin .geq (zT 57) (n6 1)),
  d6 59 (.pick (zT 55) (zT 58) zf),a7 60 59,x9 61 60 (.fldA 3 (zT 1)),x9 62 60 (.load none (zT 61)),x9 63 60 (.bin .leq (zT 62) (n6 6)),d6 64 (.pick (zT 60) (zT 63) zf),a7 4 64] [4]) (zS [l8 66 14 .eql (I0 9),a7 65 66] [1,4,14,65] (zC 65 (.ops [J9 67 3 1,G9 68 67,l8 69 68 .eql (n6 0),a7 70 69,x9 71 70 (.fldA 1 (zT 1)),x9 72 70 (.load none (zT 71)),x9 73 70 (.un .not (zT 72)),d6 74 (.pick (zT 70) (zT 73) zf),a7 75 74,x9 76 75 (.fldA 2 (zT 1)),x9 77 75 (.load none (zT 76)),x9 78 75 (.bin .geq (zT 77) (n6 1)),d6 79 (.pick (zT 75) (zT 78) zf),a7 80 79,x9 81 80 (.fldA 2 (zT 1)),x9 82 80 (.load none (zT 81)),x9 83 80 (.bin .leq (zT 82) (n6 200)),d6 84 (.pick (zT 80) (zT 83) zf),a7 4 84] [4]) (zS [l8 86 14 .eql (I0 10),a7 85 86] [1,4,85] (zC 85 (.ops [J9 87 3 1,G9 88 87,l8 89 88 .eql (n6 0),a7 90 89,x9 91 90 (.fldA 2 (zT 1)),x9 92 90 (.load none (zT 91)),x9 93 90 (.bin .geq (zT 92) (n6 1)),d6 94 (.pick (zT 90) (zT 93) zf),a7 95 94,x9 96 95 (.fldA 2 (zT 1)),x9 97 95 (.load none (zT 96)),x9 98 95 (.bin .leq (zT 97) (n6 200)),d6 99 (.pick (zT 95) (zT 98) zf),a7 4 99] [4]) .skip)))))))))))))) (.seq (zS [a7 100 4,d6 101 (.un .not (zT 100))] [101] (zC 101 (zS [x8 2 8] [2] .ret) .skip)) (zS [x8 2 0] [2] .ret))))),102,[(2,none)],true⟩
def aL7:AC:= .seq (zS [a7 7 6,a7 8 0,d6 9 (.len false (zT 8)),l8 10 7 .lss (zT 9)] [0,4,5,6,10] (zC 10 .skip (.exit 0))) (.seq (.block 1 (zS [a7 13 4,a7 14 0,a7 15 6,d6 16 (.idxS 4 (zT 14) (zT 15)),d6 17 (.load (some 4) (zT 16)),L4 18 64 17,l8 19 13 .add (zT 18),a7 4 19] [0,4,5,6] (.ops [a7 20 5,a7 21 0,a7 22 6,d6 23 (.idxS 4 (zT 21) (zT 22)),d6 24 (.load (some 4) (zT 23)),L4 25 65 24,l8 26 20 .add (zT 25),a7 5 26] [0,4,5,6]))) (.ops [a7 11 6,l8 12 11 .add (n6 1),a7 6 12] [0,4,5,6]))
def c47:n7:=⟨zS [x8 2 0,x8 3 0] [0] (zS [x8 4 0,x8 5 0] [0,4,5] (.seq (zS [x8 6 0] [0,4,5,6] (.block 0 (.loop [0,4,5,6] aL7))) (zS [a7 27 4,a7 28 5,a7 2 27,a7 3 28] [2,3] .ret))),29,[(2,none),(3,none)],true⟩
def LP:AC:= .seq (.seq (.draw [a7 15 5,a7 16 0,d6 17 (.len false (zT 16)),l8 18 15 .lss (zT 17),a7 19 18,x9 20 19 (.mov (zT 0)),x9 21 19 (.mov (zT 5)),x9 22 19 (.idxS 4 (zT 20) (zT 21)),x9 23 19 (.load (some 4) (zT 22)),x9 24 19 (.mov (zT 0)),x9 25 19 (.mov (zT 4)),x9 26 19 (.idxS 4 (zT 24) (zT 25)),x9 27 19 (.load (some 4) (zT 26))] [x9 28 19 (.eqAgg false [(0,0),(1,2),(2,0),(3,0)] (zT 23) (zT 27)),d6 29 (.pick (zT 19) (zT 28) zf)] [[],[],[],[],[],[],[],[],[],[],[],[],[]] [0,3,4,5,29]) (zC 29 .skip (.exit 2))) (.block 3 (.ops [a7 30 5,l8 31 30 .add (n6 1),a7 5 31] [0,3,4,5]))
def aL9:AC:= .seq (zS [a7 9 4,a7 10 0,d6 11 (.len false (zT 10)),l8 12 9 .lss (zT 11)] [0,3,4,12] (zC 12 .skip (.exit 0))) (.block 1 (zS [a7 13 4,l8 14 13 .add (n6 1),a7 5 14] [0,3,4,5] (.seq (.block 2 (.loop [0,3,4,5] LP)) (zS [a7 32 3,a7 33 0,a7 34 4,d6 35 (.idxS 4 (zT 33) (zT 34)),d6 36 (.load (some 4) (zT 35)),a7 37 5,a7 38 4,l8 39 37 .sub (zT 38),d6 40 (.callF 70 [(zT 36),(zT 39)]),d6 41 (.mkRow 9 1 1 [(.string ⟨#[]⟩)] [(0,1,(zT 40))]),d6 42 (.app 9 1 16 (zT 32) (zT 41)),a7 3 42] [0,3,5] (.ops [a7 43 5,a7 4 43] [0,3,4])))))
def c50:n7:=⟨zS [d6 2 (.mov (.const (.string ⟨#[]⟩)))] [0] (.seq (zS [a7 6 0,d6 7 (.len false (zT 6)),l8 8 7 .eql (n6 0)] [0,8] (zC 8 (zS [d6 2 (.mov (.const (.string ⟨#[110,111,116,104,105,110,103]⟩)))] [2] .ret) .skip)) (zS [d6 3 (.mov (.const (.slice none 0 0)))] [0,3] (.seq (zS [x8 4 0] [0,3,4] (.block 0 (.loop [0,3,4] aL9))) (zS [a7 44 3,d6 45 (.callF 71 [(zT 44),(.const (.string ⟨#[44,32]⟩))]),a7 2 45] [2] .ret)))),46,[(2,none)],true⟩
def LQ:AC:= .seq (.seq (.draw [a7 13 4,a7 14 5,l8 15 13 .add (zT 14),a7 16 0,d6 17 (.len false (zT 16)),l8 18 15 .lss (zT 17),a7 19 18,x9 20 19 (.mov (zT 0)),x9 21 19 (.mov (zT 4)),x9 22 19 (.mov (zT 5)),x9 23 19 (.bin .add (zT 21) (zT 22)),x9 24 19 (.idxS 4 (zT 20) (zT 23)),x9 25 19 (.load (some 4) (zT 24)),x9 26 19 (.mov (zT 0)),x9 27 19 (.mov (zT 4)),x9 28 19 (.idxS 4 (zT 26) (zT 27)),x9 29 19 (.load (some 4) (zT 28))] [x9 30 19 (.eqAgg false [(0,0),(1,2),(2,0),(3,0)] (zT 25) (zT 29)),d6 31 (.pick (zT 19) (zT 30) zf)] [[],[],[],[],[],[],[],[],[],[],[],[],[],[],[],[],[]] [0,3,4,5,31]) (zC 31 .skip (.exit 2))) (.block 3 (.ops [a7 32 5,l8 33 32 .add (n6 1),a7 5 33] [0,3,4,5]))
def WR:AC:= .seq (zS [a7 9 4,a7 10 0,d6 11 (.len false (zT 10)),l8 12 9 .lss (zT 11)] [0,3,4,12] (zC 12 .skip (.exit 0))) (.block 1 (zS [x8 5 1] [0,3,4,5] (.seq (.block 2 (.loop [0,3,4,5] LQ)) (.seq (zS [a7 34 4,l8 35 34 .gtr (n6 0)] [0,3,4,5,35] (zC 35 (.ops [a7 36 3,d6 37 (.bin .add (zT 36) (.const (.string ⟨#[44,32]⟩))),a7 3 37] [0,3,4,5]) .skip)) (zS [a7 38 3,a7 39 0,a7 40 4,d6 41 (.idxS 4 (zT 39) (zT 40)),d6 42 (.load (some 4) (zT 41)),a7 43 5,d6 44 (.callF 72 [(zT 42),(zT 43)]),l8 45 38 .add (zT 44),a7 3 45] [0,3,4,5] (.ops [a7 46 4,a7 47 5,l8 48 46 .add (zT 47),a7 4 48] [0,3,4]))))))
def c51:n7:=⟨zS [d6 2 (.mov (.const (.string ⟨#[]⟩)))] [0] (.seq (zS [a7 6 0,d6 7 (.len false (zT 6)),l8 8 7 .eql (n6 0)] [0,8] (zC 8 (zS [d6 2 (.mov (.const (.string ⟨#[110,111,116,104,105,110,103]⟩)))] [2] .ret) .skip)) (zS [d6 3 (.mov (.const (.string ⟨#[]⟩)))] [0,3] (.seq (zS [x8 4 0] [0,3,4] (.block 0 (.loop [0,3,4] WR))) (zS [a7 49 3,a7 2 49] [2] .ret)))),50,[(2,none)],true⟩
def cA3:AC:= .seq (zS [a7 22 7,a7 23 1,l8 24 23 .sub (n6 1),l8 25 22 .lss (zT 24)] [0,1,6,7,25] (zC 25 .skip (.exit 0))) (.seq (.block 1 (zS [a7 29 0,L4 30 74 29,a7 28 30,J0 31 28 0,J0 32 28 1,a7 8 31,a7 9 32] [0,1,6,7,9] (zS [a7 33 6,a7 34 7,a7 35 0,a7 36 9,d6 37 (.slcS (zT 35) none (some (zT 36))),d6 38 (.idxS 1 (zT 33) (zT 34)),⟨none,none,.store 1 (zT 38) (zT 37)⟩] [0,1,6,7,9] (.ops [a7 39 0,a7 40 9,d6 41 (.slcS (zT 39) (some (zT 40)) none),a7 0 41] [0,1,6,7])))) (.ops [a7 26 7,l8 27 26 .add (n6 1),a7 7 27] [0,1,6,7]))
def c52:n7:=⟨zS [d6 4 (.mov (.const (.slice none 0 0)))] [0,1] (zS [a7 10 0,L4 11 73 10,a7 5 11] [0,1,5] (.seq (zS [a7 12 1,l8 13 12 .lss (n6 0),a7 14 13,y7 15 14 (.mov (zT 1)),y7 16 14 (.mov (zT 5)),y7 17 14 (.bin .gtr (zT 15) (zT 16)),d6 18 (.pick (zT 14) zt (zT 17))] [0,1,5,18] (zC 18 (.ops [a7 19 5,a7 1 19] [0,1]) .skip)) (zS [a7 20 1,d6 21 (.mkSlice 9 1 16 [(.string ⟨#[]⟩)] (zT 20) (zT 20)),a7 6 21] [0,1,6] (.seq (zS [x8 7 0] [0,1,6,7] (.block 0 (.loop [0,1,6,7] cA3))) (.seq (zS [a7 42 1,l8 43 42 .gtr (n6 0)] [0,1,6,43] (zC 43 (.ops [a7 44 6,a7 45 1,l8 46 45 .sub (n6 1),a7 47 0,d6 48 (.idxS 1 (zT 44) (zT 46)),⟨none,none,.store 1 (zT 48) (zT 47)⟩] [6]) .skip)) (zS [a7 49 6,a7 4 49] [4] .ret)))))),50,[(4,none)],true⟩
def c55:n7:=⟨zS [d6 4 (.mov (.const (.string ⟨#[]⟩))),d6 5 (.mov zf)] [0,1] (.seq (zS [a7 6 0,a7 7 1,d6 8 (.callF 77 [(zT 6),(zT 7)]),d6 9 (.un .not (zT 8))] [0,1,9] (zC 9 (zS [a7 10 0,a7 4 10,d6 5 (.mov zf)] [4,5] .ret) .skip)) (zS [a7 11 0,a7 12 1,d6 13 (.len true (zT 12)),d6 14 (.slcS (zT 11) (some (zT 13)) none),a7 4 14,d6 5 (.mov zt)] [4,5] .ret)),15,[(4,none),(5,none)],true⟩
def c56:n7:=⟨zS [d6 4 (.mov (.const (.string ⟨#[]⟩))),d6 5 (.mov zf)] [0,1] (.seq (zS [a7 6 0,a7 7 1,d6 8 (.callF 78 [(zT 6),(zT 7)]),d6 9 (.un .not (zT 8))] [0,1,9] (zC 9 (zS [a7 10 0,a7 4 10,d6 5 (.mov zf)] [4,5] .ret) .skip)) (zS [a7 11 0,a7 12 0,d6 13 (.len true (zT 12)),a7 14 1,d6 15 (.len true (zT 14)),l8 16 13 .sub (zT 15),d6 17 (.slcS (zT 11) none (some (zT 16))),a7 4 17,d6 5 (.mov zt)] [4,5] .ret)),18,[(4,none),(5,none)],true⟩
def N3:AC:= zS [l8 21 20 .lss (n6 2)] [0,2,5,20,21] (.seq (zC 21 .skip (.exit 2)) (.seq (.block 3 (zS [a7 22 20,a7 6 22] [0,2,5,6,20] (zS [a7 23 5,a7 24 6,l8 25 24 .eql (n6 1),d6 26 (.build [(.int .u8 0),(.bool false),(.int .i64 0),(.int .i64 0)] [(0,1,(zT 23)),(1,1,(zT 25))]),d6 7 (.alloc 89 [(1,(.int .u8 0)),(1,(.bool false)),(2,(.int .i64 0))]),⟨none,none,.store 4 (zT 7) (zT 26)⟩,x8 8 1] [0,2,5,7,8,20] (zS [a7 28 5,J9 29 1 7,G9 30 29,d6 31 (.callF 79 [(zT 28),(zT 30)]),a7 27 31,J0 32 27 0,J0 33 27 1,a7 9 32,a7 10 33] [0,2,5,7,8,9,10,20] (zS [a7 35 0,a7 36 9,d6 37 (.callF 21 [(zT 35),(zT 36)]),a7 34 37,J0 38 34 0,J0 39 34 1,J0 40 34 2,a7 11 38,a7 12 39,a7 13 40] [0,2,5,7,8,10,11,12,13,20] (.seq (zS [a7 41 13,d6 42 (.un .not (zT 41))] [0,2,5,7,8,10,11,12,20,42] (zC 42 (.exit 3) .skip)) (.seq (.block 4 (zS [a7 44 10,a7 43 44] [0,2,5,7,8,10,11,12,20,43] (zC 43 (.ops [a7 45 11,d6 46 (.idxS 1 (zT 45) (n6 0)),G9 47 46,a7 8 47] [0,2,5,7,8,10,12,20]) (zS [a7 49 11,d6 50 (.len false (zT 49)),l8 51 50 .eql (n6 2),a7 48 51] [0,2,5,7,8,10,11,12,20,48] (zC 48 (.drawW [⟨a7 52 11,[],none⟩,⟨d6 53 (.idxS 1 (zT 52) (n6 0)),[],none⟩,⟨G9 54 53,[],none⟩,⟨a7 55 11,[0,1,2],none⟩,⟨d6 56 (.idxS 1 (zT 55) (n6 1)),[0,1,2],none⟩,⟨G9 57 56,[0,1,2],none⟩,⟨J9 58 2 7,[3,4,5],none⟩,⟨⟨none,none,.store 1 (zT 58) (zT 54)⟩,[3,4,5],none⟩] [J9 59 3 7,⟨none,none,.store 1 (zT 59) (zT 57)⟩] [0,2,5,7,8,10,12,20]) (zS [a7 61 11,d6 62 (.len false (zT 61)),l8 63 62 .eql (n6 1),a7 60 63] [0,2,5,7,8,10,11,12,20,60] (zC 60 (.ops [a7 64 11,d6 65 (.idxS 1 (zT 64) (n6 0)),G9 66 65,J9 67 2 7,⟨none,none,.store 1 (zT 67) (zT 66)⟩] [0,2,5,7,8,10,12,20]) .skip))))))) (.seq (zS [a7 69 12,d6 70 (.callF 38 [(zT 69),(.const (.string ⟨#[32,116,105,109,101,115]⟩))]),a7 68 70,J0 71 68 0,J0 72 68 1,a7 14 71,a7 15 72] [0,2,5,7,8,10,12,14,15,20] (zS [a7 73 15,a7 74 73,x9 75 74 (.mov (zT 10)),x9 76 74 (.un .not (zT 75)),
  d6 77 (.pick (zT 74) (zT 76) zf)] [0,2,5,7,8,12,14,20,77] (zC 77 (.ops [a7 79 14,d6 80 (.callF 80 [(zT 79),(.const (.string ⟨#[32]⟩))]),L4 81 36 80,a7 78 81,J0 82 78 0,J0 83 78 1,J0 84 78 2,a7 8 82,a7 12 83] [0,2,5,7,8,12,20]) .skip))) (zS [a7 85 12,d6 86 (.bin .eql (zT 85) (.const (.string ⟨#[]⟩))),a7 87 86,x9 88 87 (.mov (zT 8)),x9 89 87 (.bin .geq (zT 88) (n6 1)),d6 90 (.pick (zT 87) (zT 89) zf),a7 91 90,x9 92 91 (.mov (zT 8)),x9 93 91 (.bin .leq (zT 92) (n6 200)),d6 94 (.pick (zT 91) (zT 93) zf),a7 95 94,x9 96 95 (.load (some 4) (zT 7)),x9 97 95 (.callF 44 [.tmp 96]),x9 98 95 (.bin .eql (zT 97) (n6 0)),d6 99 (.pick (zT 95) (zT 98) zf),a7 100 99,x9 101 100 (.load (some 4) (zT 7)),x9 102 100 (.mov (zT 8)),x9 103 100 (.callF 70 [(zT 101),(zT 102)]),x9 104 100 (.mov (zT 0)),x9 105 100 (.bin .eql (zT 103) (zT 104)),d6 106 (.pick (zT 100) (zT 105) zf)] [0,2,5,7,8,20,106] (zC 106 (zS [d6 107 (.load (some 4) (zT 7)),a7 108 8,⟨none,none,.store 4 (zT 2) (zT 107)⟩,a7 3 108,d6 4 (.mov zt)] [2,3,4] .ret) .skip)))))))))) (.ops [l8 109 20 .add (n6 1),a7 20 109] [0,2,5,20])))
def aM0:AC:= .seq (zS [a7 16 5,l8 17 16 .leq (I0 10)] [0,2,5,17] (zC 17 .skip (.exit 0))) (.seq (.block 1 (zS [x8 20 0] [0,2,5,20] (.block 2 (.loop [0,2,5,20] N3)))) (.ops [a7 18 5,l8 19 18 .add (I0 1),a7 5 19] [0,2,5]))
def c57:n7:=⟨zS [d6 2 (.alloc 89 [(1,(.int .u8 0)),(1,(.bool false)),(2,(.int .i64 0))]),x8 3 0,d6 4 (.mov zf)] [0,2] (.seq (zS [d6 5 (.mov (I0 1))] [0,2,5] (.block 0 (.loop [0,2,5] aM0))) (zS [d6 110 (.build [(.int .u8 0),(.bool false),(.int .i64 0),(.int .i64 0)] []),⟨none,none,.store 4 (zT 2) (zT 110)⟩,x8 3 0,d6 4 (.mov zf)] [2,3,4] .ret)),111,[(2,(some (some 4))),(3,none),(4,none)],true⟩
def vT:AC:= .seq (zS [a7 6 5,l8 7 6 .add (n6 1),a7 8 0,d6 9 (.len true (zT 8)),l8 10 7 .lss (zT 9)] [0,3,4,5,10] (zC 10 .skip (.exit 0))) (.seq (.block 1 (zS [a7 13 0,a7 14 5,d6 15 (.idxStr (zT 13) (zT 14)),l8 16 15 .eql (I0 44),a7 17 16,x9 18 17 (.mov (zT 0)),x9 19 17 (.mov (zT 5)),x9 20 17 (.bin .add (zT 19) (n6 1)),x9 21 17 (.idxStr (zT 18) (zT 20)),x9 22 17 (.bin .eql (zT 21) (I0 32)),d6 23 (.pick (zT 17) (zT 22) zf)] [0,3,4,5,23] (zC 23 (zS [a7 24 3,a7 25 0,a7 26 4,a7 27 5,d6 28 (.slcS (zT 25) (some (zT 26)) (some (zT 27))),d6 29 (.mkRow 9 1 1 [(.string ⟨#[]⟩)] [(0,1,(zT 28))]),d6 30 (.app 9 1 16 (zT 24) (zT 29)),a7 3 30] [0,3,5] (.ops [a7 31 5,l8 32 31 .add (n6 2),a7 4 32] [0,3,4,5])) .skip))) (.ops [a7 11 5,l8 12 11 .add (n6 1),a7 5 12] [0,3,4,5]))
def c58:n7:=⟨zS [d6 2 (.mov (.const (.slice none 0 0)))] [0] (zS [d6 3 (.mov (.const (.slice none 0 0)))] [0,3] (zS [x8 4 0] [0,3,4] (.seq (zS [x8 5 0] [0,3,4,5] (.block 0 (.loop [0,3,4,5] vT))) (zS [a7 33 3,a7 34 0,a7 35 4,d6 36 (.slcS (zT 34) (some (zT 35)) none),d6 37 (.mkRow 9 1 1 [(.string ⟨#[]⟩)] [(0,1,(zT 36))]),d6 38 (.app 9 1 16 (zT 33) (zT 37)),a7 2 38] [2] .ret)))),39,[(2,none)],true⟩
def vU:AC:= .seq (zS [a7 12 6,a7 13 5,d6 14 (.len false (zT 13)),d6 15 (.bin .mul (n6 2) (zT 14)),l8 16 12 .lss (zT 15)] [0,2,4,5,6,16] (zC 16 .skip (.exit 0))) (.seq (.block 1 (zS [a7 20 5,a7 21 6,l8 22 21 .quo (n6 2),d6 23 (.idxS 1 (zT 20) (zT 22)),G9 24 23,a7 25 6,l8 26 25 .rem (n6 2),l8 27 26 .eql (n6 1),a7 28 4,d6 29 (.callF 83 [(zT 24),(zT 27),(zT 28)]),a7 19 29,J0 30 19 0,J0 31 19 1,d6 7 (.alloc 89 [(1,(.int .u8 0)),(1,(.bool false)),(2,(.int .i64 0))]),⟨none,none,.store 4 (zT 7) (zT 30)⟩,a7 8 31] [0,2,4,5,6,7,8] (zS [a7 32 8,l8 33 32 .geq (n6 1),a7 34 33,x9 35 34 (.mov (zT 8)),x9 36 34 (.bin .leq (zT 35) (n6 200)),d6 37 (.pick (zT 34) (zT 36) zf),a7 38 37,x9 39 38 (.load (some 4) (zT 7)),x9 40 38 (.callF 46 [.tmp 39]),x9 41 38 (.bin .eql (zT 40) (n6 0)),d6 42 (.pick (zT 38) (zT 41) zf),a7 43 42,x9 44 43 (.load (some 4) (zT 7)),x9 45 43 (.mov (zT 8)),x9 46 43 (.callF 72 [(zT 44),(zT 45)]),x9 47 43 (.mov (zT 0)),x9 48 43 (.bin .eql (zT 46) (zT 47)),d6 49 (.pick (zT 43) (zT 48) zf)] [0,2,4,5,6,7,8,49] (zC 49 (zS [d6 50 (.load (some 4) (zT 7)),a7 51 8,⟨none,none,.store 4 (zT 2) (zT 50)⟩,a7 3 51] [2,3] .ret) .skip)))) (.ops [a7 17 6,l8 18 17 .add (n6 1),a7 6 18] [0,2,4,5,6]))
def c59:n7:=⟨zS [d6 2 (.alloc 89 [(1,(.int .u8 0)),(1,(.bool false)),(2,(.int .i64 0))]),x8 3 0] [0,2] (zS [a7 9 0,L4 10 81 9,d6 11 (.callF 82 []),a7 4 10,a7 5 11] [0,2,4,5] (.seq (zS [x8 6 0] [0,2,4,5,6] (.block 0 (.loop [0,2,4,5,6] vU))) (zS [d6 52 (.build [(.int .u8 0),(.bool false),(.int .i64 0),(.int .i64 0)] []),⟨none,none,.store 4 (zT 2) (zT 52)⟩,x8 3 0] [2,3] .ret))),53,[(2,(some (some 4))),(3,none)],true⟩
def WS:AC:= zS [l8 9 8 .lss (zT 7)] [0,1,7,8,9] (.seq (zC 9 .skip (.exit 0)) (.seq (.block 1 (zS [a7 10 8,a7 5 10] [0,1,5,7,8] (zS [a7 11 1,a7 12 0,a7 13 5,d6 14 (.idxS 4 (zT 12) (zT 13)),d6 15 (.load (some 4) (zT 14)),d6 16 (.callV (zT 11) [.tmp 15])] [0,1,5,7,8,16] (zC 16 (zS [a7 17 5,a7 4 17] [4] .ret) .skip)))) (.ops [l8 18 8 .add (n6 1),a7 8 18] [0,1,7,8])))
def c60:n7:=⟨zS [x8 4 0] [0,1] (.seq (zS [a7 6 0,d6 7 (.len false (zT 6)),x8 8 0] [0,1,7,8] (.block 0 (.loop [0,1,7,8] WS))) (zS [d6 4 (.mov (n6 (-1)))] [4] .ret)),19,[(4,none)],true⟩
def c61:n7:=⟨zS [d6 2 (.alloc 109 [(1,(.string ⟨#[]⟩)),(4,(.int .i64 0)),(1,(.bool false)),(2,(.int .i64 0))]),d6 3 (.mov zf)] [0,2] (zS [d6 8 (.build [(.int .i64 0),(.int .i64 0)] [(0,1,(n6 2)),(1,1,(n6 4))]),d6 9 (.build [(.int .i64 0),(.int .i64 0)] [(0,1,(n6 1)),(1,1,(n6 6))]),d6 4 (.alloc 107 [(2,(.int .i64 0))]),d6 5 (.alloc 107 [(2,(.int .i64 0))]),⟨none,none,.store 2 (zT 4) (zT 8)⟩,⟨none,none,.store 2 (zT 5) (zT 9)⟩] [0,2,4,5] (zS [d6 10 (.build [(.int .i64 0),(.int .i64 0)] [(0,1,(n6 1)),(1,1,(n6 200))]),d6 6 (.alloc 107 [(2,(.int .i64 0))]),⟨none,none,.store 2 (zT 6) (zT 10)⟩] [0,2,4,5,6] (zS [d6 11 (.build [(.int .i64 0),(.int .i64 0)] []),d6 12 (.build [(.int .i64 0),(.int .i64 0)] []),d6 13 (.build [(.string ⟨#[]⟩),(.int .i64 0),(.int .i64 0),(.int .i64 0),(.int .i64 0),(.bool false),(.int .i64 0),(.int .i64 0)] [(0,1,(.const (.string ⟨#[]⟩))),(1,2,(zT 11)),(3,2,(zT 12)),(5,1,zt),(6,1,(n6 1)),(7,1,(n6 1))]),d6 14 (.build [(.int .i64 0),(.int .i64 0)] []),d6 15 (.build [(.int .i64 0),(.int .i64 0)] []),d6 16 (.build [(.string ⟨#[]⟩),(.int .i64 0),(.int .i64 0),(.int .i64 0),(.int .i64 0),(.bool false),(.int .i64 0),(.int .i64 0)] [(0,1,(.const (.string ⟨#[]⟩))),(1,2,(zT 14)),(3,2,(zT 15)),(5,1,zf),(6,1,(n6 0)),(7,1,(n6 1))]),d6 17 (.load (some 2) (zT 4)),d6 18 (.build [(.int .i64 0),(.int .i64 0)] []),d6 19 (.build [(.string ⟨#[]⟩),(.int .i64 0),(.int .i64 0),(.int .i64 0),(.int .i64 0),(.bool false),(.int .i64 0),(.int .i64 0)] [(0,1,(.const (.string ⟨#[102]⟩))),(1,2,(zT 17)),(3,2,(zT 18)),(5,1,zt),(6,1,(n6 2)),(7,1,(n6 1))]),d6 20 (.load (some 2) (zT 4)),d6 21 (.build [(.int .i64 0),(.int .i64 0)] []),d6 22 (.build [(.string ⟨#[]⟩),(.int .i64 0),(.int .i64 0),(.int .i64 0),(.int .i64 0),(.bool false),(.int .i64 0),(.int .i64 0)] [(0,1,(.const (.string ⟨#[108]⟩))),(1,2,(zT 20)),(3,2,(zT 21)),(5,1,zt),(6,1,(n6 2)),(7,1,(n6 1))]),d6 23 (.load (some 2) (zT 4)),d6 24 (.build [(.int .i64 0),(.int .i64 0)] []),d6 25 (.build [(.string ⟨#[]⟩),(.int .i64 0),(.int .i64 0),(.int .i64 0),(.int .i64 0),(.bool false),(.int .i64 0),(.int .i64 0)] [(0,1,(.const (.string ⟨#[109]⟩))),(1,2,(zT 23)),(3,2,(zT 24)),(5,1,zt),(6,1,(n6 1)),(7,1,(n6 2))]),d6 26 (.load (some 2) (zT 5)),d6 27 (.load (some 2) (zT 5)),d6 28 (.build [(.string ⟨#[]⟩),(.int .i64 0),(.int .i64 0),(.int .i64 0),(.int .i64 0),(.bool false),(.int .i64 0),(.int .i64 0)] [(0,1,(.const (.string ⟨#[120]⟩))),(1,2,(zT 26)),(3,2,(zT 27)),(5,1,zt),(6,1,(n6 3)),(7,1,(n6 3))]),d6 29 (.load (some 2) (zT 5)),
  d6 30 (.load (some 2) (zT 5)),d6 31 (.build [(.string ⟨#[]⟩),(.int .i64 0),(.int .i64 0),(.int .i64 0),(.int .i64 0),(.bool false),(.int .i64 0),(.int .i64 0)] [(0,1,(.const (.string ⟨#[121]⟩))),(1,2,(zT 29)),(3,2,(zT 30)),(5,1,zt),(6,1,(n6 3)),(7,1,(n6 3))]),d6 32 (.build [(.int .i64 0),(.int .i64 0)] []),d6 33 (.build [(.int .i64 0),(.int .i64 0)] []),d6 34 (.build [(.string ⟨#[]⟩),(.int .i64 0),(.int .i64 0),(.int .i64 0),(.int .i64 0),(.bool false),(.int .i64 0),(.int .i64 0)] [(0,1,(.const (.string ⟨#[115]⟩))),(1,2,(zT 32)),(3,2,(zT 33)),(5,1,zt),(6,1,(n6 1)),(7,1,(n6 1))]),d6 35 (.load (some 2) (zT 6)),d6 36 (.build [(.int .i64 0),(.int .i64 0)] []),d6 37 (.build [(.string ⟨#[]⟩),(.int .i64 0),(.int .i64 0),(.int .i64 0),(.int .i64 0),(.bool false),(.int .i64 0),(.int .i64 0)] [(0,1,(.const (.string ⟨#[]⟩))),(1,2,(zT 35)),(3,2,(zT 36)),(5,1,zf),(6,1,(n6 0)),(7,1,(n6 2))]),d6 38 (.load (some 2) (zT 6)),d6 39 (.build [(.int .i64 0),(.int .i64 0)] []),d6 40 (.build [(.string ⟨#[]⟩),(.int .i64 0),(.int .i64 0),(.int .i64 0),(.int .i64 0),(.bool false),(.int .i64 0),(.int .i64 0)] [(0,1,(.const (.string ⟨#[111]⟩))),(1,2,(zT 38)),(3,2,(zT 39)),(5,1,zt),(6,1,(n6 2)),(7,1,(n6 0))]),d6 41 (.mkRow 109 8 10 [(.string ⟨#[]⟩),(.int .i64 0),(.int .i64 0),(.int .i64 0),(.int .i64 0),(.bool false),(.int .i64 0),(.int .i64 0)] [(0,8,(zT 13)),(8,8,(zT 16)),(16,8,(zT 19)),(24,8,(zT 22)),(32,8,(zT 25)),(40,8,(zT 28)),(48,8,(zT 31)),(56,8,(zT 34)),(64,8,(zT 37)),(72,8,(zT 40))]),a7 7 41] [0,2,7] (.seq (zS [a7 42 0,l8 43 42 .lss (I0 1),a7 44 43,y7 45 44 (.mov (zT 0)),y7 46 44 (.convI .i64 (zT 45)),y7 47 44 (.mov (zT 7)),y7 48 44 (.len false (zT 47)),y7 49 44 (.bin .gtr (zT 46) (zT 48)),d6 50 (.pick (zT 44) zt (zT 49))] [0,2,7,50] (zC 50 (zS [d6 51 (.build [(.string ⟨#[]⟩),(.int .i64 0),(.int .i64 0),(.int .i64 0),(.int .i64 0),(.bool false),(.int .i64 0),(.int .i64 0)] []),⟨none,none,.store 8 (zT 2) (zT 51)⟩,d6 3 (.mov zf)] [2,3] .ret) .skip)) (zS [a7 52 7,a7 53 0,l8 54 53 .sub (I0 1),d6 55 (.idxS 8 (zT 52) (zT 54)),d6 56 (.load (some 8) (zT 55)),⟨none,none,.store 8 (zT 2) (zT 56)⟩,d6 3 (.mov zt)] [2,3] .ret))))),57,[(2,(some (some 8))),(3,none)],true⟩
def c62:n7:=⟨zS [d6 3 (.box 107 (zT 1)),d6 4 (.mov zf)] [0,3] (zS [a7 5 0,d6 6 (.idxA 2 1 (zT 3) (n6 0)),G9 7 6,l8 8 5 .geq (zT 7),a7 9 8,x9 10 9 (.mov (zT 0)),x9 11 9 (.idxA 2 1 (zT 3) (n6 1)),x9 12 9 (.load none (zT 11)),x9 13 9 (.bin .leq (zT 10) (zT 12)),d6 14 (.pick (zT 9) (zT 13) zf),a7 4 14] [4] .ret),15,[(4,none)],true⟩
def c63:n7:=⟨zS [d6 2 (.box 89 (zT 0)),x8 4 0] [1,2] (zS [J9 5 2 2,G9 6 5,J9 7 2 2,G9 8 7,J9 9 3 2,G9 10 9,l8 11 8 .add (zT 10),d6 12 (.build [(.int .i64 0),(.int .i64 0),(.int .i64 0),(.int .i64 0)] [(0,1,(n6 0)),(1,1,(n6 1)),(2,1,(zT 6)),(3,1,(zT 11))]),a7 13 1,d6 14 (.idxV 4 1 none (zT 12) (zT 13)),a7 4 14] [4] .ret),15,[(4,none)],true⟩
def c64:n7:=⟨zS [d6 1 (.box 89 (zT 0)),x8 2 0] [1] (.seq (zS [J9 3 0 1,G9 4 3] [1,4] (.block 0 (.seq (zS [l8 6 4 .eql (I0 2),a7 5 6] [1,4,5] (zC 5 .skip (.ops [l8 7 4 .eql (I0 9),a7 5 7] [1,4,5]))) (zC 5 (zS [x8 2 0] [2] .ret) (.seq (zS [l8 9 4 .eql (I0 3),a7 8 9] [1,4,8] (zC 8 .skip (zS [l8 10 4 .eql (I0 4),a7 8 10] [1,4,8] (zC 8 .skip (.ops [l8 11 4 .eql (I0 10),a7 8 11] [1,4,8]))))) (zC 8 (zS [J9 12 2 1,G9 13 12,a7 2 13] [2] .ret) (.seq (zS [l8 15 4 .eql (I0 6),a7 14 15] [1,4,14] (zC 14 .skip (.ops [l8 16 4 .eql (I0 7),a7 14 16] [1,14]))) (zC 14 (zS [J9 17 2 1,G9 18 17,J9 19 3 1,G9 20 19,l8 21 18 .add (zT 20),a7 2 21] [2] .ret) .skip)))))))) (zS [x8 2 1] [2] .ret)),22,[(2,none)],true⟩
def c65:n7:=⟨zS [d6 1 (.box 89 (zT 0)),x8 2 0] [1] (.seq (zS [J9 3 0 1,G9 4 3] [1,4] (.block 0 (zS [l8 6 4 .eql (I0 10),a7 5 6] [1,4,5] (zC 5 (zS [x8 2 0] [2] .ret) (.seq (zS [l8 8 4 .eql (I0 5),a7 7 8] [1,4,7] (zC 7 .skip (.ops [l8 9 4 .eql (I0 9),a7 7 9] [1,4,7]))) (zC 7 (zS [J9 10 2 1,G9 11 10,a7 2 11] [2] .ret) (.seq (zS [l8 13 4 .eql (I0 6),a7 12 13] [1,4,12] (zC 12 .skip (.ops [l8 14 4 .eql (I0 7),a7 12 14] [1,12]))) (zC 12 (zS [J9 15 2 1,G9 16 15,J9 17 3 1,G9 18 17,l8 19 16 .add (zT 18),a7 2 19] [2] .ret) .skip)))))))) (zS [x8 2 1] [2] .ret)),20,[(2,none)],true⟩
def c70:n7:=⟨zS [d6 2 (.box 89 (zT 0)),d6 4 (.mov (.const (.string ⟨#[]⟩)))] [1,2] (zS [J9 8 0 2,G9 9 8,J9 10 1 2,G9 11 10,d6 12 (.callF 79 [(zT 9),(zT 11)]),a7 7 12,J0 13 7 0,J0 14 7 1,a7 5 13,a7 6 14] [1,2,5,6] (.seq (zS [a7 15 6] [1,2,5,15] (zC 15 (zS [a7 16 5,a7 17 1,L4 18 14 17,d6 19 (.callF 89 [(zT 16),(.const (.string ⟨#[35]⟩)),(zT 18),(n6 1)]),a7 4 19] [4] .ret) .skip)) (zS [a7 20 5,J9 21 2 2,G9 22 21,L4 23 14 22,d6 24 (.callF 89 [(zT 20),(.const (.string ⟨#[35]⟩)),(zT 23),(n6 1)]),a7 5 24] [1,2,5] (zS [a7 25 5,J9 26 3 2,G9 27 26,L4 28 14 27,d6 29 (.callF 89 [(zT 25),(.const (.string ⟨#[35]⟩)),(zT 28),(n6 1)]),a7 5 29] [1,5] (.seq (zS [a7 30 1,l8 31 30 .gtr (n6 1)] [1,5,31] (zC 31 (.ops [a7 32 5,a7 33 1,L4 34 14 33,d6 35 (.bin .add (.const (.string ⟨#[32]⟩)) (zT 34)),d6 36 (.bin .add (zT 35) (.const (.string ⟨#[32,116,105,109,101,115]⟩))),l8 37 32 .add (zT 36),a7 5 37] [5]) .skip)) (zS [a7 38 5,a7 4 38] [4] .ret)))))),39,[(4,none)],true⟩
def c72:n7:=⟨zS [d6 2 (.box 89 (zT 0)),d6 4 (.mov (.const (.string ⟨#[]⟩)))] [1,2] (zS [a7 6 1,L4 7 18 6,a7 5 7] [1,2,5] (.seq (.block 0 (zS [J9 9 0 2,G9 10 9,l8 11 10 .eql (I0 1),a7 8 11] [1,2,5,8] (zC 8 (zS [d6 12 (.load (some 4) (zT 2)),L4 13 91 12,d6 14 (.bin .add (zT 13) (.const (.string ⟨#[32]⟩))),a7 15 5,l8 16 14 .add (zT 15),a7 4 16] [4] .ret) (zS [J9 18 0 2,G9 19 18,l8 20 19 .eql (I0 8),a7 21 20,x9 22 21 (.fldA 1 (zT 2)),x9 23 21 (.load none (zT 22)),d6 24 (.pick (zT 21) (zT 23) zf),a7 17 24] [1,2,5,17] (zC 17 (zS [a7 25 5,d6 26 (.bin .add (.const (.string ⟨#[115,108,105,112,32]⟩)) (zT 25)),d6 27 (.bin .add (zT 26) (.const (.string ⟨#[32,119,105,116,104,32,121,97,114,110,32,105,110,32,102,114,111,110,116]⟩))),a7 4 27] [4] .ret) (zS [J9 29 0 2,G9 30 29,l8 31 30 .eql (I0 8),a7 28 31] [1,2,5,28] (zC 28 (zS [a7 32 5,d6 33 (.bin .add (.const (.string ⟨#[115,108,105,112,32]⟩)) (zT 32)),a7 4 33] [4] .ret) (zS [a7 35 1,l8 36 35 .gtr (n6 1),a7 34 36] [2,5,34] (zC 34 (zS [d6 37 (.load (some 4) (zT 2)),L4 38 92 37,d6 39 (.bin .add (zT 38) (.const (.string ⟨#[32]⟩))),a7 40 5,l8 41 39 .add (zT 40),d6 42 (.bin .add (zT 41) (.const (.string ⟨#[32,116,105,109,101,115]⟩))),a7 4 42] [4] .ret) .skip))))))))) (zS [d6 43 (.load (some 4) (zT 2)),L4 44 92 43,a7 4 44] [4] .ret))),45,[(4,none)],true⟩
def cA5:AC:= zS [d6 5 (.nextS (zT 4)),J0 6 5 0] [2,4,6] (.seq (zC 6 .skip (.exit 0)) (.block 1 (.ops [a7 7 2,l8 8 7 .add (n6 1),a7 2 8] [2,4])))
def c73:n7:=⟨zS [x8 2 0] [0,2] (.seq (zS [a7 3 0,d6 4 (.rangeS (zT 3))] [2,4] (.block 0 (.loop [2,4] cA5))) (zS [a7 9 2,a7 2 9] [2] .ret)),10,[(2,none)],true⟩
def c74:n7:=⟨zS [d6 2 (.mov (.const (.int .i32 0))),x8 3 0] [0] (.seq (zS [a7 4 0,d6 5 (.bin .neq (zT 4) (.const (.string ⟨#[]⟩))),a7 6 5,x9 7 6 (.mov (zT 0)),x9 8 6 (.idxStr (zT 7) (n6 0)),x9 9 6 (.bin .lss (zT 8) (I0 128)),d6 10 (.pick (zT 6) (zT 9) zf)] [0,10] (zC 10 (zS [a7 11 0,d6 12 (.idxStr (zT 11) (n6 0)),d6 13 (.convI .i32 (zT 12)),a7 2 13,x8 3 1] [2,3] .ret) (.ops [a7 15 0,L4 16 93 15,a7 14 16,J0 17 14 0,J0 18 14 1,a7 2 17,a7 3 18] [2,3]))) .ret),19,[(2,none),(3,none)],true⟩
def c77:n7:=⟨zS [d6 4 (.mov zf)] [0,1] (zS [a7 5 0,d6 6 (.len true (zT 5)),a7 7 1,d6 8 (.len true (zT 7)),l8 9 6 .geq (zT 8),a7 10 9,x9 11 10 (.mov (zT 0)),x9 12 10 (.mov (zT 1)),x9 13 10 (.len true (zT 12)),x9 14 10 (.slcS (zT 11) none (some (zT 13))),x9 15 10 (.mov (zT 1)),x9 16 10 (.bin .eql (zT 14) (zT 15)),d6 17 (.pick (zT 10) (zT 16) zf),a7 4 17] [4] .ret),18,[(4,none)],true⟩
def c78:n7:=⟨zS [d6 4 (.mov zf)] [0,1] (zS [a7 5 0,d6 6 (.len true (zT 5)),a7 7 1,d6 8 (.len true (zT 7)),l8 9 6 .geq (zT 8),a7 10 9,x9 11 10 (.mov (zT 0)),x9 12 10 (.mov (zT 0)),x9 13 10 (.len true (zT 12)),x9 14 10 (.mov (zT 1)),x9 15 10 (.len true (zT 14)),x9 16 10 (.bin .sub (zT 13) (zT 15)),x9 17 10 (.slcS (zT 11) (some (zT 16)) none),x9 18 10 (.mov (zT 1)),x9 19 10 (.bin .eql (zT 17) (zT 18)),d6 20 (.pick (zT 10) (zT 19) zf),a7 4 20] [4] .ret),21,[(4,none)],true⟩
def c79:n7:=⟨zS [d6 4 (.mov (.const (.string ⟨#[]⟩))),d6 5 (.mov zf)] [0,1] (zS [d6 6 (.mov (.const (.string ⟨#[]⟩)))] [0,1,6] (.seq (zS [a7 7 1] [0,1,6,7] (zC 7 (.ops [d6 6 (.mov (.const (.string ⟨#[32,112,117,114,108,119,105,115,101]⟩)))] [0,1,6]) .skip)) (.seq (zS [a7 8 0] [1,6,8] (.block 0 (zS [l8 10 8 .eql (I0 1),a7 9 10] [1,6,8,9] (zC 9 (zS [a7 11 1,L4 12 98 11,d6 13 (.bin .add (zT 12) (.const (.string ⟨#[32,35]⟩))),a7 4 13,d6 5 (.mov zt)] [4,5] .ret) (zS [l8 15 8 .eql (I0 8),a7 14 15] [1,6,8,14] (zC 14 (.seq (zS [a7 16 1] [16] (zC 16 (zS [d6 4 (.mov (.const (.string ⟨#[115,108,105,112,32,35,32,119,105,116,104,32,121,97,114,110,32,105,110,32,102,114,111,110,116]⟩))),d6 5 (.mov zt)] [4,5] .ret) .skip)) (zS [d6 4 (.mov (.const (.string ⟨#[115,108,105,112,32,35]⟩))),d6 5 (.mov zt)] [4,5] .ret)) (zS [l8 18 8 .eql (I0 2),a7 17 18] [1,6,8,17] (zC 17 (zS [d6 4 (.mov (.const (.string ⟨#[121,97,114,110,32,111,118,101,114]⟩))),d6 5 (.mov zf)] [4,5] .ret) (zS [l8 20 8 .eql (I0 3),a7 19 20] [1,6,8,19] (zC 19 (zS [a7 21 1,L4 22 98 21,d6 23 (.bin .add (zT 22) (.const (.string ⟨#[32,35,32,116,111,103,101,116,104,101,114,32,40,102,105,114,115,116,32,111,110,32,116,111,112,41]⟩))),a7 4 23,d6 5 (.mov zf)] [4,5] .ret) (zS [l8 25 8 .eql (I0 4),a7 24 25] [1,6,8,24] (zC 24 (zS [a7 26 1,L4 27 98 26,d6 28 (.bin .add (zT 27) (.const (.string ⟨#[32,35,32,116,111,103,101,116,104,101,114]⟩))),a7 4 28,d6 5 (.mov zf)] [4,5] .ret) (zS [l8 30 8 .eql (I0 5),a7 29 30] [6,8,29] (zC 29 (zS [a7 31 6,d6 32 (.bin .add (.const (.string ⟨#[109,97,107,101,32,35,32,111,117,116,32,111,102,32,49]⟩)) (zT 31)),a7 4 32,d6 5 (.mov zf)] [4,5] .ret) (zS [l8 34 8 .eql (I0 6),a7 33 34] [6,8,33] (zC 33 (zS [a7 35 6,d6 36 (.bin .add (.const (.string ⟨#[99,114,111,115,115,32,35,32,105,110,32,102,114,111,110,116,32,111,102,32,35]⟩)) (zT 35)),a7 4 36,d6 5 (.mov zf)] [4,5] .ret) (zS [l8 38 8 .eql (I0 7),a7 37 38] [6,8,37] (zC 37 (zS [a7 39 6,
  d6 40 (.bin .add (.const (.string ⟨#[99,114,111,115,115,32,35,32,98,101,104,105,110,100,32,35]⟩)) (zT 39)),a7 4 40,d6 5 (.mov zf)] [4,5] .ret) (zS [l8 42 8 .eql (I0 9),a7 41 42] [6,41] (zC 41 (zS [d6 4 (.mov (.const (.string ⟨#[99,97,115,116,32,111,110,32,35]⟩))),d6 5 (.mov zf)] [4,5] .ret) .skip)))))))))))))))))))) (zS [a7 43 6,d6 44 (.bin .add (.const (.string ⟨#[98,105,110,100,32,111,102,102,32,35]⟩)) (zT 43)),a7 4 44,d6 5 (.mov zf)] [4,5] .ret)))),45,[(4,none),(5,none)],true⟩
def c80:n7:=⟨zS [d6 4 (.mov (.const (.string ⟨#[]⟩)))] [0,1] (zS [a7 5 0,a7 6 1,d6 7 (.callF 99 [(zT 5),(zT 6)]),a7 4 7] [4] .ret),8,[(4,none)],true⟩
def WT:AC:= .seq (zS [a7 10 5,a7 11 4,d6 12 (.len false (zT 11)),l8 13 10 .lss (zT 12)] [3,4,5,13] (zC 13 .skip (.exit 0))) (.seq (.block 1 (zS [a7 17 4,a7 18 5,d6 19 (.idxS 1 (zT 17) (zT 18)),G9 20 19,L4 21 24 20,a7 16 21,J0 22 16 0,J0 23 16 1,a7 6 22,a7 7 23] [3,4,5,6,7] (zS [a7 24 7] [3,4,5,6,24] (zC 24 (.ops [a7 25 3,a7 26 6,d6 27 (.mkRow 3 1 1 [(.int .i64 0)] [(0,1,(zT 26))]),d6 28 (.app 3 1 8 (zT 25) (zT 27)),a7 3 28] [3,4,5]) .skip)))) (.ops [a7 14 5,l8 15 14 .add (n6 1),a7 5 15] [3,4,5]))
def c81:n7:=⟨zS [d6 2 (.mov (.const (.slice none 0 0)))] [0] (zS [d6 3 (.mov (.const (.slice none 0 0)))] [0,3] (zS [a7 8 0,d6 9 (.callF 23 [(zT 8),(I0 32)]),a7 4 9] [3,4] (.seq (zS [x8 5 0] [3,4,5] (.block 0 (.loop [3,4,5] WT))) (zS [a7 29 3,a7 2 29] [2] .ret)))),30,[(2,none)],true⟩
def c82:n7:=⟨zS [d6 0 (.mov (.const (.slice none 0 0)))] [] (zS [d6 1 (.mkRow 5 1 10 [(.int .u8 0)] [(0,1,(I0 1)),(1,1,(I0 2)),(2,1,(I0 3)),(3,1,(I0 4)),(4,1,(I0 5)),(5,1,(I0 6)),(6,1,(I0 7)),(7,1,(I0 8)),(8,1,(I0 9)),(9,1,(I0 10))]),a7 0 1] [0] .ret),2,[(0,none)],true⟩
def c83:n7:=⟨zS [d6 6 (.alloc 89 [(1,(.int .u8 0)),(1,(.bool false)),(2,(.int .i64 0))]),x8 7 0] [0,1,2,6] (zS [a7 11 0,a7 12 1,d6 13 (.build [(.int .u8 0),(.bool false),(.int .i64 0),(.int .i64 0)] [(0,1,(zT 11)),(1,1,(zT 12))]),d6 8 (.alloc 89 [(1,(.int .u8 0)),(1,(.bool false)),(2,(.int .i64 0))]),⟨none,none,.store 4 (zT 8) (zT 13)⟩,x8 9 1] [0,2,6,8,9] (zS [x8 10 0] [0,2,6,8,9,10] (.seq (zS [a7 14 0,l8 15 14 .eql (I0 1),a7 16 15,y7 17 16 (.mov (zT 0)),y7 18 16 (.bin .eql (zT 17) (I0 8)),d6 19 (.pick (zT 16) zt (zT 18))] [0,2,6,8,9,10,19] (zC 19 (.seq (zS [a7 20 2,d6 21 (.len false (zT 20)),l8 22 21 .eql (n6 0)] [2,6,8,22] (zC 22 (zS [d6 23 (.load (some 4) (zT 8)),⟨none,none,.store 4 (zT 6) (zT 23)⟩,x8 7 0] [6,7] .ret) .skip)) (.seq (.drawW [⟨d6 24 (.load (some 4) (zT 8)),[],none⟩,⟨a7 25 2,[0],none⟩,⟨d6 26 (.idxS 1 (zT 25) (n6 0)),[0],none⟩,⟨G9 27 26,[0],none⟩,⟨⟨none,none,.store 4 (zT 6) (zT 24)⟩,[1,2,3],none⟩] [a7 7 27] [6,7]) .ret)) .skip)) (.seq (zS [a7 28 0,l8 29 28 .neq (I0 2)] [0,2,6,8,9,10,29] (zC 29 (.seq (zS [a7 30 2,d6 31 (.len false (zT 30)),l8 32 31 .eql (n6 0)] [0,2,6,8,9,32] (zC 32 (zS [d6 33 (.load (some 4) (zT 8)),⟨none,none,.store 4 (zT 6) (zT 33)⟩,x8 7 0] [6,7] .ret) .skip)) (zS [a7 34 2,d6 35 (.idxS 1 (zT 34) (n6 0)),G9 36 35,J9 37 2 8,⟨none,none,.store 1 (zT 37) (zT 36)⟩] [0,2,6,8,9] (.ops [x8 10 1] [0,2,6,8,9,10]))) .skip)) (.seq (zS [a7 38 0,l8 39 38 .eql (I0 5)] [0,2,6,8,9,10,39] (zC 39 (.ops [x8 10 2] [0,2,6,8,9,10]) .skip)) (.seq (zS [a7 40 0,l8 41 40 .eql (I0 6),a7 42 41,y7 43 42 (.mov (zT 0)),y7 44 42 (.bin .eql (zT 43) (I0 7)),d6 45 (.pick (zT 42) zt (zT 44))] [2,6,8,9,10,45] (zC 45 (.seq (zS [a7 46 2,d6 47 (.len false (zT 46)),l8 48 47 .lss (n6 2)] [2,6,8,9,48] (zC 48 (zS [d6 49 (.load (some 4) (zT 8)),⟨none,none,.store 4 (zT 6) (zT 49)⟩,x8 7 0] [6,7] .ret) .skip)) (zS [a7 50 2,d6 51 (.idxS 1 (zT 50) (n6 1)),
  G9 52 51,J9 53 3 8,⟨none,none,.store 1 (zT 53) (zT 52)⟩] [2,6,8,9] (.ops [x8 10 2] [2,6,8,9,10]))) .skip)) (.seq (zS [a7 54 10,a7 55 2,d6 56 (.len false (zT 55)),l8 57 54 .lss (zT 56)] [2,6,8,9,10,57] (zC 57 (.ops [a7 58 2,a7 59 10,d6 60 (.idxS 1 (zT 58) (zT 59)),G9 61 60,a7 9 61] [6,8,9]) .skip)) (zS [d6 62 (.load (some 4) (zT 8)),a7 63 9,⟨none,none,.store 4 (zT 6) (zT 62)⟩,a7 7 63] [6,7] .ret)))))))),64,[(6,(some (some 4))),(7,none)],true⟩
def c91:n7:=⟨zS [d6 1 (.box 89 (zT 0)),d6 2 (.mov (.const (.string ⟨#[]⟩)))] [1] (.seq (zS [J9 3 1 1,G9 4 3] [4] (zC 4 (zS [d6 2 (.mov (.const (.string ⟨#[112,117,114,108]⟩)))] [2] .ret) .skip)) (zS [d6 2 (.mov (.const (.string ⟨#[107,110,105,116]⟩)))] [2] .ret)),5,[(2,none)],true⟩
def c92:n7:=⟨zS [d6 1 (.box 89 (zT 0)),d6 2 (.mov (.const (.string ⟨#[]⟩)))] [1] (.seq (.draw [J9 5 2 1,G9 6 5,d6 7 (.mm true (zT 6) (n6 0)),L4 8 18 7,J9 9 3 1,G9 10 9,d6 11 (.mm true (zT 10) (n6 0))] [L4 12 18 11,a7 3 8,a7 4 12] [[],[],[],[],[false,false,false,false],[true,false,false,false,false],[true,true,false,false,false,false]] [1,3,4]) (.seq (zS [J9 13 0 1,G9 14 13] [1,3,4,14] (.block 0 (zS [l8 16 14 .eql (I0 2),a7 15 16] [1,3,4,14,15] (zC 15 (zS [d6 2 (.mov (.const (.string ⟨#[121,97,114,110,32,111,118,101,114]⟩)))] [2] .ret) (zS [l8 18 14 .eql (I0 3),a7 17 18] [1,3,4,14,17] (zC 17 (zS [d6 19 (.load (some 4) (zT 1)),L4 20 91 19,d6 21 (.bin .add (zT 20) (.const (.string ⟨#[32]⟩))),a7 22 3,l8 23 21 .add (zT 22),d6 24 (.bin .add (zT 23) (.const (.string ⟨#[32,116,111,103,101,116,104,101,114,32,40,102,105,114,115,116,32,111,110,32,116,111,112,41]⟩))),a7 2 24] [2] .ret) (zS [l8 26 14 .eql (I0 4),a7 25 26] [1,3,4,14,25] (zC 25 (zS [d6 27 (.load (some 4) (zT 1)),L4 28 91 27,d6 29 (.bin .add (zT 28) (.const (.string ⟨#[32]⟩))),a7 30 3,l8 31 29 .add (zT 30),d6 32 (.bin .add (zT 31) (.const (.string ⟨#[32,116,111,103,101,116,104,101,114]⟩))),a7 2 32] [2] .ret) (zS [l8 34 14 .eql (I0 5),a7 33 34] [1,3,4,14,33] (zC 33 (zS [a7 35 3,d6 36 (.bin .add (.const (.string ⟨#[109,97,107,101,32]⟩)) (zT 35)),d6 37 (.bin .add (zT 36) (.const (.string ⟨#[32,111,117,116,32,111,102,32,49]⟩))),d6 38 (.load (some 4) (zT 1)),L4 39 103 38,l8 40 37 .add (zT 39),a7 2 40] [2] .ret) (zS [l8 42 14 .eql (I0 6),a7 41 42] [1,3,4,14,41] (zC 41 (zS [a7 43 3,d6 44 (.bin .add (.const (.string ⟨#[99,114,111,115,115,32]⟩)) (zT 43)),d6 45 (.bin .add (zT 44) (.const (.string ⟨#[32,105,110,32,102,114,111,110,116,32,111,102,32]⟩))),a7 46 4,l8 47 45 .add (zT 46),d6 48 (.load (some 4) (zT 1)),L4 49 103 48,l8 50 47 .add (zT 49),a7 2 50] [2] .ret) (zS [l8 52 14 .eql (I0 7),a7 51 52] [1,3,4,14,51] (zC 51 (zS [a7 53 3,d6 54 (.bin .add (.const (.string ⟨#[99,114,111,115,115,32]⟩)) (zT 53)),d6 55 (.bin .add (zT 54) (.const (.string ⟨#[32,98,101,104,105,110,100,32]⟩))),
  a7 56 4,l8 57 55 .add (zT 56),d6 58 (.load (some 4) (zT 1)),L4 59 103 58,l8 60 57 .add (zT 59),a7 2 60] [2] .ret) (zS [l8 62 14 .eql (I0 9),a7 61 62] [1,3,61] (zC 61 (zS [a7 63 3,d6 64 (.bin .add (.const (.string ⟨#[99,97,115,116,32,111,110,32]⟩)) (zT 63)),a7 2 64] [2] .ret) .skip)))))))))))))))) (zS [a7 65 3,d6 66 (.bin .add (.const (.string ⟨#[98,105,110,100,32,111,102,102,32]⟩)) (zT 65)),d6 67 (.load (some 4) (zT 1)),L4 68 103 67,l8 69 66 .add (zT 68),a7 2 69] [2] .ret))),70,[(2,none)],true⟩
def c93:n7:=⟨zS [d6 2 (.mov (.const (.int .i32 0))),x8 3 0] [0] (zS [a7 13 0,d6 14 (.len true (zT 13)),a7 4 14] [0,4] (.seq (zS [a7 15 4,l8 16 15 .lss (n6 1)] [0,4,16] (zC 16 (zS [d6 2 (.mov (.const (.int .i32 65533))),x8 3 0] [2,3] .ret) .skip)) (zS [a7 17 0,d6 18 (.idxStr (zT 17) (n6 0)),a7 5 18] [0,4,5] (zS [a7 19 5,d6 20 (.idxA 256 1 (.global 2) (zT 19)),G9 21 20,a7 6 21] [0,4,5,6] (.seq (zS [a7 22 6,l8 23 22 .geq (I0 240)] [0,4,5,6,23] (zC 23 (zS [a7 24 6,d6 25 (.convI .i32 (zT 24)),d6 26 (.bin .shl (zT 25) (.const (.int .u64 31))),d6 27 (.bin .shr (zT 26) (.const (.int .u64 31))),a7 7 27] [0,7] (zS [a7 28 0,d6 29 (.idxStr (zT 28) (n6 0)),d6 30 (.convI .i32 (zT 29)),a7 31 7,l8 32 30 .andNot (zT 31),a7 33 7,d6 34 (.bin .and (.const (.int .i32 65533)) (zT 33)),l8 35 32 .or (zT 34),a7 2 35,x8 3 1] [2,3] .ret)) .skip)) (zS [a7 36 6,l8 37 36 .and (I0 7),d6 38 (.convI .i64 (zT 37)),a7 8 38] [0,4,5,6,8] (zS [a7 39 6,d6 40 (.bin .shr (zT 39) (.const (.int .u64 4))),d6 41 (.idxA 16 2 (.global 3) (zT 40)),d6 42 (.load (some 2) (zT 41)),d6 9 (.alloc 147 [(2,(.int .u8 0))]),⟨none,none,.store 2 (zT 9) (zT 42)⟩] [0,4,5,8,9] (.seq (zS [a7 43 4,a7 44 8,l8 45 43 .lss (zT 44)] [0,5,8,9,45] (zC 45 (zS [d6 2 (.mov (.const (.int .i32 65533))),x8 3 1] [2,3] .ret) .skip)) (zS [a7 46 0,d6 47 (.idxStr (zT 46) (n6 1)),a7 10 47] [0,5,8,9,10] (.seq (zS [a7 48 10,J9 49 0 9,G9 50 49,l8 51 48 .lss (zT 50),a7 52 51,y7 53 52 (.fldA 1 (zT 9)),y7 54 52 (.load none (zT 53)),y7 55 52 (.mov (zT 10)),y7 56 52 (.bin .lss (zT 54) (zT 55)),d6 57 (.pick (zT 52) zt (zT 56))] [0,5,8,10,57] (zC 57 (zS [d6 2 (.mov (.const (.int .i32 65533))),x8 3 1] [2,3] .ret) .skip)) (.seq (zS [a7 58 8,l8 59 58 .leq (n6 2)] [0,5,8,10,59] (zC 59 (zS [a7 60 5,l8 61 60 .and (I0 31),d6 62 (.convI .i32 (zT 61)),d6 63 (.bin .shl (zT 62) (.const (.int .u64 6))),a7 64 10,
  l8 65 64 .and (I0 63),d6 66 (.convI .i32 (zT 65)),l8 67 63 .or (zT 66),a7 2 67,x8 3 2] [2,3] .ret) .skip)) (zS [a7 68 0,d6 69 (.idxStr (zT 68) (n6 2)),a7 11 69] [0,5,8,10,11] (.seq (zS [a7 70 11,l8 71 70 .lss (I0 128),a7 72 71,y7 73 72 (.mov (zT 11)),y7 74 72 (.bin .lss (I0 191) (zT 73)),d6 75 (.pick (zT 72) zt (zT 74))] [0,5,8,10,11,75] (zC 75 (zS [d6 2 (.mov (.const (.int .i32 65533))),x8 3 1] [2,3] .ret) .skip)) (.seq (zS [a7 76 8,l8 77 76 .leq (n6 3)] [0,5,10,11,77] (zC 77 (zS [a7 78 5,l8 79 78 .and (I0 15),d6 80 (.convI .i32 (zT 79)),d6 81 (.bin .shl (zT 80) (.const (.int .u64 12))),a7 82 10,l8 83 82 .and (I0 63),d6 84 (.convI .i32 (zT 83)),d6 85 (.bin .shl (zT 84) (.const (.int .u64 6))),l8 86 81 .or (zT 85),a7 87 11,l8 88 87 .and (I0 63),d6 89 (.convI .i32 (zT 88)),l8 90 86 .or (zT 89),a7 2 90,x8 3 3] [2,3] .ret) .skip)) (zS [a7 91 0,d6 92 (.idxStr (zT 91) (n6 3)),a7 12 92] [5,10,11,12] (.seq (zS [a7 93 12,l8 94 93 .lss (I0 128),a7 95 94,y7 96 95 (.mov (zT 12)),y7 97 95 (.bin .lss (I0 191) (zT 96)),d6 98 (.pick (zT 95) zt (zT 97))] [5,10,11,12,98] (zC 98 (zS [d6 2 (.mov (.const (.int .i32 65533))),x8 3 1] [2,3] .ret) .skip)) (zS [a7 99 5,l8 100 99 .and (I0 7),d6 101 (.convI .i32 (zT 100)),d6 102 (.bin .shl (zT 101) (.const (.int .u64 18))),a7 103 10,l8 104 103 .and (I0 63),d6 105 (.convI .i32 (zT 104)),d6 106 (.bin .shl (zT 105) (.const (.int .u64 12))),l8 107 102 .or (zT 106),a7 108 11,l8 109 108 .and (I0 63),d6 110 (.convI .i32 (zT 109)),d6 111 (.bin .shl (zT 110) (.const (.int .u64 6))),l8 112 107 .or (zT 111),a7 113 12,l8 114 113 .and (I0 63),d6 115 (.convI .i32 (zT 114)),l8 116 112 .or (zT 115),a7 2 116,x8 3 4] [2,3] .ret))))))))))))))))),117,[(2,none),(3,none)],true⟩
def c98:n7:=⟨zS [d6 2 (.mov (.const (.string ⟨#[]⟩)))] [0] (.seq (zS [a7 3 0] [3] (zC 3 (zS [d6 2 (.mov (.const (.string ⟨#[112,117,114,108]⟩)))] [2] .ret) .skip)) (zS [d6 2 (.mov (.const (.string ⟨#[107,110,105,116]⟩)))] [2] .ret)),4,[(2,none)],true⟩
def c99:n7:=⟨zS [d6 4 (.mov (.const (.string ⟨#[]⟩)))] [0,1] (.seq (zS [a7 5 0,a7 6 1,d6 7 (.callF 77 [(zT 5),(zT 6)])] [0,1,7] (zC 7 (zS [a7 8 0,a7 9 1,d6 10 (.len true (zT 9)),d6 11 (.slcS (zT 8) (some (zT 10)) none),a7 4 11] [4] .ret) .skip)) (zS [a7 12 0,a7 4 12] [4] .ret)),13,[(4,none)],true⟩
def bZ7:n7:=⟨zS [d6 1 (.box 89 (zT 0)),d6 2 (.mov (.const (.string ⟨#[]⟩)))] [1] (.seq (zS [J9 3 1 1,G9 4 3] [4] (zC 4 (zS [d6 2 (.mov (.const (.string ⟨#[32,112,117,114,108,119,105,115,101]⟩)))] [2] .ret) .skip)) (zS [d6 2 (.mov (.const (.string ⟨#[]⟩)))] [2] .ret)),5,[(2,none)],true⟩
def fns:FuncId→Option n7
 |3=>some c3
 |4=>some c4
 |5=>some c5
 |6=>some c6
 |7=>some c7
 |8=>some c8
 |9=>some c9
 |10=>some c10
 |11=>some c11
 |12=>some c12
 |13=>some c13
 |15=>some c15
 |16=>some c16
 |17=>some c17
 |18=>some c18
 |19=>some c19
 |20=>some c20
 |21=>some c21
 |22=>some c22
 |23=>some c23
 |24=>some c24
 |25=>some c25
 |26=>some c26
 |27=>some c27
 |28=>some c28
 |29=>some c29
 |31=>some c31
 |32=>some c32
 |33=>some c33
 |34=>some c34
 |35=>some c35
 |36=>some c36
 |37=>some c37
 |38=>some c38
 |39=>some c39
 |40=>some c40
 |41=>some c41
 |42=>some c42
 |43=>some c43
 |44=>some c44
 |45=>some c45
 |46=>some c46
 |47=>some c47
 |50=>some c50
 |51=>some c51
 |52=>some c52
 |55=>some c55
 |56=>some c56
 |57=>some c57
 |58=>some c58
 |59=>some c59
 |60=>some c60
 |61=>some c61
 |62=>some c62
 |63=>some c63
 |64=>some c64
 |65=>some c65
 |70=>some c70
 |72=>some c72
 |73=>some c73
 |74=>some c74
 |77=>some c77
 |78=>some c78
 |79=>some c79
 |80=>some c80
 |81=>some c81
 |82=>some c82
 |83=>some c83
 |91=>some c91
 |92=>some c92
 |93=>some c93
 |98=>some c98
 |99=>some c99
 |103=>some bZ7
 |_=>none
theorem zK {P:Program} {f:FuncId} {c:n7} {fn b} (h1:P.funcs[f]?=some fn) (h2:fn.body=some b) (h3:(fn.name=="runtime.NumGoroutine")=false) (h4:fn.ntmps=c.n) (h5:F7 P c.n b c.code=some c.code) (h6:T7 P fn.results.toList=some c.res):uZ P f c:=.code ⟨fn,b,c.code,h1,h2,h3,h4,h5,h6⟩
theorem bS0:HC Tryz.prog fns:=by
 intro f af h
 unfold fns at h
 split at h
 ·cases h;exact zK Tryz.func3 rfl (by kernel_rfl) rfl (by kernel_rfl) (by kernel_rfl)
 ·cases h;exact zK Tryz.func4 rfl (by kernel_rfl) rfl (by kernel_rfl) (by kernel_rfl)
 ·cases h;exact zK Tryz.func5 rfl (by kernel_rfl) rfl (by kernel_rfl) (by kernel_rfl)
 ·cases h;exact zK Tryz.func6 rfl (by kernel_rfl) rfl (by kernel_rfl) (by kernel_rfl)
 ·cases h;exact zK Tryz.func7 rfl (by kernel_rfl) rfl (by kernel_rfl) (by kernel_rfl)
 ·cases h;exact zK Tryz.func8 rfl (by kernel_rfl) rfl (by kernel_rfl) (by kernel_rfl)
 ·cases h;exact zK Tryz.func9 rfl (by kernel_rfl) rfl (by kernel_rfl) (by kernel_rfl)
 ·cases h;exact zK Tryz.func10 rfl (by kernel_rfl) rfl (by kernel_rfl) (by kernel_rfl)
 ·cases h;exact zK Tryz.func11 rfl (by kernel_rfl) rfl (by kernel_rfl) (by kernel_rfl)
 ·cases h;exact zK Tryz.func12 rfl (by kernel_rfl) rfl (by kernel_rfl) (by kernel_rfl)
 ·cases h;exact zK Tryz.func13 rfl (by kernel_rfl) rfl (by kernel_rfl) (by kernel_rfl)
 ·cases h;exact zK Tryz.func15 rfl (by kernel_rfl) rfl (by kernel_rfl) (by kernel_rfl)
 ·cases h;exact zK Tryz.func16 rfl (by kernel_rfl) rfl (by kernel_rfl) (by kernel_rfl)
 ·cases h;exact zK Tryz.func17 rfl (by kernel_rfl) rfl (by kernel_rfl) (by kernel_rfl)
 ·cases h;exact zK Tryz.func18 rfl (by kernel_rfl) rfl (by kernel_rfl) (by kernel_rfl)
 ·cases h;exact zK Tryz.func19 rfl (by kernel_rfl) rfl (by kernel_rfl) (by kernel_rfl)
 ·cases h;exact zK Tryz.func20 rfl (by kernel_rfl) rfl (by kernel_rfl) (by kernel_rfl)
 ·cases h;exact zK Tryz.func21 rfl (by kernel_rfl) rfl (by kernel_rfl) (by kernel_rfl)
 ·cases h;exact zK Tryz.func22 rfl (by kernel_rfl) rfl (by kernel_rfl) (by kernel_rfl)
 ·cases h;exact zK Tryz.func23 rfl (by kernel_rfl) rfl (by kernel_rfl) (by kernel_rfl)
 ·cases h;exact zK Tryz.func24 rfl (by kernel_rfl) rfl (by kernel_rfl) (by kernel_rfl)
 ·cases h;exact zK Tryz.func25 rfl (by kernel_rfl) rfl (by kernel_rfl) (by kernel_rfl)
 ·cases h;exact zK Tryz.func26 rfl (by kernel_rfl) rfl (by kernel_rfl) (by kernel_rfl)
 ·cases h;exact zK Tryz.func27 rfl (by kernel_rfl) rfl (by kernel_rfl) (by kernel_rfl)
 ·cases h;exact zK Tryz.func28 rfl (by kernel_rfl) rfl (by kernel_rfl) (by kernel_rfl)
 ·cases h;exact zK Tryz.func29 rfl (by kernel_rfl) rfl (by kernel_rfl) (by kernel_rfl)
 ·cases h;exact zK Tryz.func31 rfl (by kernel_rfl) rfl (by kernel_rfl) (by kernel_rfl)
 ·cases h;exact zK Tryz.func32 rfl (by kernel_rfl) rfl (by kernel_rfl) (by kernel_rfl)
 ·cases h;exact zK Tryz.func33 rfl (by kernel_rfl) rfl (by kernel_rfl) (by kernel_rfl)
 ·cases h;exact zK Tryz.func34 rfl (by kernel_rfl) rfl (by kernel_rfl) (by kernel_rfl)
 ·cases h;exact zK Tryz.func35 rfl (by kernel_rfl) rfl (by kernel_rfl) (by kernel_rfl)
 ·cases h;exact zK Tryz.func36 rfl (by kernel_rfl) rfl (by kernel_rfl) (by kernel_rfl)
 ·cases h;exact zK Tryz.func37 rfl (by kernel_rfl) rfl (by kernel_rfl) (by kernel_rfl)
 ·cases h;exact zK Tryz.func38 rfl (by kernel_rfl) rfl (by kernel_rfl) (by kernel_rfl)
 ·cases h;exact zK Tryz.func39 rfl (by kernel_rfl) rfl (by kernel_rfl) (by kernel_rfl)
 ·cases h;exact zK Tryz.func40 rfl (by kernel_rfl) rfl (by kernel_rfl) (by kernel_rfl)
 ·cases h;exact zK Tryz.func41 rfl (by kernel_rfl) rfl (by kernel_rfl) (by kernel_rfl)
 ·cases h;exact zK Tryz.func42 rfl (by kernel_rfl) rfl (by kernel_rfl) (by kernel_rfl)
 ·cases h;exact zK Tryz.func43 rfl (by kernel_rfl) rfl (by kernel_rfl) (by kernel_rfl)
 ·cases h;exact zK Tryz.func44 rfl (by kernel_rfl) rfl (by kernel_rfl) (by kernel_rfl)
 ·cases h;exact zK Tryz.func45 rfl (by kernel_rfl) rfl (by kernel_rfl) (by kernel_rfl)
 ·cases h;exact zK Tryz.func46 rfl (by kernel_rfl) rfl (by kernel_rfl) (by kernel_rfl)
 ·cases h;exact zK Tryz.func47 rfl (by kernel_rfl) rfl (by kernel_rfl) (by kernel_rfl)
 ·cases h;exact zK Tryz.func50 rfl (by kernel_rfl) rfl (by kernel_rfl) (by kernel_rfl)
 ·cases h;exact zK Tryz.func51 rfl (by kernel_rfl) rfl (by kernel_rfl) (by kernel_rfl)
 ·cases h;exact zK Tryz.func52 rfl (by kernel_rfl) rfl (by kernel_rfl) (by kernel_rfl)
 ·cases h;exact zK Tryz.func55 rfl (by kernel_rfl) rfl (by kernel_rfl) (by kernel_rfl)
 ·cases h;exact zK Tryz.func56 rfl (by kernel_rfl) rfl (by kernel_rfl) (by kernel_rfl)
 ·cases h;exact zK Tryz.func57 rfl (by kernel_rfl) rfl (by kernel_rfl) (by kernel_rfl)
 ·cases h;exact zK Tryz.func58 rfl (by kernel_rfl) rfl (by kernel_rfl) (by kernel_rfl)
 ·cases h;exact zK Tryz.func59 rfl (by kernel_rfl) rfl (by kernel_rfl) (by kernel_rfl)
 ·cases h;exact zK Tryz.func60 rfl (by kernel_rfl) rfl (by kernel_rfl) (by kernel_rfl)
 ·cases h;exact zK Tryz.func61 rfl (by kernel_rfl) rfl (by kernel_rfl) (by kernel_rfl)
 ·cases h;exact zK Tryz.func62 rfl (by kernel_rfl) rfl (by kernel_rfl) (by kernel_rfl)
 ·cases h;exact zK Tryz.func63 rfl (by kernel_rfl) rfl (by kernel_rfl) (by kernel_rfl)
 ·cases h;exact zK Tryz.func64 rfl (by kernel_rfl) rfl (by kernel_rfl) (by kernel_rfl)
 ·cases h;exact zK Tryz.func65 rfl (by kernel_rfl) rfl (by kernel_rfl) (by kernel_rfl)
 ·cases h;exact zK Tryz.func70 rfl (by kernel_rfl) rfl (by kernel_rfl) (by kernel_rfl)
 ·cases h;exact zK Tryz.func72 rfl (by kernel_rfl) rfl (by kernel_rfl) (by kernel_rfl)
 ·cases h;exact zK Tryz.func73 rfl (by kernel_rfl) rfl (by kernel_rfl) (by kernel_rfl)
 ·cases h;exact zK Tryz.func74 rfl (by kernel_rfl) rfl (by kernel_rfl) (by kernel_rfl)
 ·cases h;exact zK Tryz.func77 rfl (by kernel_rfl) rfl (by kernel_rfl) (by kernel_rfl)
 ·cases h;exact zK Tryz.func78 rfl (by kernel_rfl) rfl (by kernel_rfl) (by kernel_rfl)
 ·cases h;exact zK Tryz.func79 rfl (by kernel_rfl) rfl (by kernel_rfl) (by kernel_rfl)
 ·cases h;exact zK Tryz.func80 rfl (by kernel_rfl) rfl (by kernel_rfl) (by kernel_rfl)
 ·cases h;exact zK Tryz.func81 rfl (by kernel_rfl) rfl (by kernel_rfl) (by kernel_rfl)
 ·cases h;exact zK Tryz.func82 rfl (by kernel_rfl) rfl (by kernel_rfl) (by kernel_rfl)
 ·cases h;exact zK Tryz.func83 rfl (by kernel_rfl) rfl (by kernel_rfl) (by kernel_rfl)
 ·cases h;exact zK Tryz.func91 rfl (by kernel_rfl) rfl (by kernel_rfl) (by kernel_rfl)
 ·cases h;exact zK Tryz.func92 rfl (by kernel_rfl) rfl (by kernel_rfl) (by kernel_rfl)
 ·cases h;exact zK Tryz.func93 rfl (by kernel_rfl) rfl (by kernel_rfl) (by kernel_rfl)
 ·cases h;exact zK Tryz.func98 rfl (by kernel_rfl) rfl (by kernel_rfl) (by kernel_rfl)
 ·cases h;exact zK Tryz.func99 rfl (by kernel_rfl) rfl (by kernel_rfl) (by kernel_rfl)
 ·cases h;exact zK Tryz.func103 rfl (by kernel_rfl) rfl (by kernel_rfl) (by kernel_rfl)
 ·cases h
end Go.Proofs.YtimmmnanllcfoaaGreatDoor
namespace Go.Proofs
open Go.Shelf
def Tryz.lays156_ren:Go.Shelf.Ren:=⟨fun|156=>71|165=>90|166=>13|169=>17|240=>29|241=>102|276=>48|277=>106|n=>n,fun|31=>56|9=>9|3=>3|4=>4|0=>0|20=>20|72=>46|76=>49|70=>43|37=>44|75=>48|127=>73|164=>95|5=>5|80=>54|n=>n,fun|n=>n⟩
theorem Tryz.lays156:Go.Proofs.Lays.n156 Tryz.prog Tryz.lays156_ren:={
 mixed:=by kernel_rfl
 f156:=Tryz.func71.trans (congrArg some (by kernel_rfl))
 f165:=Tryz.func90.trans (congrArg some (by kernel_rfl))
 f166:=Tryz.func13.trans (congrArg some (by kernel_rfl))
 f169:=Tryz.func17.trans (congrArg some (by kernel_rfl))
 f240:=Tryz.func29.trans (congrArg some (by kernel_rfl))
 f241:=Tryz.func102.trans (congrArg some (by kernel_rfl))
 f276:=Tryz.func48.trans (congrArg some (by kernel_rfl))
 f277:=Tryz.func106.trans (congrArg some (by kernel_rfl))
 t0:=Tryz.underlying0
 a0:=Tryz.isAgg0
 z0:=Tryz.sizeOf0
 v0:=Tryz.zeroValue0
 t3:=Tryz.underlying3
 a3:=Tryz.isAgg3
 z3:=Tryz.sizeOf3
 v3:=Tryz.zeroValue3
 t4:=Tryz.underlying4
 a4:=Tryz.isAgg4
 z4:=Tryz.sizeOf4
 v4:=Tryz.zeroValue4
 t9:=Tryz.underlying9
 a9:=Tryz.isAgg9
 z9:=Tryz.sizeOf9
 v9:=Tryz.zeroValue9
 t20:=Tryz.underlying20
 a20:=Tryz.isAgg20
 z20:=Tryz.sizeOf20
 v20:=Tryz.zeroValue20
 t31:=Tryz.underlying56
 a31:=Tryz.isAgg56
 z31:=Tryz.sizeOf56
 v31:=Tryz.zeroValue56
 t37:=Tryz.underlying44
 a37:=Tryz.isAgg44
 z37:=Tryz.sizeOf44
 v37:=Tryz.zeroValue44
 t70:=Tryz.underlying43
 a70:=Tryz.isAgg43
 z70:=Tryz.sizeOf43
 v70:=Tryz.zeroValue43
 t72:=Tryz.underlying46
 a72:=Tryz.isAgg46
 z72:=Tryz.sizeOf46
 v72:=Tryz.zeroValue46
 t75:=Tryz.underlying48
 a75:=Tryz.isAgg48
 z75:=Tryz.sizeOf48
 v75:=Tryz.zeroValue48
 t76:=Tryz.underlying49
 a76:=Tryz.isAgg49
 z76:=Tryz.sizeOf49
 v76:=Tryz.zeroValue49
 t127:=Tryz.underlying73
 a127:=Tryz.isAgg73
 z127:=Tryz.sizeOf73
 v127:=Tryz.zeroValue73
 t164:=Tryz.underlying95
 a164:=Tryz.isAgg95
 z164:=Tryz.sizeOf95
 v164:=Tryz.zeroValue95}
theorem Tryz.Builder_Extra_156:Builder.Extra Tryz.prog Tryz.lays156_ren:={
 sizeBuilder:=by kernel_rfl
 liesBuilder:=by kernel_rfl
 t5:=Tryz.underlying5
 a5:=Tryz.isAgg5
 z5:=Tryz.sizeOf5
 v5:=Tryz.zeroValue5
 infoByte:=by kernel_rfl
 cellsByte:=by kernel_rfl
 sizeByte:=by kernel_rfl
 neB5:=by decide}
open Go.RowKit in
theorem Tryz.strings_Join_none (a:Option Addr) (c:Nat) (sep:ByteArray) (w:World):
  Calls Tryz.prog 71 #[.slice a 0 c,.string sep] w fun e w'=>e= .returned (.string ⟨#[]⟩)∧w'=w:=Any.strings_Join_none Tryz.lays156 Tryz.Builder_Extra_156 a c sep w
open Go.RowKit in
theorem Tryz.strings_Join (bk o c:Nat) (xs:List ByteArray) (sep:ByteArray) (w:World) (hcells:∀ (j:Nat) x,xs[j]? =some x→w.cell? ⟨bk,o+j,none⟩=some (.string x)) (hbk:bk<w.heap.size) (hN:xs.length≤140737488355328) (hcap:xs.length≤c) (hlen:(Lib.join (xs.map (·.data.toList)) sep.data.toList).length≤140737488355328):
  Calls Tryz.prog 71 #[.slice (some ⟨bk,o,none⟩) xs.length c,.string sep] w fun e w'=>e= .returned (.string ⟨(Lib.join (xs.map (·.data.toList)) sep.data.toList).toArray⟩)∧Below w.heap.size w w':=Any.strings_Join Tryz.lays156 Tryz.Builder_Extra_156 bk o c xs sep w hcells hbk hN hcap hlen
def Tryz.laysM171_ren:Go.Shelf.Ren:=⟨fun|171=>14|243=>30|246=>49|283=>66|284=>67|285=>68|286=>69|129=>85|317=>84|318=>86|319=>87|320=>88|337=>100|338=>101|n=>n,fun|3=>3|9=>9|2=>2|4=>4|171=>114|0=>0|53=>115|37=>44|5=>5|173=>118|212=>135|51=>136|20=>20|213=>137|46=>139|232=>151|233=>152|n=>n,fun|17=>0|18=>4|19=>5|n=>n⟩
theorem Tryz.laysM171:Go.Proofs.LaysM.n171 Tryz.prog Tryz.laysM171_ren:={
 mixed:=by kernel_rfl
 f129:=Tryz.func85.trans (congrArg some (by kernel_rfl))
 f171:=Tryz.func14.trans (congrArg some (by kernel_rfl))
 f243:=Tryz.func30.trans (congrArg some (by kernel_rfl))
 f246:=Tryz.func49.trans (congrArg some (by kernel_rfl))
 f283:=Tryz.func66.trans (congrArg some (by kernel_rfl))
 f284:=Tryz.func67.trans (congrArg some (by kernel_rfl))
 f285:=Tryz.func68.trans (congrArg some (by kernel_rfl))
 f286:=Tryz.func69.trans (congrArg some (by kernel_rfl))
 f317:=Tryz.func84.trans (congrArg some (by kernel_rfl))
 f318:=Tryz.func86.trans (congrArg some (by kernel_rfl))
 f319:=Tryz.func87.trans (congrArg some (by kernel_rfl))
 f320:=Tryz.func88.trans (congrArg some (by kernel_rfl))
 f337:=Tryz.func100.trans (congrArg some (by kernel_rfl))
 f338:=Tryz.func101.trans (congrArg some (by kernel_rfl))
 t0:=Tryz.underlying0
 a0:=Tryz.isAgg0
 z0:=Tryz.sizeOf0
 v0:=Tryz.zeroValue0
 t2:=Tryz.underlying2
 a2:=Tryz.isAgg2
 z2:=Tryz.sizeOf2
 v2:=Tryz.zeroValue2
 t3:=Tryz.underlying3
 a3:=Tryz.isAgg3
 z3:=Tryz.sizeOf3
 v3:=Tryz.zeroValue3
 t4:=Tryz.underlying4
 a4:=Tryz.isAgg4
 z4:=Tryz.sizeOf4
 v4:=Tryz.zeroValue4
 t5:=Tryz.underlying5
 a5:=Tryz.isAgg5
 z5:=Tryz.sizeOf5
 v5:=Tryz.zeroValue5
 t9:=Tryz.underlying9
 a9:=Tryz.isAgg9
 z9:=Tryz.sizeOf9
 v9:=Tryz.zeroValue9
 t20:=Tryz.underlying20
 a20:=Tryz.isAgg20
 z20:=Tryz.sizeOf20
 v20:=Tryz.zeroValue20
 t37:=Tryz.underlying44
 a37:=Tryz.isAgg44
 z37:=Tryz.sizeOf44
 v37:=Tryz.zeroValue44
 t46:=Tryz.underlying139
 a46:=Tryz.isAgg139
 z46:=Tryz.sizeOf139
 v46:=Tryz.zeroValue139
 t51:=Tryz.underlying136
 a51:=Tryz.isAgg136
 z51:=Tryz.sizeOf136
 v51:=Tryz.zeroValue136
 t53:=Tryz.underlying115
 a53:=Tryz.isAgg115
 z53:=Tryz.sizeOf115
 v53:=Tryz.zeroValue115
 t171:=Tryz.underlying114
 a171:=Tryz.isAgg114
 z171:=Tryz.sizeOf114
 v171:=Tryz.zeroValue114
 t173:=Tryz.underlying118
 a173:=Tryz.isAgg118
 z173:=Tryz.sizeOf118
 v173:=Tryz.zeroValue118
 t212:=Tryz.underlying135
 a212:=Tryz.isAgg135
 z212:=Tryz.sizeOf135
 v212:=Tryz.zeroValue135
 t213:=Tryz.underlying137
 a213:=Tryz.isAgg137
 z213:=Tryz.sizeOf137
 t232:=Tryz.underlying151
 a232:=Tryz.isAgg151
 z232:=Tryz.sizeOf151
 v232:=Tryz.zeroValue151
 t233:=Tryz.underlying152
 a233:=Tryz.isAgg152
 z233:=Tryz.sizeOf152
 v233:=Tryz.zeroValue152
 g17:=by kernel_rfl
 g18:=by kernel_rfl
 g19:=by kernel_rfl
 i0:=by kernel_rfl
 i2:=by kernel_rfl
 i3:=by kernel_rfl
 i4:=by kernel_rfl
 i5:=by kernel_rfl
 i9:=by kernel_rfl
 i20:=by kernel_rfl
 i37:=by kernel_rfl
 i46:=by kernel_rfl
 i51:=by kernel_rfl
 i53:=by kernel_rfl
 i171:=by kernel_rfl
 i173:=by kernel_rfl
 i212:=by kernel_rfl
 i232:=by kernel_rfl
 i233:=by kernel_rfl
 m17:=by kernel_rfl
 m18:=by kernel_rfl
 m19:=by kernel_rfl}
open Go.RowKit Go.Sort Go.Lib in
theorem Tryz.strconv_Itoa (n:Int) (h0: -9223372036854775808≤n) (h1:n≤9223372036854775807) (w:World) (htab:Lib.TabIs Tryz.prog w "internal/strconv.uint64pow10" .u64 Lib.pow10Tab):
  Calls Tryz.prog 14 #[.int .i64 n] w fun e w'=>e= .returned (.string ⟨(Lib.itoa n).toArray⟩)∧∃ k os,w'=grow (w.drewN k) os:=Any.strconv_Itoa Tryz.laysM171 n h0 h1 w htab
def Tryz.lays143_ren:Go.Shelf.Ren:=⟨fun|143=>54|219=>76|217=>94|225=>95|224=>96|267=>97|266=>104|314=>105|n=>n,fun|9=>9|3=>3|4=>4|5=>5|46=>139|146=>149|51=>136|n=>n,fun|1=>1|n=>n⟩
theorem Tryz.lays143:Go.Proofs.Lays.n143 Tryz.prog Tryz.lays143_ren:={
 mixed:=by kernel_rfl
 f143:=Tryz.func54.trans (congrArg some (by kernel_rfl))
 f217:=Tryz.func94.trans (congrArg some (by kernel_rfl))
 f219:=Tryz.func76.trans (congrArg some (by kernel_rfl))
 f224:=Tryz.func96.trans (congrArg some (by kernel_rfl))
 f225:=Tryz.func95.trans (congrArg some (by kernel_rfl))
 f266:=Tryz.func104.trans (congrArg some (by kernel_rfl))
 f267:=Tryz.func97.trans (congrArg some (by kernel_rfl))
 f314:=Tryz.func105.trans (congrArg some (by kernel_rfl))
 t3:=Tryz.underlying3
 a3:=Tryz.isAgg3
 z3:=Tryz.sizeOf3
 v3:=Tryz.zeroValue3
 t4:=Tryz.underlying4
 a4:=Tryz.isAgg4
 z4:=Tryz.sizeOf4
 v4:=Tryz.zeroValue4
 t5:=Tryz.underlying5
 a5:=Tryz.isAgg5
 z5:=Tryz.sizeOf5
 v5:=Tryz.zeroValue5
 t9:=Tryz.underlying9
 a9:=Tryz.isAgg9
 z9:=Tryz.sizeOf9
 v9:=Tryz.zeroValue9
 t46:=Tryz.underlying139
 a46:=Tryz.isAgg139
 z46:=Tryz.sizeOf139
 v46:=Tryz.zeroValue139
 t51:=Tryz.underlying136
 a51:=Tryz.isAgg136
 z51:=Tryz.sizeOf136
 v51:=Tryz.zeroValue136
 t146:=Tryz.underlying149
 a146:=Tryz.isAgg149
 z146:=Tryz.sizeOf149
 v146:=Tryz.zeroValue149
 g1:=by kernel_rfl}
open Go.RowKit Go.Lib in
theorem Tryz.strings_Index (s sub:ByteArray) (m:Int) (w:World) (hs:s.size<4294967281) (hm:w.cell? ⟨1,0,none⟩=some (.int .i64 m)):
  Calls Tryz.prog 54 #[.string s,.string sub] w fun e w'=>e= .returned (.int .i64 (Lib.index s.data.toList sub.data.toList))∧w'=w:=Any.strings_Index Tryz.lays143 s sub m w hs hm
def Tryz.lays138_ren:Go.Shelf.Ren:=⟨fun|138=>53|195=>73|218=>75|143=>54|219=>76|217=>94|225=>95|224=>96|267=>97|266=>104|314=>105|n=>n,fun|9=>9|3=>3|4=>4|5=>5|0=>0|46=>139|146=>149|51=>136|n=>n,fun|1=>1|n=>n⟩
theorem Tryz.lays138:Go.Proofs.Lays.n138 Tryz.prog Tryz.lays138_ren:={
 mixed:=by kernel_rfl
 f138:=Tryz.func53.trans (congrArg some (by kernel_rfl))
 f143:=Tryz.func54.trans (congrArg some (by kernel_rfl))
 f195:=Tryz.func73.trans (congrArg some (by kernel_rfl))
 f217:=Tryz.func94.trans (congrArg some (by kernel_rfl))
 f218:=Tryz.func75.trans (congrArg some (by kernel_rfl))
 f219:=Tryz.func76.trans (congrArg some (by kernel_rfl))
 f224:=Tryz.func96.trans (congrArg some (by kernel_rfl))
 f225:=Tryz.func95.trans (congrArg some (by kernel_rfl))
 f266:=Tryz.func104.trans (congrArg some (by kernel_rfl))
 f267:=Tryz.func97.trans (congrArg some (by kernel_rfl))
 f314:=Tryz.func105.trans (congrArg some (by kernel_rfl))
 t0:=Tryz.underlying0
 a0:=Tryz.isAgg0
 z0:=Tryz.sizeOf0
 v0:=Tryz.zeroValue0
 t3:=Tryz.underlying3
 a3:=Tryz.isAgg3
 z3:=Tryz.sizeOf3
 v3:=Tryz.zeroValue3
 t4:=Tryz.underlying4
 a4:=Tryz.isAgg4
 z4:=Tryz.sizeOf4
 v4:=Tryz.zeroValue4
 t5:=Tryz.underlying5
 a5:=Tryz.isAgg5
 z5:=Tryz.sizeOf5
 v5:=Tryz.zeroValue5
 t9:=Tryz.underlying9
 a9:=Tryz.isAgg9
 z9:=Tryz.sizeOf9
 v9:=Tryz.zeroValue9
 t46:=Tryz.underlying139
 a46:=Tryz.isAgg139
 z46:=Tryz.sizeOf139
 v46:=Tryz.zeroValue139
 t51:=Tryz.underlying136
 a51:=Tryz.isAgg136
 z51:=Tryz.sizeOf136
 v51:=Tryz.zeroValue136
 t146:=Tryz.underlying149
 a146:=Tryz.isAgg149
 z146:=Tryz.sizeOf149
 v146:=Tryz.zeroValue149
 g1:=by kernel_rfl}
open Go.RowKit Go.Lib in
theorem Tryz.strings_Count_any (s sep:ByteArray) (m:Int) (w:World) (hs:s.size<4294967281) (hm:w.cell? ⟨1,0,none⟩=some (.int .i64 m)) (h1:1≤sep.size):
  Calls Tryz.prog 53 #[.string s,.string sep] w fun e w'=>e= .returned (.int .i64 (Lib.countB s sep))∧w'=w:=Any.strings_Count_any Tryz.lays138 s sep m w hs hm h1
def Tryz.lays154_ren:Go.Shelf.Ren:=⟨fun|154=>89|138=>53|165=>90|143=>54|166=>13|197=>74|169=>17|195=>73|218=>75|240=>29|241=>102|219=>76|260=>93|276=>48|277=>106|217=>94|225=>95|224=>96|267=>97|266=>104|314=>105|n=>n,fun|9=>9|3=>3|4=>4|72=>46|0=>0|76=>49|105=>123|21=>21|5=>5|70=>43|20=>20|37=>44|75=>48|127=>73|164=>95|46=>139|119=>145|139=>148|138=>147|146=>149|51=>136|80=>54|n=>n,fun|1=>1|3=>2|4=>3|n=>n⟩
theorem Tryz.lays154:Go.Proofs.Lays.n154 Tryz.prog Tryz.lays154_ren:={
 mixed:=by kernel_rfl
 f138:=Tryz.func53.trans (congrArg some (by kernel_rfl))
 f143:=Tryz.func54.trans (congrArg some (by kernel_rfl))
 f154:=Tryz.func89.trans (congrArg some (by kernel_rfl))
 f165:=Tryz.func90.trans (congrArg some (by kernel_rfl))
 f166:=Tryz.func13.trans (congrArg some (by kernel_rfl))
 f169:=Tryz.func17.trans (congrArg some (by kernel_rfl))
 f195:=Tryz.func73.trans (congrArg some (by kernel_rfl))
 f197:=Tryz.func74.trans (congrArg some (by kernel_rfl))
 f217:=Tryz.func94.trans (congrArg some (by kernel_rfl))
 f218:=Tryz.func75.trans (congrArg some (by kernel_rfl))
 f219:=Tryz.func76.trans (congrArg some (by kernel_rfl))
 f224:=Tryz.func96.trans (congrArg some (by kernel_rfl))
 f225:=Tryz.func95.trans (congrArg some (by kernel_rfl))
 f240:=Tryz.func29.trans (congrArg some (by kernel_rfl))
 f241:=Tryz.func102.trans (congrArg some (by kernel_rfl))
 f260:=Tryz.func93.trans (congrArg some (by kernel_rfl))
 f266:=Tryz.func104.trans (congrArg some (by kernel_rfl))
 f267:=Tryz.func97.trans (congrArg some (by kernel_rfl))
 f276:=Tryz.func48.trans (congrArg some (by kernel_rfl))
 f277:=Tryz.func106.trans (congrArg some (by kernel_rfl))
 f314:=Tryz.func105.trans (congrArg some (by kernel_rfl))
 t0:=Tryz.underlying0
 a0:=Tryz.isAgg0
 z0:=Tryz.sizeOf0
 v0:=Tryz.zeroValue0
 t3:=Tryz.underlying3
 a3:=Tryz.isAgg3
 z3:=Tryz.sizeOf3
 v3:=Tryz.zeroValue3
 t4:=Tryz.underlying4
 a4:=Tryz.isAgg4
 z4:=Tryz.sizeOf4
 v4:=Tryz.zeroValue4
 t5:=Tryz.underlying5
 a5:=Tryz.isAgg5
 z5:=Tryz.sizeOf5
 v5:=Tryz.zeroValue5
 t9:=Tryz.underlying9
 a9:=Tryz.isAgg9
 z9:=Tryz.sizeOf9
 v9:=Tryz.zeroValue9
 t20:=Tryz.underlying20
 a20:=Tryz.isAgg20
 z20:=Tryz.sizeOf20
 v20:=Tryz.zeroValue20
 t21:=Tryz.underlying21
 a21:=Tryz.isAgg21
 z21:=Tryz.sizeOf21
 v21:=Tryz.zeroValue21
 t37:=Tryz.underlying44
 a37:=Tryz.isAgg44
 z37:=Tryz.sizeOf44
 v37:=Tryz.zeroValue44
 t46:=Tryz.underlying139
 a46:=Tryz.isAgg139
 z46:=Tryz.sizeOf139
 v46:=Tryz.zeroValue139
 t51:=Tryz.underlying136
 a51:=Tryz.isAgg136
 z51:=Tryz.sizeOf136
 v51:=Tryz.zeroValue136
 t70:=Tryz.underlying43
 a70:=Tryz.isAgg43
 z70:=Tryz.sizeOf43
 v70:=Tryz.zeroValue43
 t72:=Tryz.underlying46
 a72:=Tryz.isAgg46
 z72:=Tryz.sizeOf46
 v72:=Tryz.zeroValue46
 t75:=Tryz.underlying48
 a75:=Tryz.isAgg48
 z75:=Tryz.sizeOf48
 v75:=Tryz.zeroValue48
 t76:=Tryz.underlying49
 a76:=Tryz.isAgg49
 z76:=Tryz.sizeOf49
 v76:=Tryz.zeroValue49
 t105:=Tryz.underlying123
 a105:=Tryz.isAgg123
 z105:=Tryz.sizeOf123
 v105:=Tryz.zeroValue123
 t119:=Tryz.underlying145
 a119:=Tryz.isAgg145
 z119:=Tryz.sizeOf145
 t127:=Tryz.underlying73
 a127:=Tryz.isAgg73
 z127:=Tryz.sizeOf73
 v127:=Tryz.zeroValue73
 t138:=Tryz.underlying147
 a138:=Tryz.isAgg147
 z138:=Tryz.sizeOf147
 v138:=Tryz.zeroValue147
 t139:=Tryz.underlying148
 a139:=Tryz.isAgg148
 z139:=Tryz.sizeOf148
 v139:=Tryz.zeroValue148
 t146:=Tryz.underlying149
 a146:=Tryz.isAgg149
 z146:=Tryz.sizeOf149
 v146:=Tryz.zeroValue149
 t164:=Tryz.underlying95
 a164:=Tryz.isAgg95
 z164:=Tryz.sizeOf95
 v164:=Tryz.zeroValue95
 g1:=by kernel_rfl
 g3:=by kernel_rfl
 g4:=by kernel_rfl}
theorem Tryz.Builder_Extra_154:Builder.Extra Tryz.prog Tryz.lays154_ren:={
 sizeBuilder:=by kernel_rfl
 liesBuilder:=by kernel_rfl
 t5:=Tryz.underlying5
 a5:=Tryz.isAgg5
 z5:=Tryz.sizeOf5
 v5:=Tryz.zeroValue5
 infoByte:=by kernel_rfl
 cellsByte:=by kernel_rfl
 sizeByte:=by kernel_rfl
 neB5:=by decide}
open Go.RowKit Go.Lib in
theorem Tryz.strings_Replace (s old new:ByteArray) (n:Int) (m:Int) (w:World) (hs:s.size<4294967281) (hm:w.cell? ⟨1,0,none⟩=some (.int .i64 m)) (h1:1≤old.size) (hlen:s.size+Lib.countB s old*new.size≤140737488355328):
  Calls Tryz.prog 89 #[.string s,.string old,.string new,.int .i64 n] w fun e w'=>
   e= .returned (.string ⟨(Lib.replace s.data.toList old.data.toList new.data.toList n).toArray⟩)∧Below w.heap.size w w':=Any.strings_Replace Tryz.lays154 Tryz.Builder_Extra_154 s old new n m w hs hm h1 hlen
end Go.Proofs
namespace Go.Proofs.YtimmmnanllcfoaaGreatDoor
open Go Go.Itp
open Go.RowKit (Below)
set_option maxRecDepth 100000
set_option linter.unusedVariables false
theorem own:ownKnob Tryz.prog.godebug=none:=by kernel_rfl
theorem mixed:Tryz.prog.follows .mixedOrders=true:=by kernel_rfl
def UX:List (FuncId × KT × TypeId):= [(48,.same,0),(104,.indexByte,0),(75,.count,0),(106,.makeNoZero,5)]
theorem aG5:uX Tryz.prog UX:=
 ⟨⟨⟨Tryz.f48,Tryz.func48,by kernel_rfl,by kernel_rfl,by kernel_rfl,rfl⟩⟩,⟨⟨Tryz.f104,Tryz.func104,by kernel_rfl,by kernel_rfl,by kernel_rfl,rfl⟩⟩,⟨⟨Tryz.f75,Tryz.func75,by kernel_rfl,by kernel_rfl,by kernel_rfl,rfl⟩⟩,
  ⟨⟨Tryz.f106,Tryz.func106,by kernel_rfl,by kernel_rfl,#[3],44,by kernel_rfl,rfl,Tryz.underlying44⟩⟩,trivial⟩
def cB7:FuncId→List Value→St→Option (Value × List u5):=V1 (fnP 54 NX) (V1 (fnP 53 LX) (fnP 89 yZ))
def BZ (w:World):Prop:=∃ m:Int,w.cell? ⟨1,0,none⟩=some (.int .i64 m)
theorem BZ.below {w w':World} (h:BZ w) (hb:Below w.heap.size w w'):BZ w':=by
 obtain ⟨m,h⟩:=h
 exact ⟨m,by rw[hb.cell (World.block_lt_of_cell? _ _ h)];exact h⟩
theorem bG3 {w0:World} (h:BZ w0):R9 Tryz.prog cB7 w0:=by
 refine dY (TZ ⟨Tryz.f54,_,Tryz.func54,rfl,by kernel_rfl⟩ ?_ ?_) (dY (TZ ⟨Tryz.f53,_,Tryz.func53,rfl,by kernel_rfl⟩ ?_ ?_) (TZ ⟨Tryz.f89,_,Tryz.func89,rfl,by kernel_rfl⟩ ?_ ?_))
 ·intro xs v e
  unfold NX at e
  split at e
  ·split at e
   ·cases e;exact ⟨rfl,rfl⟩
   ·cases e
  ·cases e
 ·intro xs v e w hb
  unfold NX at e
  split at e
  ·split at e
   ·cases e
    obtain ⟨m,hm⟩:=h.below hb
    refine (Tryz.strings_Index _ _ m w ‹_› hm).mono fun e w' ⟨h1,h2⟩=>⟨h1,?_⟩
    rw[h2];exact Below.refl _ _
   ·cases e
  ·cases e
 ·intro xs v e
  unfold LX at e
  split at e
  ·split at e
   ·cases e;exact ⟨rfl,rfl⟩
   ·cases e
  ·cases e
 ·intro xs v e w hb
  unfold LX at e
  split at e
  ·split at e
   ·rename_i hc
    cases e
    obtain ⟨m,hm⟩:=h.below hb
    refine (Tryz.strings_Count_any _ _ m w hc.1 hm hc.2).mono fun e w' ⟨h1,h2⟩=>⟨h1,?_⟩
    rw[h2];exact Below.refl _ _
   ·cases e
  ·cases e
 ·intro xs v e
  unfold yZ at e
  split at e
  ·split at e
   ·cases e;exact ⟨rfl,rfl⟩
   ·cases e
  ·cases e
 ·intro xs v e w hb
  unfold yZ at e
  split at e
  ·split at e
   ·rename_i hc
    cases e
    obtain ⟨m,hm⟩:=h.below hb
    exact Tryz.strings_Replace _ _ _ _ m w hc.1 hm hc.2.1 hc.2.2
   ·cases e
  ·cases e
noncomputable abbrev PR (w:World):FuncId→List Value→St→Option (Value × List u5):=
 V1 (pP UX) (V1 cB7 (V1 (OC 14) (DT (K4 w) 71)))
noncomputable abbrev EN (w:World) (n:Nat):E6:=x6 (K4 w) A4 fns (PR w) n
abbrev Tab (w:World):Prop:=Lib.TabIs Tryz.prog w "internal/strconv.uint64pow10" .u64 Lib.pow10Tab∧BZ w
theorem aU6 (W:World) (ht:Tab W):R9 Tryz.prog (PR W) W:=
 dY (yO UX aG5 W) (dY (bG3 ht.2) (dY
  (aR7 ⟨Tryz.f14,_,Tryz.func14,rfl,by kernel_rfl⟩ ht.1 Tryz.strconv_Itoa)
  (aR8 ⟨Tryz.f71,_,Tryz.func71,rfl,by kernel_rfl⟩ (OT W) Tryz.strings_Join_none Tryz.strings_Join)))
theorem bT0 {W:World} (ht:Tab W) {f:FuncId} {af:n7} (hf:fns f=some af) {xs:List Value} (hxs:y6 0 xs= []) (n:Nat) {v:Value} {s':St} (hb:body (EN W n) af xs St.empty=some (v,s')) (hv:r9 0 v= []):
  Calls Tryz.prog f xs.toArray W fun e w'=>e= .returned v∧Below W.heap.size W w':=
 bS9 mixed bS0 (OT W) (aU6 W ht) hf hxs n hb hv
theorem UE (w:World) (n:Nat) (st:l9) (k:Int) (h0: -9223372036854775808≤k) (h1:k≤9223372036854775807):H1 (EN w (n+1)) 14 st [.sc (.int .i64 k)] (.sc (.string ⟨(Lib.itoa k).toArray⟩)):=
 bS3 h0 h1 fun xs s r h=>D7 rfl (D7 rfl (T4 h))
theorem bS5 (w:World) (n:Nat) (st:l9) (s:Nat) (hs:s ≠ 1) (ls:List (List UInt8)) (sep:List UInt8) (hl:ls.length≤1099511627776) (hlen:(Lib.join ls sep).length≤140737488355328):
  H1 (EN w (n+1)) 71 st [.sl s ls.length (ls.map sD),.sc (.string ⟨sep.toArray⟩)] (.sc (.string ⟨(Lib.join ls sep).toArray⟩)):=
 bS4 s hs ls sep hl hlen fun xs s r h=>D7 rfl (D7 rfl (D7 rfl h))
abbrev m6 (l:List UInt8):V:= .sc (.string ⟨l.toArray⟩)
theorem YF (w:World) (n:Nat) (st:l9) (l t:List UInt8) (hl:l.length≤1000000000):H1 (EN w (n+1)) 54 st [m6 l,m6 t] (.sc (.int .i64 (Lib.index l t))):=
 bR9 (F:=NX) (v:= .int .i64 (Lib.index l t)) (ys:= [.string ⟨l.toArray⟩,.string ⟨t.toArray⟩]) (by simp only[NX];rw[if_pos (by rw[n4];omega)]) rfl fun xs s r h=>D7 rfl (T4 (T4 h))
theorem WW (w:World) (n:Nat) (st:l9) (l t:List UInt8) (hl:l.length≤1000000000) (ht:1≤t.length):H1 (EN w (n+1)) 53 st [m6 l,m6 t] (.sc (.int .i64 (Lib.countB ⟨l.toArray⟩ ⟨t.toArray⟩))):=
 bR9 (F:=LX) (v:= .int .i64 (Lib.countB ⟨l.toArray⟩ ⟨t.toArray⟩)) (ys:= [.string ⟨l.toArray⟩,.string ⟨t.toArray⟩]) (by simp only[LX];rw[if_pos ⟨by rw[n4];omega,by rw[n4];omega⟩]) rfl fun xs s r h=>D7 rfl (T4 (D7 rfl (T4 h)))
theorem VD (w:World) (n:Nat) (st:l9) (l t u:List UInt8) (k:Int) (hl:l.length≤1000000) (ht:1≤t.length) (hu:l.length+Lib.countB ⟨l.toArray⟩ ⟨t.toArray⟩*u.length≤140737488355328):H1 (EN w (n+1)) 89 st [m6 l,m6 t,m6 u,.sc (.int .i64 k)] (m6 (Lib.replace l t u k)):=
 bR9 (F:=yZ) (v:= .string ⟨(Lib.replace l t u k).toArray⟩) (ys:= [.string ⟨l.toArray⟩,.string ⟨t.toArray⟩,.string ⟨u.toArray⟩,.int .i64 k]) (by simp only[yZ];rw[if_pos ⟨by rw[n4];omega,by rw[n4];omega,by rw[n4,n4];exact hu⟩]) rfl fun xs s r h=>D7 rfl (T4 (D7 rfl (D7 rfl h)))
end Go.Proofs.YtimmmnanllcfoaaGreatDoor
namespace Go.Itp
set_option linter.unusedVariables false
set_option linter.unusedSimpArgs false
set_option maxRecDepth 10000
structure p7 where
 kind:Nat
 purl:Bool
 a:Int
 b:Int
abbrev cE1:List UInt8:= [107,110,105,116]
abbrev aB4:List UInt8:= [112,117,114,108]
abbrev aB5:List UInt8:= [115,108,105,112]
abbrev bC3:List UInt8:= [119,105,116,104]
abbrev BD:List UInt8:= [121,97,114,110]
abbrev wIn:List UInt8:= [105,110]
abbrev sL:List UInt8:= [102,114,111,110,116]
abbrev bC1:List UInt8:= [111,118,101,114]
abbrev bM0:List UInt8:= [116,111,103,101,116,104,101,114]
abbrev WD:List UInt8:= [40,102,105,114,115,116]
abbrev wOn:List UInt8:= [111,110]
abbrev bY0:List UInt8:= [116,111,112,41]
abbrev aB3:List UInt8:= [109,97,107,101]
abbrev bX9:List UInt8:= [111,117,116]
abbrev wOf:List UInt8:= [111,102]
abbrev w1:List UInt8:= [49]
abbrev SH:List UInt8:= [112,117,114,108,119,105,115,101]
abbrev BB:List UInt8:= [99,114,111,115,115]
abbrev KH:List UInt8:= [98,101,104,105,110,100]
abbrev aB2:List UInt8:= [99,97,115,116]
abbrev aB1:List UInt8:= [98,105,110,100]
abbrev bX8:List UInt8:= [111,102,102]
abbrev Q6:List UInt8:= [116,105,109,101,115]
theorem p7.ext' {x y:p7} (h1:x.kind=y.kind) (h2:x.purl=y.purl) (h3:x.a=y.a) (h4:x.b=y.b):x=y:=by
 cases x;cases y;simp_all
instance:DecidableEq p7:=fun x y=>decidable_of_iff (x.kind=y.kind∧x.purl=y.purl∧x.a=y.a∧x.b=y.b) ⟨fun ⟨h1,h2,h3,h4⟩=>p7.ext' h1 h2 h3 h4,fun h=>by subst h;exact ⟨rfl,rfl,rfl,rfl⟩⟩
def sG:p7:=⟨0,false,0,0⟩
instance:Inhabited p7:=⟨sG⟩
def D1 (x:p7):Prop:=
 (x.kind=1∨x.kind=8)∧x.a=0∧x.b=0∨
 x.kind=2∧x.purl=false∧x.a=0∧x.b=0∨
 (x.kind=3∨x.kind=4∨x.kind=5)∧2≤x.a∧x.a≤4∧x.b=0∨
 (x.kind=6∨x.kind=7)∧(1≤x.a∧x.a≤6)∧1≤x.b∧x.b≤6∨
 x.kind=9∧x.purl=false∧1≤x.a∧x.a≤200∧x.b=0∨
 x.kind=10∧1≤x.a∧x.a≤200∧x.b=0
instance cD4 (x:p7):Decidable (D1 x):=by unfold D1;infer_instance
def C9 (x:p7):Bool:=decide (D1 x)
theorem B4 {x:p7}:C9 x=true↔D1 x:=by unfold C9;exact decide_eq_true_iff
theorem D1.bounds {x:p7} (h:D1 x):1≤x.kind∧x.kind≤10∧0≤x.a∧x.a≤200∧0≤x.b∧x.b≤6:=by
 unfold D1 at h
 omega
def jR (p:Bool):List UInt8:=if p=true then aB4 else cE1
def kB (p:Bool):List (List UInt8):=if p=true then [SH] else []
def I4 (x:p7) (n:Int):List (List UInt8):=match x.kind with
 |1=> [jR x.purl,Lib.itoa n]
 |2=> [BD,bC1]
 |3=> [jR x.purl,Lib.itoa x.a,bM0,WD,wOn,bY0]
 |4=> [jR x.purl,Lib.itoa x.a,bM0]
 |5=> [aB3,Lib.itoa x.a,bX9,wOf,w1]++kB x.purl
 |6=> [BB,Lib.itoa x.a,wIn,sL,wOf,Lib.itoa x.b]++kB x.purl
 |7=> [BB,Lib.itoa x.a,KH,Lib.itoa x.b]++kB x.purl
 |8=> [aB5,Lib.itoa n]++if x.purl=true then [bC3,BD,wIn,sL] else []
 |9=> [aB2,wOn,Lib.itoa x.a]
 |_=> [aB1,bX8,Lib.itoa x.a]++kB x.purl
def cK (x:p7) (n:Int):List (List UInt8):=if 1<n∧x.kind ≠ 1∧x.kind ≠ 8 then [Lib.itoa n,Q6] else []
def K1 (x:p7) (n:Int):List (List UInt8):=I4 x n++cK x n
def p5 (x:p7) (n:Int):List UInt8:=join 32 (K1 x n)
theorem aU {z:Int} (h:0≤z) (c:UInt8) (hc:A6 c=false):c ∉ Lib.itoa z:=fun hm=>by
 rw[xH h c hm] at hc;cases hc
theorem S5 {z:Int} (h:0≤z) {c:UInt8} {l:List UInt8} (hc:A6 c=false):Lib.itoa z ≠ c::l:=fun e=>aU h c hc (by rw[e];simp)
def tU (w:List UInt8):Prop:=(32:UInt8) ∉ w∧(44:UInt8) ∉ w∧(10:UInt8) ∉ w∧w ≠ []
theorem yJ {z:Int} (h:0≤z):tU (Lib.itoa z):=⟨aU h _ (by decide),aU h _ (by decide),aU h _ (by decide),oY⟩
instance cF7 (w:List UInt8):Decidable (tU w):=by unfold tU;infer_instance
theorem nJ {x:p7} {n:Int} (hx:D1 x) (hn:0≤n):∀ w ∈ K1 x n,tU w:=by
 have hb:=hx.bounds
 have h1:=yJ (z:=n) hn
 have h2:=yJ (z:=x.a) (by omega)
 have h3:=yJ (z:=x.b) (by omega)
 have hs:∀ p,tU (jR p):=by intro p;cases p<;>decide
 have hw:∀ p,∀ w ∈ kB p,tU w:=by intro p;cases p<;>decide
 have hf:∀ p:Bool,∀ w ∈ (if p=true then [bC3,BD,wIn,sL] else []),tU w:=by intro p;cases p<;>decide
 have hc:tU BD∧tU bC1∧tU bM0∧tU WD∧tU wOn∧tU bY0∧tU aB3∧tU bX9∧tU wOf∧tU w1∧tU BB∧tU wIn∧tU sL∧tU KH∧tU aB5∧tU aB2∧tU aB1∧tU bX8∧tU Q6:=by decide
 obtain ⟨c1,c2,c3,c4,c5,c6,c7,c8,c9,c10,c11,c12,c13,c14,c15,c16,c17,c18,c19⟩:=hc
 intro w hm
 unfold K1 at hm
 rcases List.mem_append.1 hm with hm|hm
 ·obtain ⟨k,p,a,b⟩:=x
  unfold I4 at hm
  simp only at hm h2 h3 hb
  split at hm
  all_goals
   simp only[List.cons_append,List.nil_append,List.mem_cons,List.not_mem_nil,or_false] at hm
  ·rcases hm with rfl|rfl<;>first|exact hs p|assumption
  ·rcases hm with rfl|rfl<;>assumption
  ·rcases hm with rfl|rfl|rfl|rfl|rfl|rfl<;>first|exact hs p|assumption
  ·rcases hm with rfl|rfl|rfl<;>first|exact hs p|assumption
  ·rcases hm with rfl|rfl|rfl|rfl|rfl|hm<;>first|exact hw p w hm|assumption
  ·rcases hm with rfl|rfl|rfl|rfl|rfl|rfl|hm<;>first|exact hw p w hm|assumption
  ·rcases hm with rfl|rfl|rfl|rfl|hm<;>first|exact hw p w hm|assumption
  ·rcases hm with rfl|rfl|hm<;>first|exact hf p w hm|assumption
  ·rcases hm with rfl|rfl|rfl<;>assumption
  ·rcases hm with rfl|rfl|rfl|hm<;>first|exact hw p w hm|assumption
 ·unfold cK at hm
  split at hm
  ·simp only[List.mem_cons,List.not_mem_nil,or_false] at hm
   rcases hm with rfl|rfl<;>assumption
  ·cases hm
theorem vL (x:p7) (n:Int):I4 x n ≠ []:=by
 unfold I4;split<;>simp
theorem UV (x:p7) (n:Int):K1 x n ≠ []:=by
 unfold K1;simp[vL]
theorem dE {x:p7} {n:Int} (hx:D1 x) (hn:0≤n):n9 32 (p5 x n)=K1 x n:=
 nV (UV x n) fun w hw=>(nJ hx hn w hw).1
def OP (l:List UInt8):Int:=match Lib.atoiAll l with
 | .ok v=>v
 |_=>0
theorem kX {z:Int} (h0:0≤z) (h1:z≤1000000):OP (Lib.itoa z)=z:=by
 unfold OP;rw[aC6 h0 (by omega)]
def aF7 (ws:List (List UInt8)):List (List UInt8) × Int:=match ws.reverse with
 |t::n::r=>if t=Q6 then (r.reverse,OP n) else (ws,1)
 |_=>(ws,1)
def bE9 (ws:List (List UInt8)) (n:Int):p7 × Int:=
 let h:=ws.headD []
 let at1:=OP (ws.getD 1 [])
 let ws2:=decide (SH ∈ ws)
 if h=BD then (⟨2,false,0,0⟩,n)
 else if h=aB3 then (⟨5,ws2,at1,0⟩,n)
 else if h=BB then (if ws.getD 2 []=wIn then (⟨6,ws2,at1,OP (ws.getD 5 [])⟩,n) else (⟨7,ws2,at1,OP (ws.getD 3 [])⟩,n))
 else if h=aB2 then (⟨9,false,OP (ws.getD 2 []),0⟩,n)
 else if h=aB1 then (⟨10,ws2,OP (ws.getD 2 []),0⟩,n)
 else if h=aB5 then (⟨8,decide (2<ws.length),0,0⟩,at1)
 else if ws.length=2 then (⟨1,decide (h=aB4),0,0⟩,at1)
 else if ws.length=3 then (⟨4,decide (h=aB4),at1,0⟩,n)
 else (⟨3,decide (h=aB4),at1,0⟩,n)
def bF0 (ws:List (List UInt8)):p7 × Int:=bE9 (aF7 ws).1 (aF7 ws).2
theorem UO (B:List (List UInt8)) {n:Int} (h0:0≤n) (h1:n≤1000000):aF7 (B++ [Lib.itoa n,Q6])=(B,n):=by
 unfold aF7
 simp only[List.reverse_append,List.reverse_cons,List.reverse_nil,List.nil_append,List.cons_append,List.reverse_reverse,if_true,kX h0 h1]
theorem CW {x:p7} {n:Int} (hx:D1 x) (h0:0≤n) (h1:n≤1000) (m:Int) (hm:x.kind ≠ 1→x.kind ≠ 8→m=n):bE9 (I4 x n) m=(x,n):=by
 have hb:=hx.bounds
 have n1:=kX (z:=n) h0 (by omega)
 have n2:=kX (z:=x.a) (by omega) (by omega)
 have n3:=kX (z:=x.b) (by omega) (by omega)
 have q1:Lib.itoa n ≠ SH:=S5 h0 (by decide)
 have q2:Lib.itoa x.a ≠ SH:=S5 (by omega) (by decide)
 have q3:Lib.itoa x.b ≠ SH:=S5 (by omega) (by decide)
 obtain ⟨k,p,a,b⟩:=x
 unfold D1 at hx
 simp only at hx n1 n2 n3 q1 q2 q3 hm
 have r2:=Ne.symm q2
 have r3:=Ne.symm q3
 rcases hx with ⟨rfl|rfl,rfl,rfl⟩|⟨rfl,rfl,rfl,rfl⟩|⟨rfl|rfl|rfl,h2,h3,rfl⟩|⟨rfl|rfl,h2,h3⟩|⟨rfl,rfl,h2,h3,rfl⟩|⟨rfl,h2,h3,rfl⟩
 all_goals
  try (have hm:=hm (by decide) (by decide);subst hm)
  first
  |(cases p<;>simp[bE9,I4,jR,kB,n1,n2,n3,r2,r3])
  |simp[bE9,I4,jR,kB,n1,n2,n3,r2,r3]
theorem aF8 (B:List (List UInt8)) (h:∀ w,B.getLast? =some w→w ≠ Q6):aF7 B=(B,1):=by
 unfold aF7
 cases hr:B.reverse with
 |nil=>rfl
 |cons t r=>
  have hl:B.getLast? =some t:=by rw[← List.head?_reverse,hr];rfl
  cases r with
  |nil=>rfl
  |cons n r=>simp only[if_neg (h t hl)]
theorem MG {x:p7} {n:Int} (hx:D1 x) (h0:1≤n) (h1:n≤1000):bF0 (K1 x n)=(x,n):=by
 unfold bF0 K1 cK
 by_cases ht:1<n∧x.kind ≠ 1∧x.kind ≠ 8
 ·rw[if_pos ht,UO _ (by omega) (by omega)]
  exact CW hx (by omega) h1 n fun _ _=>rfl
 ·rw[if_neg ht,List.append_nil,aF8]
  ·exact CW hx (by omega) h1 1 fun a b=>by
    have:¬ 1<n:=fun h=>ht ⟨h,a,b⟩
    omega
  ·have hb:=hx.bounds
   have q1:Lib.itoa n ≠ Q6:=S5 (by omega) (by decide)
   have q2:Lib.itoa x.a ≠ Q6:=S5 (by omega) (by decide)
   have q3:Lib.itoa x.b ≠ Q6:=S5 (by omega) (by decide)
   have r1:=Ne.symm q1
   have r2:=Ne.symm q2
   have r3:=Ne.symm q3
   intro w hw e
   subst e
   obtain ⟨k,p,a,b⟩:=x
   simp only at r1 r2 r3
   unfold I4 at hw
   simp only at hw
   split at hw
   all_goals
    revert hw
    cases p<;>simp[kB,jR,q1,q2,q3,r1,r2,r3]
def V2 (s:List UInt8):Option (p7 × Int):=
 let r:=bF0 (n9 32 s)
 if D1 r.1∧(1≤r.2∧r.2≤200)∧p5 r.1 r.2=s then some r else none
theorem nL {s:List UInt8} {x:p7} {n:Int} (h:V2 s=some (x,n)):D1 x∧(1≤n∧n≤200)∧p5 x n=s:=by
 unfold V2 at h
 generalize bF0 (n9 32 s)=r at h
 simp only at h
 split at h
 ·rename_i hc
  cases h
  exact hc
 ·cases h
theorem pT {x:p7} {n:Int} (hx:D1 x) (h0:1≤n) (h1:n≤200):V2 (p5 x n)=some (x,n):=by
 unfold V2
 simp only[dE hx (by omega:0≤n),MG hx h0 (by omega:n≤1000)]
 rw[if_pos ⟨hx,⟨h0,h1⟩,trivial⟩]
end Go.Itp
namespace Go.Itp
set_option linter.unusedVariables false
set_option linter.unusedSimpArgs false
set_option maxRecDepth 10000
def P8 (x:p7):Int:=if x.kind=2∨x.kind=9 then 0 else if x.kind=3∨x.kind=4∨x.kind=10 then x.a else if x.kind=6∨x.kind=7 then x.a+x.b else 1
def P7 (x:p7):Int:=if x.kind=10 then 0 else if x.kind=5∨x.kind=9 then x.a else if x.kind=6∨x.kind=7 then x.a+x.b else 1
def Q4 (f:p7→Int):List p7→Int
 | []=>0
 |x::l=>f x+Q4 f l
def K3 (L:List p7):Int:=if 200<L.length then 4 else if L.all C9=true then (if 200<Q4 P8 L∨200<Q4 P7 L then 4 else 0) else 8
def I1:List p7→List (p7 × Nat)
 | []=> []
 |x::l=>match I1 l with
  | []=> [(x,1)]
  |(y,n)::r=>if y=x then (x,n+1)::r else (x,1)::(y,n)::r
def JG (r:p7 × Nat):List UInt8:=p5 r.1 r.2
def KN:List (List UInt8)→List UInt8
 | []=> []
 | [w]=>w
 |w::ws=>w++44::32::KN ws
theorem dU (w:List UInt8) {ws:List (List UInt8)} (h:ws ≠ []):KN (w::ws)=w++44::32::KN ws:=by
 cases ws with
 |nil=>exact absurd rfl h
 |cons a r=>rfl
theorem UF:∀ ws,KN ws=Lib.join ws [44,32]
 | []=>rfl
 | [w]=>by simp[KN,Lib.join,List.intercalate]
 |w::v::ws=>by
  rw[dU w (by simp),UF (v::ws)]
  simp[Lib.join,List.intercalate]
theorem OE:∀ (ws:List (List UInt8)) (w:List UInt8),ws ≠ []→KN (ws++ [w])=KN ws++44::32::w
 | [],w,h=>absurd rfl h
 | [v],w,_=>rfl
 |v::u::ws,w,_=>by
  rw[List.cons_append,dU v (by simp),OE (u::ws) w (by simp),dU v (by simp)]
  simp
def H6:List UInt8:= [110,111,116,104,105,110,103]
def s9 (L:List p7):List UInt8:=if L= [] then H6 else KN ((I1 L).map JG)
def A0 (L:List p7):List UInt8 × Int:=if K3 L=0 then (if 2000<(s9 L).length then ([],4) else (s9 L,0)) else ([],K3 L)
theorem Y2 {L:List p7} (h:K3 L=0):L.length≤200∧L.all C9=true∧Q4 P8 L≤200∧Q4 P7 L≤200:=by
 unfold K3 at h
 split at h
 ·exact absurd h (by decide)
 split at h
 ·split at h
  ·exact absurd h (by decide)
  ·rename_i h1 h2 h3
   exact ⟨by omega,h2,by omega,by omega⟩
 ·exact absurd h (by decide)
def lW (R:List (p7 × Nat)):List p7:=R.flatMap fun r=>List.replicate r.2 r.1
theorem cF:∀ L,lW (I1 L)=L
 | []=>rfl
 |x::l=>by
  have ih:=cF l
  rw[I1]
  cases hr:I1 l with
  |nil=>rw[hr] at ih;simp[lW] at ih ⊢;exact ih
  |cons y r=>
   obtain ⟨y,n⟩:=y
   rw[hr] at ih
   simp only[lW,List.flatMap_cons] at ih
   by_cases e:y=x
   ·simp only[if_pos e,lW,List.flatMap_cons,List.replicate_succ,List.cons_append]
    rw[← e,ih]
   ·simp only[if_neg e,lW,List.flatMap_cons]
    rw[ih];rfl
theorem X7:∀ L,∀ r ∈ I1 L,1≤r.2∧r.2≤L.length∧r.1 ∈ L
 | [],r,h=>by cases h
 |x::l,r,h=>by
  have ih:=X7 l
  rw[I1] at h
  cases hr:I1 l with
  |nil=>
   rw[hr] at h
   simp only[List.mem_singleton] at h
   subst h
   simp
  |cons y q=>
   obtain ⟨y,n⟩:=y
   rw[hr] at h ih
   simp only at h
   have h1:=ih (y,n) (by simp)
   split at h
   ·rcases List.mem_cons.1 h with rfl|h
    ·simp only[List.length_cons,List.mem_cons,true_or,and_true];omega
    ·have:=ih r (List.mem_cons_of_mem _ h)
     exact ⟨this.1,by simp;omega,List.mem_cons_of_mem _ this.2.2⟩
   ·rcases List.mem_cons.1 h with rfl|h
    ·simp
    ·have:=ih r h
     exact ⟨this.1,by simp;omega,List.mem_cons_of_mem _ this.2.2⟩
theorem pZ {L:List p7} (h:L ≠ []):I1 L ≠ []:=fun e=>h (by rw[← cF L,e];rfl)
theorem mZ (r:p7 × Nat) (R:List (p7 × Nat)):lW (r::R)=List.replicate r.2 r.1++lW R:=rfl
def oJ (c:UInt8):List (List UInt8)→List (List UInt8)
 | []=> [[c]]
 |w::ws=>(c::w)::ws
def n5:List UInt8→List (List UInt8)
 | []=> [[]]
 | [c]=> [[c]]
 |c::d::r=>if c=44∧d=32 then []::n5 r else oJ c (n5 (d::r))
theorem U0:∀ s,n5 s ≠ []
 | []=>by simp[n5]
 | [c]=>by simp[n5]
 |c::d::r=>by
  rw[n5]
  split
  ·simp
  ·cases n5 (d::r)<;>simp[oJ]
theorem O1 {c d:UInt8} {r:List UInt8} (h:¬ (c=44∧d=32)):n5 (c::d::r)=oJ c (n5 (d::r)):=by rw[n5,if_neg h]
theorem uB:∀ {w:List UInt8},(44:UInt8) ∉ w→n5 w= [w]
 | [],_=>rfl
 | [c],_=>rfl
 |c::d::r,h=>by
  rw[O1 (fun e=>h (by rw[e.1];simp)),uB (fun e=>h (List.mem_cons_of_mem _ e))]
  rfl
theorem zU:∀ {w:List UInt8} (r:List UInt8),(44:UInt8) ∉ w→n5 (w++44::32::r)=w::n5 r
 | [],r,_=>by rw[List.nil_append,n5,if_pos ⟨rfl,rfl⟩]
 | [c],r,h=>by
  rw[List.cons_append,List.nil_append,O1 (fun e=>h (by rw[e.1];simp)),n5,if_pos ⟨rfl,rfl⟩]
  rfl
 |c::d::w,r,h=>by
  have ih:=zU (w:=d::w) r (fun e=>h (List.mem_cons_of_mem _ e))
  rw[List.cons_append] at ih
  rw[List.cons_append,List.cons_append,O1 (fun e=>h (by rw[e.1];simp)),ih]
  rfl
theorem jT:∀ {ws:List (List UInt8)},ws ≠ []→(∀ w ∈ ws,(44:UInt8) ∉ w)→n5 (KN ws)=ws
 | [],h,_=>absurd rfl h
 | [w],_,h=>uB (h w (by simp))
 |w::v::ws,_,h=>by
  rw[dU w (by simp),zU _ (h w (by simp)),jT (by simp) (fun x hx=>h x (List.mem_cons_of_mem _ hx))]
theorem UU {x:p7} {n:Int} (hx:D1 x) (hn:0≤n):(44:UInt8) ∉ p5 x n∧(10:UInt8) ∉ p5 x n:=by
 have aux:∀ d:UInt8,d ≠ 32→∀ ws:List (List UInt8),(∀ w ∈ ws,d ∉ w)→d ∉ join 32 ws:=by
  intro d hd ws
  induction ws with
  |nil=>intro _;simp[join]
  |cons w ws ih=>
   intro h
   cases ws with
   |nil=>exact h w (by simp)
   |cons v r=>
    rw[join,List.mem_append,List.mem_cons]
    rintro (h1|h1|h1)
    ·exact h w (by simp) h1
    ·exact hd h1
    ·exact ih (fun x hx=>h x (List.mem_cons_of_mem _ hx)) h1
 exact ⟨aux 44 (by decide) _ fun w hw=>(nJ hx hn w hw).2.1,aux 10 (by decide) _ fun w hw=>(nJ hx hn w hw).2.2.1⟩
def iB:List (List UInt8)→List p7→Option (List p7)
 | [],acc=>some acc
 |p::ps,acc=>match V2 p with
  |none=>none
  |some (x,n)=>if 200<(acc.length:Int)+n then none else iB ps (acc++List.replicate n.toNat x)
def aX (s:List UInt8):Option (List p7):=if 2000<s.length then none else if s=H6 then some [] else match iB (n5 s) [] with
 |none=>none
 |some L=>if K3 L=0∧s9 L=s then some L else none
def I3 (s:List UInt8):List p7 × Int:=match aX s with
 |none=>([],12)
 |some L=>(L,0)
theorem EP:∀ (R:List (p7 × Nat)) (acc:List p7),(∀ r ∈ R,D1 r.1∧1≤r.2∧r.2≤200)→acc.length+(lW R).length≤200→iB (R.map JG) acc=some (acc++lW R)
 | [],acc,_,_=>by simp[iB,lW]
 |r::R,acc,h,hl=>by
  obtain ⟨h1,h2,h3⟩:=h r (by simp)
  rw[mZ,List.length_append,List.length_replicate] at hl
  rw[List.map_cons,iB,show JG r=p5 r.1 (r.2:Int) from rfl,pT h1 (by omega) (by omega)]
  simp only
  rw[if_neg (by omega),Int.toNat_natCast,EP R _ (fun q hq=>h q (List.mem_cons_of_mem _ hq)) (by rw[List.length_append,List.length_replicate];omega),mZ]
  simp
theorem UT {L:List p7} (h:L.all C9=true):∀ w ∈ (I1 L).map JG,(44:UInt8) ∉ w∧(10:UInt8) ∉ w:=by
 intro w hw
 obtain ⟨r,hr,rfl⟩:=List.mem_map.1 hw
 have h1:=X7 L r hr
 exact UU (B4.1 (List.all_eq_true.1 h _ h1.2.2)) (by omega)
theorem qG {L:List p7} (h:L.all C9=true) (hl:L.length≤200) (hn:L ≠ []):s9 L ≠ H6:=fun e=>by
 unfold s9 at e
 rw[if_neg hn] at e
 have h1:=congrArg n5 e
 rw[jT (by simp[pZ hn]) (fun w hw=>(UT h w hw).1),show n5 H6= [H6] from by decide] at h1
 cases hr:I1 L with
 |nil=>exact pZ hn hr
 |cons r R=>
  rw[hr,List.map_cons] at h1
  obtain ⟨h2,_⟩:=List.cons.inj h1
  have h3:=X7 L r (by rw[hr];simp)
  have h4:=dE (B4.1 (List.all_eq_true.1 h _ h3.2.2)) (n:=(r.2:Int)) (by omega)
  rw[show p5 r.1 (r.2:Int)=JG r from rfl,h2,show n9 32 H6= [H6] from by decide] at h4
  have h5:(K1 r.1 (r.2:Int)).length=1:=by rw[← h4];rfl
  have h6:2≤(I4 r.1 (r.2:Int)).length:=by
   unfold I4;split<;>simp
  unfold K1 at h5
  rw[List.length_append] at h5
  omega
theorem Y8 {L:List p7} (h:(A0 L).2=0):aX (s9 L)=some L∧A0 L=(s9 L,0):=by
 unfold A0 at h ⊢
 by_cases ha:K3 L=0
 ·rw[if_pos ha] at h ⊢
  by_cases hl:2000<(s9 L).length
  ·rw[if_pos hl] at h;exact absurd h (by decide)
  ·rw[if_neg hl]
   refine ⟨?_,rfl⟩
   obtain ⟨h1,h2,h3,h4⟩:=Y2 ha
   unfold aX
   rw[if_neg hl]
   by_cases hn:L= []
   ·subst hn;rfl
   ·rw[if_neg (qG h2 h1 hn)]
    have e:n5 (s9 L)=(I1 L).map JG:=by
     unfold s9
     rw[if_neg hn,jT (by simp[pZ hn]) (fun w hw=>(UT h2 w hw).1)]
    rw[e,EP _ [] (fun r hr=>by
     have:=X7 L r hr
     exact ⟨B4.1 (List.all_eq_true.1 h2 _ this.2.2),by omega,by omega⟩) (by rw[cF];simpa using h1),cF]
    simp only[List.nil_append]
    rw[if_pos ⟨ha,trivial⟩]
 ·rw[if_neg ha] at h;exact absurd h ha
theorem pS {s:List UInt8} {L:List p7} (h:aX s=some L):A0 L=(s,0):=by
 unfold aX at h
 split at h
 ·cases h
 rename_i hs
 split at h
 ·rename_i he
  cases h
  rw[he]
  rfl
 ·cases hr:iB (n5 s) [] with
  |none=>rw[hr] at h;cases h
  |some M=>
   rw[hr] at h
   simp only at h
   split at h
   ·rename_i hc
    cases h
    unfold A0
    rw[if_pos hc.1,if_neg (by rw[hc.2];exact hs),hc.2]
   ·cases h
theorem nK {s:List UInt8} {L:List p7} (h:A0 L=(s,0)):aX s=some L:=by
 have h1:=Y8 (L:=L) (by rw[h])
 rw[h1.2] at h
 cases h
 exact h1.1
theorem TK {L M:List p7} {s:List UInt8} (h1:A0 L=(s,0)) (h2:A0 M=(s,0)):L=M:=by
 have:=nK h1
 rw[nK h2] at this
 exact (Option.some.inj this).symm
def W4 (b:Bool):List UInt8:=if b=true then [98,97,99,107] else [102,114,111,110,116]
def lU (b:Bool):List UInt8:=40::W4 b++ [41,58]
def VJ:List UInt8:= [114,111,119]
def y8 (b:Bool) (n:Int):List UInt8:=VJ++32::(Lib.itoa n++32::(lU b++ [32]))
def B7 (b:Bool) (L:List p7) (n:Int):List UInt8 × Int:=if K3 L=0 then (if n<1∨100<n then ([],2) else if (A0 L).2=0 then (y8 b n++(A0 L).1++ [46],0) else ([],(A0 L).2)) else ([],K3 L)
theorem cZ {b:Bool} {L:List p7} {n:Int} (h:(B7 b L n).2=0):(1≤n∧n≤100)∧A0 L=(s9 L,0)∧B7 b L n=(y8 b n++s9 L++ [46],0)∧K3 L=0:=by
 unfold B7 at h ⊢
 by_cases h1:K3 L=0
 ·rw[if_pos h1] at h ⊢
  by_cases h2:n<1∨100<n
  ·rw[if_pos h2] at h;exact absurd h (by decide)
  ·rw[if_neg h2] at h ⊢
   by_cases h3:(A0 L).2=0
   ·have:=(Y8 h3).2
    rw[if_pos h3,this]
    exact ⟨by omega,rfl,rfl,h1⟩
   ·rw[if_neg h3] at h;exact absurd h h3
 ·rw[if_neg h1] at h;exact absurd h h1
theorem bI4 {b:Bool} {L:List p7} {n:Int} {m:List UInt8} (h0:1≤n) (h1:n≤100) (h:A0 L=(m,0)):B7 b L n=(y8 b n++m++ [46],0):=by
 have ha:K3 L=0:=by
  by_cases e:K3 L=0
  ·exact e
  ·unfold A0 at h
   rw[if_neg e] at h
   exact absurd (congrArg Prod.snd h) e
 unfold B7
 rw[if_pos ha,if_neg (by omega),h,if_pos rfl]
theorem tJ (b:Bool) {n:Int} (hn:0≤n) (r:List UInt8):n9 32 (y8 b n++r)=VJ::Lib.itoa n::lU b::n9 32 r:=by
 have h2:(32:UInt8) ∉ Lib.itoa n:=aU hn _ (by decide)
 have h3:(32:UInt8) ∉ lU b:=by cases b<;>decide
 have e:y8 b n++r=VJ++32::(Lib.itoa n++32::(lU b++32::r)):=by simp[y8]
 rw[e,F8 _ (by decide),F8 _ h2,F8 _ h3]
theorem aD8 {b c:Bool} (h:lU b=lU c):b=c:=by cases b<;>cases c<;>first|rfl|(revert h;decide)
theorem aE5 {b c:Bool} {n m:Int} {r q:List UInt8} (hn:0≤n) (hm:0≤m) (h:y8 b n++r=y8 c m++q):b=c∧n=m∧r=q:=by
 have e:=congrArg (n9 32) h
 rw[tJ b hn,tJ c hm] at e
 obtain ⟨_,e⟩:=List.cons.inj e
 obtain ⟨e1,e⟩:=List.cons.inj e
 obtain ⟨e2,e⟩:=List.cons.inj e
 have h1:=OD hn hm e1
 have h2:=aD8 e2
 subst h1 h2
 exact ⟨rfl,rfl,List.append_cancel_left h⟩
theorem QF {b c:Bool} {L M:List p7} {n m:Int} {s:List UInt8} (h1:B7 b L n=(s,0)) (h2:B7 c M m=(s,0)):b=c∧L=M∧n=m:=by
 obtain ⟨a1,a2,a3,_⟩:=cZ (by rw[h1]:(B7 b L n).2=0)
 obtain ⟨b1,b2,b3,_⟩:=cZ (by rw[h2]:(B7 c M m).2=0)
 rw[h1] at a3
 rw[h2] at b3
 have e:y8 b n++(s9 L++ [46])=y8 c m++(s9 M++ [46]):=by
  rw[← List.append_assoc,← List.append_assoc]
  exact (congrArg Prod.fst a3).symm.trans (congrArg Prod.fst b3)
 obtain ⟨e1,e2,e3⟩:=aE5 (by omega) (by omega) e
 have e4:=List.append_cancel_right e3
 rw[e4] at a2
 exact ⟨e1,TK a2 b2,e2⟩
open Classical in
noncomputable def T6 (s:List UInt8):Option (Bool × List p7 × Int):=if h:∃ r:Bool × List p7 × Int,B7 r.1 r.2.1 r.2.2=(s,0) then some (Classical.choose h) else none
theorem yV {b:Bool} {L:List p7} {n:Int} {s:List UInt8} (h:B7 b L n=(s,0)):T6 s=some (b,L,n):=by
 have hx:∃ r:Bool × List p7 × Int,B7 r.1 r.2.1 r.2.2=(s,0):=⟨(b,L,n),h⟩
 unfold T6
 rw[dif_pos hx]
 have h2:=Classical.choose_spec hx
 generalize Classical.choose hx=r at h2
 obtain ⟨c,M,m⟩:=r
 obtain ⟨e1,e2,e3⟩:=QF h2 h
 simp only at e1 e2 e3
 rw[e1,e2,e3]
theorem yW {b:Bool} {L:List p7} {n:Int} {s:List UInt8} (h:T6 s=some (b,L,n)):B7 b L n=(s,0):=by
 unfold T6 at h
 split at h
 ·rename_i hx
  have h2:=Classical.choose_spec hx
  rw[Option.some.inj h] at h2
  exact h2
 ·cases h
theorem VB {s:List UInt8} (h:∀ b L n,B7 b L n ≠ (s,0)):T6 s=none:=by
 unfold T6
 rw[dif_neg]
 rintro ⟨r,hr⟩
 exact h _ _ _ hr
theorem aR2 (b:Bool) {n:Int} (hn:0≤n):(10:UInt8) ∉ y8 b n:=by
 have h2:(10:UInt8) ∉ Lib.itoa n:=aU hn _ (by decide)
 have h3:(10:UInt8) ∉ lU b:=by cases b<;>decide
 unfold y8
 simp only[List.mem_append,List.mem_cons,h2,h3,not_or]
 decide
theorem SM {L:List p7} (h:L.all C9=true):(10:UInt8) ∉ s9 L:=by
 have aux:∀ ws:List (List UInt8),(∀ w ∈ ws,(10:UInt8) ∉ w)→(10:UInt8) ∉ KN ws:=by
  intro ws
  induction ws with
  |nil=>intro _;simp[KN]
  |cons w ws ih=>
   intro h
   cases ws with
   |nil=>exact h w (by simp)
   |cons v r=>
    rw[dU w (by simp),List.mem_append,List.mem_cons,List.mem_cons]
    rintro (h1|h1|h1|h1)
    ·exact h w (by simp) h1
    ·exact absurd h1 (by decide)
    ·exact absurd h1 (by decide)
    ·exact ih (fun x hx=>h x (List.mem_cons_of_mem _ hx)) h1
 unfold s9
 split
 ·decide
 ·exact aux _ fun w hw=>(UT h w hw).2
theorem aH2 {b:Bool} {L:List p7} {n:Int} {s:List UInt8} (h:B7 b L n=(s,0)):(10:UInt8) ∉ s:=by
 obtain ⟨a1,a2,a3,a4⟩:=cZ (by rw[h]:(B7 b L n).2=0)
 rw[h] at a3
 rw[show s=_ from congrArg Prod.fst a3]
 simp only[List.mem_append,not_or]
 exact ⟨⟨aR2 b (by omega),SM (Y2 a4).2.1⟩,by decide⟩
theorem QG {b:Bool} {L:List p7} {n:Int}:(B7 b L n).1.length≤2100:=by
 unfold B7
 split
 ·split
  ·simp
  split
  ·rename_i h1 h2 h3
   have h4:=(Y8 h3).2
   have h5:(s9 L).length≤2000:=by
    unfold A0 at h3
    rw[if_pos h1] at h3
    split at h3
    ·exact absurd h3 (by decide)
    ·omega
   rw[h4]
   have h6:(Lib.itoa n).length≤4:=by
    obtain ⟨u,rfl⟩:=Int.eq_ofNat_of_zero_le (show 0≤n by omega)
    rw[Lib.itoa_nonneg]
    exact Nat.le_trans (Y4 3 u (by omega)) (Nat.le_refl _)
   have h7:(lU b).length≤10:=by cases b<;>decide
   unfold y8
   simp only[List.length_append,List.length_cons,List.length_nil]
   have h8:VJ.length=3:=rfl
   omega
  ·simp
 ·simp
abbrev kC:=Int × List (Bool × List p7)
def pW:List (Bool × List p7)→Int
 | []=>0
 |r::l=>if K3 r.2=0 then pW l else K3 r.2
def M4 (c:kC):Int:=if 100<c.2.length then 4 else if c.1<0∨200<c.1 then 8 else pW c.2
def B2:Int→List (Bool × List p7)→List UInt8 × Int
 |_,[]=>([],0)
 |n,r::l=>if (B7 r.1 r.2 n).2=0 then (if (B2 (n+1) l).2=0 then ((B7 r.1 r.2 n).1++10::(B2 (n+1) l).1,0) else ([],(B2 (n+1) l).2)) else ([],(B7 r.1 r.2 n).2)
def F5 (n:Int):List UInt8:= [115,116,97,114,116]++32::([119,105,116,104]++32::(Lib.itoa n++32:: [115,116,105,116,99,104,101,115,46]))
def q8 (c:kC):List UInt8 × Int:=if M4 c=0 then (if (B2 1 c.2).2=0 then (if 60000<(F5 c.1++10::(B2 1 c.2).1).length then ([],4) else (F5 c.1++10::(B2 1 c.2).1,0)) else ([],(B2 1 c.2).2)) else ([],M4 c)
theorem bA {c:kC} (h:(q8 c).2=0):M4 c=0∧(B2 1 c.2).2=0∧(F5 c.1++10::(B2 1 c.2).1).length≤60000∧q8 c=(F5 c.1++10::(B2 1 c.2).1,0):=by
 unfold q8 at h ⊢
 by_cases h1:M4 c=0
 ·rw[if_pos h1] at h ⊢
  by_cases h2:(B2 1 c.2).2=0
  ·rw[if_pos h2] at h ⊢
   by_cases h3:60000<(F5 c.1++10::(B2 1 c.2).1).length
   ·rw[if_pos h3] at h;exact absurd h (by decide)
   ·exact ⟨h1,h2,by omega,by rw[if_neg h3]⟩
  ·rw[if_neg h2] at h;exact absurd h h2
 ·rw[if_neg h1] at h;exact absurd h h1
theorem S9 {c:kC} (h:M4 c=0):c.2.length≤100∧(0≤c.1∧c.1≤200)∧pW c.2=0:=by
 unfold M4 at h
 split at h
 ·exact absurd h (by decide)
 split at h
 ·exact absurd h (by decide)
 ·exact ⟨by omega,by omega,h⟩
def U9:Int→List (Bool × List p7)→List (List UInt8)
 |_,[]=> []
 |n,r::l=>(B7 r.1 r.2 n).1::U9 (n+1) l
theorem W9:∀ (n:Int) (l:List (Bool × List p7)),(U9 n l).length=l.length
 |_,[]=>rfl
 |n,r::l=>by rw[U9,List.length_cons,List.length_cons,W9]
theorem pB:∀ (l:List (Bool × List p7)) (n:Int),(B2 n l).2=0→n9 10 (B2 n l).1=U9 n l++ [[]]
 | [],_,_=>(O5 (c:=10) (s:= []) (by simp))
 |r::l,n,h=>by
  unfold B2 at h ⊢
  by_cases h1:(B7 r.1 r.2 n).2=0
  ·rw[if_pos h1] at h ⊢
   by_cases h2:(B2 (n+1) l).2=0
   ·rw[if_pos h2]
    have h3:B7 r.1 r.2 n=((B7 r.1 r.2 n).1,0):=by rw[← h1]
    rw[F8 _ (aH2 h3),pB l (n+1) h2,U9]
    rfl
   ·rw[if_neg h2] at h;exact absurd h h2
  ·rw[if_neg h1] at h;exact absurd h h1
theorem kU:∀ (l:List (Bool × List p7)) (n:Int),(B2 n l).2=0→∀ j (hj:j<l.length),B7 l[j].1 l[j].2 (n+j)=((U9 n l)[j]'(by rw[W9];exact hj),0)
 | [],_,_,j,hj=>by simp at hj
 |r::l,n,h,j,hj=>by
  have h1:(B7 r.1 r.2 n).2=0∧(B2 (n+1) l).2=0:=by
   unfold B2 at h
   by_cases h1:(B7 r.1 r.2 n).2=0
   ·rw[if_pos h1] at h
    by_cases h2:(B2 (n+1) l).2=0
    ·exact ⟨h1,h2⟩
    ·rw[if_neg h2] at h;exact absurd h h2
   ·rw[if_neg h1] at h;exact absurd h h1
  cases j with
  |zero=>
   show B7 r.1 r.2 (n+((0:Nat):Int))=((B7 r.1 r.2 n).1,0)
   rw[show n+((0:Nat):Int)=n from by omega,← h1.1]
  |succ j=>
   have:=kU l (n+1) h1.2 j (by simpa using hj)
   simp only[List.getElem_cons_succ,U9]
   rw[← this]
   congr 1
   omega
theorem fZ {n:Int} (hn:0≤n):n9 32 (F5 n)= [[115,116,97,114,116],[119,105,116,104],Lib.itoa n,[115,116,105,116,99,104,101,115,46]]:=by
 have h2:(32:UInt8) ∉ Lib.itoa n:=aU hn _ (by decide)
 unfold F5
 rw[F8 _ (by decide),F8 _ (by decide),F8 _ h2,O5 (by decide)]
theorem aH8 {n:Int} (hn:0≤n):(10:UInt8) ∉ F5 n:=by
 have h2:(10:UInt8) ∉ Lib.itoa n:=aU hn _ (by decide)
 unfold F5
 simp only[List.mem_append,List.mem_cons,h2,not_or]
 decide
theorem aQ {c:kC} {s:List UInt8} (h:q8 c=(s,0)):n9 10 s=F5 c.1::(U9 1 c.2++ [[]]):=by
 obtain ⟨h1,h2,h3,h4⟩:=bA (by rw[h]:(q8 c).2=0)
 rw[h] at h4
 rw[show s=_ from congrArg Prod.fst h4,F8 _ (aH8 (S9 h1).2.1.1),pB _ _ h2]
theorem UH:∀ (l m:List (Bool × List p7)) (n:Int),(B2 n l).2=0→(B2 n m).2=0→U9 n l=U9 n m→l=m:=fun l m n h1 h2 h=>by
 have hl:=congrArg List.length h
 rw[W9,W9] at hl
 refine List.ext_getElem hl fun j a b=>?_
 have e1:=kU l n h1 j a
 have e2:=kU m n h2 j b
 simp only[h] at e1
 obtain ⟨q1,q2,_⟩:=QF e1 e2
 exact Prod.ext q1 q2
theorem TL {c d:kC} {s:List UInt8} (h1:q8 c=(s,0)) (h2:q8 d=(s,0)):c=d:=by
 have e:=aQ h1
 rw[aQ h2] at e
 obtain ⟨e1,e2⟩:=List.cons.inj e
 have a:=bA (by rw[h1]:(q8 c).2=0)
 have b:=bA (by rw[h2]:(q8 d).2=0)
 have n1:=(S9 a.1).2.1
 have n2:=(S9 b.1).2.1
 have w:=congrArg (n9 32) e1
 rw[fZ n1.1,fZ n2.1] at w
 simp only[List.cons.injEq,and_true,true_and] at w
 refine Prod.ext (OD n2.1 n1.1 w).symm (UH _ _ 1 a.2.1 b.2.1 (List.append_cancel_right e2).symm)
open Classical in
noncomputable def cB (s:List UInt8):Option kC:=if h:∃ c:kC,q8 c=(s,0) then some (Classical.choose h) else none
theorem PW {c:kC} {s:List UInt8} (h:q8 c=(s,0)):cB s=some c:=by
 have hx:∃ c:kC,q8 c=(s,0):=⟨c,h⟩
 unfold cB
 rw[dif_pos hx,TL (Classical.choose_spec hx) h]
theorem nM {c:kC} {s:List UInt8} (h:cB s=some c):q8 c=(s,0):=by
 unfold cB at h
 split at h
 ·rename_i hx
  have h2:=Classical.choose_spec hx
  rw[Option.some.inj h] at h2
  exact h2
 ·cases h
end Go.Itp
namespace Go.Itp
set_option linter.unusedVariables false
set_option linter.unusedSimpArgs false
set_option maxRecDepth 10000
def hO (p:Bool):List UInt8:=if p=true then [112,117,114,108] else [107,110,105,116]
def uJ (p:Bool):List UInt8:=if p=true then [32,112,117,114,108,119,105,115,101] else []
def p6 (k:Nat) (p:Bool):List (List UInt8):=match k with
 |1=> [hO p++ [32],[]]
 |2=> [[121,97,114,110,32,111,118,101,114]]
 |3=> [hO p++ [32],[32,116,111,103,101,116,104,101,114,32,40,102,105,114,115,116,32,111,110,32,116,111,112,41]]
 |4=> [hO p++ [32],[32,116,111,103,101,116,104,101,114]]
 |5=> [[109,97,107,101,32],[32,111,117,116,32,111,102,32,49]++uJ p]
 |6=> [[99,114,111,115,115,32],[32,105,110,32,102,114,111,110,116,32,111,102,32],uJ p]
 |7=> [[99,114,111,115,115,32],[32,98,101,104,105,110,100,32],uJ p]
 |8=> [[115,108,105,112,32],if p=true then [32,119,105,116,104,32,121,97,114,110,32,105,110,32,102,114,111,110,116] else []]
 |9=> [[99,97,115,116,32,111,110,32],[]]
 |_=> [[98,105,110,100,32,111,102,102,32],uJ p]
def P6 (k:Nat) (p:Bool):List UInt8:=join 35 (p6 k p)
def countB (k:Nat):Bool:=decide (k=1∨k=8)
theorem DB:∀ k p,∀ w ∈ p6 k p,(35:UInt8) ∉ w:=by
 intro k p
 unfold p6
 split<;>cases p<;>decide
theorem MW (k:Nat) (p:Bool):n9 35 (P6 k p)=p6 k p:=
 nV (by unfold p6;split<;>simp) (DB k p)
def fill:List (List UInt8)→List Int→List UInt8
 | [],_=> []
 | [p],_=>p
 |p::ps,[]=>p++35::fill ps []
 |p::ps,v::vs=>p++(Lib.itoa v++fill ps vs)
def aT0 (x:p7) (n:Int):List Int:=if x.kind=1∨x.kind=8 then [n] else [x.a,x.b]
def J5 (x:p7) (n:Int):List UInt8:=if 1<n∧x.kind ≠ 1∧x.kind ≠ 8 then 32::(Lib.itoa n++32::Q6) else []
theorem pM {x:p7} (n:Int) (hx:D1 x):p5 x n=fill (p6 x.kind x.purl) (aT0 x n)++J5 x n:=by
 have hb:∀ B:List (List UInt8),B ≠ []→join 32 (B++cK x n)=join 32 B++J5 x n:=fun B hB=>by
  unfold cK J5
  split
  ·rw[show B++ [Lib.itoa n,Q6]=(B++ [Lib.itoa n])++ [Q6] from by simp,dV _ _ (by simp),dV _ _ hB]
   simp
  ·simp
 unfold p5 K1
 rw[hb _ (vL x n)]
 congr 1
 obtain ⟨k,p,a,b⟩:=x
 unfold D1 at hx
 simp only at hx
 rcases hx with ⟨rfl|rfl,rfl,rfl⟩|⟨rfl,rfl,rfl,rfl⟩|⟨rfl|rfl|rfl,h2,h3,rfl⟩|⟨rfl|rfl,h2,h3⟩|⟨rfl,rfl,h2,h3,rfl⟩|⟨rfl,h2,h3,rfl⟩
 all_goals
  first
  |(cases p<;>simp[I4,jR,kB,join,p6,fill,aT0,hO,uJ])
  |simp[I4,jR,kB,join,p6,fill,aT0,hO,uJ]
def I5 (s:List UInt8):List UInt8:=(s.take 4).takeWhile A6
def aB:List UInt8→Int
 |l=>l.foldl (fun a d=>10*a+((d.toNat:Int) - 48)) 0
def eC (s:List UInt8):List UInt8:=s.drop (I5 s).length
theorem bA0:∀ (w:List UInt8),(∀ c ∈ w,A6 c=true)→w.takeWhile A6=w
 | [],_=>rfl
 |c::w,h=>by rw[List.takeWhile_cons,h c (by simp),if_pos rfl,bA0 w fun x hx=>h x (List.mem_cons_of_mem _ hx)]
theorem aD5 {w r:List UInt8} (hw:∀ c ∈ w,A6 c=true) (hl:w.length≤4) (hr:w.length=4∨∀ c,r.head? =some c→A6 c=false):I5 (w++r)=w:=by
 unfold I5
 rw[List.take_append,List.take_of_length_le hl,List.takeWhile_append]
 have h1:w.takeWhile A6=w:=bA0 w hw
 rw[h1,if_pos rfl]
 rcases hr with h|h
 ·rw[h];simp
 ·cases r with
  |nil=>simp
  |cons c r=>
   have:=h c rfl
   cases hk:4 - w.length with
   |zero=>simp
   |succ k=>rw[List.take_succ_cons,List.takeWhile_cons,this];simp
theorem sH (l:List UInt8) (d:UInt8):aB (l++ [d])=10*aB l+((d.toNat:Int) - 48):=by simp[aB]
theorem uF:∀ (n u:Nat),u≤n→aB (Lib.decDigits u)=u
 |n,u,hn=>by
  rw[Lib.decDigits]
  split
  ·rename_i h
   have:=(bB h).2
   simp only[aB,List.foldl_cons,List.foldl_nil,this]
   omega
  ·cases n with
   |zero=>omega
   |succ n=>
    rw[sH,uF n (u / 10) (by omega),(bB (show u % 10<10 by omega)).2]
    omega
theorem eJ {z:Int} (h:0≤z):aB (Lib.itoa z)=z:=by
 obtain ⟨u,rfl⟩:=Int.eq_ofNat_of_zero_le h
 rw[Lib.itoa_nonneg]
 exact uF u u (Nat.le_refl _)
theorem C5 {z:Int} (h:0≤z) (h1:z≤9999):(Lib.itoa z).length≤4:=by
 obtain ⟨u,rfl⟩:=Int.eq_ofNat_of_zero_le h
 rw[Lib.itoa_nonneg]
 exact Y4 3 u (by omega)
def R1 (r:List UInt8):Prop:=∀ c,r.head? =some c→A6 c=false
theorem W7 {z:Int} (h:0≤z) (h1:z≤9999) {r:List UInt8} (hr:R1 r):I5 (Lib.itoa z++r)=Lib.itoa z:=
 aD5 (xH h) (C5 h h1) (.inr hr)
theorem cE {z:Int} (h:0≤z) (h1:z≤9999) {r:List UInt8} (hr:R1 r):eC (Lib.itoa z++r)=r:=by
 unfold eC
 rw[W7 h h1 hr,List.drop_left]
def s5 (p s:List UInt8):Option (List UInt8):=if p.length≤s.length∧s.take p.length=p then some (s.drop p.length) else none
theorem G0 (p r:List UInt8):s5 p (p++r)=some r:=by
 unfold s5
 rw[if_pos ⟨by simp,by simp⟩]
 simp
def S6:List (List UInt8)→List UInt8→List Int→Option (List Int × List UInt8)
 | [],s,l=>some (l,s)
 |p::ps,s,l=>if I5 s= [] then none else match s5 p (eC s) with
  |none=>none
  |some t=>S6 ps t (l++ [aB (I5 s)])
def C0 (f:List (List UInt8)) (s:List UInt8):Option (List Int × List UInt8):=match f with
 | []=>some ([],s)
 |p::ps=>match s5 p s with
  |none=>none
  |some t=>S6 ps t []
theorem xU:∀ (ps:List (List UInt8)) (s:List UInt8) (l m:List Int) (r:List UInt8),S6 ps s l=some (m,r)→m.length=l.length+ps.length∧r.length≤s.length
 | [],s,l,m,r,h=>by cases h;simp
 |p::ps,s,l,m,r,h=>by
  rw[S6] at h
  split at h
  ·cases h
  ·cases hc:s5 p (eC s) with
   |none=>rw[hc] at h;cases h
   |some t=>
    rw[hc] at h
    have:=xU ps t _ m r h
    unfold s5 at hc
    split at hc
    ·cases hc
     rw[List.length_append,List.length_drop] at this
     unfold eC at this
     rw[List.length_drop] at this
     simp only[List.length_cons,List.length_nil] at this ⊢
     omega
    ·cases hc
theorem nG {f:List (List UInt8)} {s r:List UInt8} {m:List Int} (hf:f ≠ []) (h:C0 f s=some (m,r)):m.length+1=f.length∧r.length≤s.length:=by
 cases f with
 |nil=>exact absurd rfl hf
 |cons p ps=>
  unfold C0 at h
  cases hc:s5 p s with
  |none=>simp only[hc] at h;cases h
  |some t=>
   simp only[hc] at h
   have:=xU ps t [] m r h
   unfold s5 at hc
   split at hc
   ·cases hc
    rw[List.length_drop] at this
    simp only[List.length_cons,List.length_nil] at this ⊢
    omega
   ·cases hc
theorem jE:∀ (ps:List (List UInt8)) (v:Int) (vs:List Int) (r:List UInt8) (l:List Int),ps ≠ []→vs.length+1=ps.length→(∀ z ∈ v::vs,0≤z∧z≤9999)→(∀ p ∈ ps.dropLast,p ≠ [])→(∀ p ∈ ps,R1 p)→R1 r→
  S6 ps (Lib.itoa v++fill ps vs++r) l=some (l++v::vs,r)
 | [],v,vs,r,l,h,_,_,_,_,_=>absurd rfl h
 | [p],v,vs,r,l,_,hl,hv,hne,hp,hr=>by
  have:vs= []:=by cases vs with
   |nil=>rfl
   |cons a b=>simp at hl
  subst this
  have h0:=hv v (by simp)
  have hnd:R1 (p++r):=by
   cases p with
   |nil=>exact hr
   |cons c q=>intro d hd;exact hp (c::q) (by simp) d (by simpa using hd)
  rw[fill,List.append_assoc,S6,W7 h0.1 h0.2 hnd,if_neg oY,cE h0.1 h0.2 hnd,G0,eJ h0.1]
  rfl
 |p::q::ps,v,vs,r,l,_,hl,hv,hne,hp,hr=>by
  cases vs with
  |nil=>simp at hl
  |cons u us=>
   have h0:=hv v (by simp)
   have hpn:=hne p (by simp)
   have hnd:R1 (p++(Lib.itoa u++fill (q::ps) us++r)):=by
    cases p with
    |nil=>exact absurd rfl hpn
    |cons c t=>intro d hd;exact hp (c::t) (by simp) d (by simpa using hd)
   have e:Lib.itoa v++fill (p::q::ps) (u::us)++r=Lib.itoa v++(p++(Lib.itoa u++fill (q::ps) us++r)):=by
    rw[fill]
    ·simp
    ·simp
   rw[e,S6,W7 h0.1 h0.2 hnd,if_neg oY,cE h0.1 h0.2 hnd,G0,eJ h0.1]
   simp only
   rw[jE (q::ps) u us r _ (by simp) (by simpa using hl) (fun z hz=>hv z (List.mem_cons_of_mem _ hz)) (fun z hz=>hne z (by simp at hz ⊢;exact .inr hz)) (fun z hz=>hp z (List.mem_cons_of_mem _ hz)) hr]
   simp
def dG:List UInt8:=32::Q6
def J4 (p s:List UInt8):Option (List UInt8):=if p.length≤s.length∧s.drop (s.length - p.length)=p then some (s.take (s.length - p.length)) else none
theorem wD (p r:List UInt8):J4 p (r++p)=some r:=by
 unfold J4
 rw[if_pos ⟨by simp,by simp⟩]
 simp
def sW (k:Nat) (p:Bool) (m:List Int):p7:=if countB k=true then ⟨k,p,0,0⟩ else match m with
 | [a,b]=>⟨k,p,a,b⟩
 | [a]=>⟨k,p,a,0⟩
 |_=>⟨k,p,0,0⟩
def Z4 (k:Nat) (m:List Int) (rest:List UInt8):Int × List UInt8:=if countB k=true then (m.headD 0,rest) else match J4 dG rest with
 |none=>(1,rest)
 |some t=>(aB (I5 ((s5 [32] t).getD t)),eC ((s5 [32] t).getD t))
def P5 (x:p7) (q:Int × List UInt8) (s:List UInt8):Option (p7 × Int):=if q.2= []∧(1≤q.1∧q.1≤200)∧D1 x∧p5 x q.1=s then some (x,q.1) else none
def iJ (k:Nat) (p:Bool) (s:List UInt8):Option (p7 × Int):=match C0 (p6 k p) s with
 |none=>none
 |some (m,r)=>P5 (sW k p m) (Z4 k m r) s
theorem vV {x y:p7} {q:Int × List UInt8} {s:List UInt8} {n:Int} (h:P5 x q s=some (y,n)):V2 s=some (y,n):=by
 unfold P5 at h
 split at h
 ·rename_i hc
  cases h
  rw[← hc.2.2.2]
  exact pT hc.2.2.1 hc.2.1.1 hc.2.1.2
 ·cases h
theorem TI {k:Nat} {p:Bool} {s:List UInt8} {x:p7} {n:Int} (h:iJ k p s=some (x,n)):V2 s=some (x,n):=by
 unfold iJ at h
 cases hm:C0 (p6 k p) s with
 |none=>rw[hm] at h;cases h
 |some r=>
  obtain ⟨m,r⟩:=r
  rw[hm] at h
  exact vV h
instance bZ3 (r:List UInt8):Decidable (R1 r):=decidable_of_iff (r.head?.all (fun c=> !A6 c)=true) (by
 cases r with
 |nil=>simp[R1]
 |cons c r=>simp[R1])
theorem TX:∀ k p,∀ w ∈ p6 k p,R1 w:=by
 intro k p
 unfold p6
 split<;>cases p<;>decide
theorem TY:∀ k p,∀ w ∈ (p6 k p).tail.dropLast,w ≠ []:=by
 intro k p
 unfold p6
 split<;>cases p<;>decide
theorem VN (x:p7) (n:Int):R1 (J5 x n):=by
 unfold J5
 split
 ·intro c hc;cases hc;decide
 ·intro c hc;cases hc
theorem IZ {x:p7} {n:Int} (hx:D1 x) (h0:1≤n) (h1:n≤200):C0 (p6 x.kind x.purl) (p5 x n)=some (if x.kind=2 then [] else (if x.kind=6∨x.kind=7 then [x.a,x.b] else if x.kind=1∨x.kind=8 then [n] else [x.a]),J5 x n):=by
 rw[pM n hx]
 have hd:=TX x.kind x.purl
 have hm:=TY x.kind x.purl
 have ht:=VN x n
 have hb:=hx.bounds
 have two:∀ (p q:List UInt8) (v:Int),0≤v→v≤9999→R1 q→∀ t,R1 t→C0 [p,q] (fill [p,q] [v]++t)=some ([v],t):=fun p q v a b c t d=>by
  rw[fill,List.append_assoc,C0,G0]
  ·have:=jE [q] v [] t [] (by simp) rfl (by simp;omega) (by simp) (by simpa using c) d
   exact this
  ·simp
 have one:∀ p t:List UInt8,C0 [p] (p++t)=some ([],t):=fun p t=>by
  unfold C0
  simp only[G0]
  rfl
 have two':∀ (p q:List UInt8) (v u:Int),0≤v→v≤9999→R1 q→∀ t,R1 t→C0 [p,q] (fill [p,q] [v,u]++t)=some ([v],t):=fun p q v u a b c t d=>by
  have:=two p q v a b c t d
  have e:fill [p,q] [v,u]=fill [p,q] [v]:=by
   rw[fill,fill,fill,fill]<;>simp
  rw[e];exact this
 have three:∀ (p q r:List UInt8) (v u:Int),0≤v→v≤9999→0≤u→u≤9999→R1 q→q ≠ []→R1 r→∀ t,R1 t→C0 [p,q,r] (fill [p,q,r] [v,u]++t)=some ([v,u],t):=fun p q r v u a b a' b' c c' d t e=>by
  rw[fill,List.append_assoc,C0,G0]
  ·have:=jE [q,r] v [u] t [] (by simp) rfl (by simp;omega) (by simpa using c') (by simpa using ⟨c,d⟩) e
   exact this
  ·simp
 obtain ⟨k,p,a,b⟩:=x
 unfold D1 at hx
 simp only at hx hb hd hm ht ⊢
 rcases hx with ⟨rfl|rfl,rfl,rfl⟩|⟨rfl,rfl,rfl,rfl⟩|⟨rfl|rfl|rfl,h2,h3,rfl⟩|⟨rfl|rfl,h2,h3⟩|⟨rfl,rfl,h2,h3,rfl⟩|⟨rfl,h2,h3,rfl⟩
 ·exact two _ _ n (by omega) (by omega) (hd _ (by simp[p6])) _ ht
 ·exact two _ _ n (by omega) (by omega) (hd _ (by simp[p6])) _ ht
 ·exact one _ _
 ·exact two' _ _ a 0 (by omega) (by omega) (hd _ (by simp[p6])) _ ht
 ·exact two' _ _ a 0 (by omega) (by omega) (hd _ (by simp[p6])) _ ht
 ·exact two' _ _ a 0 (by omega) (by omega) (hd _ (by simp[p6])) _ ht
 ·exact three _ _ _ a b (by omega) (by omega) (by omega) (by omega) (hd _ (by simp[p6])) (hm _ (by simp[p6])) (hd _ (by simp[p6])) _ ht
 ·exact three _ _ _ a b (by omega) (by omega) (by omega) (by omega) (hd _ (by simp[p6])) (hm _ (by simp[p6])) (hd _ (by simp[p6])) _ ht
 ·exact two' _ _ a 0 (by omega) (by omega) (hd _ (by simp[p6])) _ ht
 ·exact two' _ _ a 0 (by omega) (by omega) (hd _ (by simp[p6])) _ ht
theorem LT {x:p7} {n:Int} (hk:¬ (x.kind=1∨x.kind=8)) (h0:1≤n) (h1:n≤200) (m:List Int):Z4 x.kind m (J5 x n)=(n,[]):=by
 unfold Z4 countB
 rw[decide_eq_false hk,if_neg (by decide)]
 unfold J5
 by_cases h2:1<n
 ·rw[if_pos ⟨h2,fun e=>hk (.inl e),fun e=>hk (.inr e)⟩,show (32::(Lib.itoa n++32::Q6))=(32::Lib.itoa n)++dG from by simp[dG],wD]
  have e:s5 [32] (32::Lib.itoa n)=some (Lib.itoa n):=G0 [32] (Lib.itoa n)
  have hd:R1 []:=by decide
  have d1:=W7 (z:=n) (by omega) (by omega) hd
  have d2:=cE (z:=n) (by omega) (by omega) hd
  rw[List.append_nil] at d1 d2
  simp only[e,Option.getD_some,d1,d2,eJ (show 0≤n by omega)]
 ·rw[if_neg (fun e=>h2 e.1)]
  have:n=1:=by omega
  subst this
  rfl
theorem aM6 {x:p7} {n:Int} (hx:D1 x) (h0:1≤n) (h1:n≤200):iJ x.kind x.purl (p5 x n)=some (x,n):=by
 unfold iJ
 rw[IZ hx h0 h1]
 simp only
 have fin:∀ m,sW x.kind x.purl m=x→Z4 x.kind m (J5 x n)=(n,[])→P5 (sW x.kind x.purl m) (Z4 x.kind m (J5 x n)) (p5 x n)=some (x,n):=fun m e1 e2=>by
  rw[e1,e2]
  unfold P5
  rw[if_pos ⟨rfl,⟨h0,h1⟩,hx,rfl⟩]
 have hb:=hx.bounds
 have hx':=hx
 unfold D1 at hx'
 refine fin _ ?_ ?_
 ·clear fin
  obtain ⟨k,p,a,b⟩:=x
  simp only at hx' ⊢
  rcases hx' with ⟨rfl|rfl,rfl,rfl⟩|⟨rfl,rfl,rfl,rfl⟩|⟨rfl|rfl|rfl,h2,h3,rfl⟩|⟨rfl|rfl,h2,h3⟩|⟨rfl,rfl,h2,h3,rfl⟩|⟨rfl,h2,h3,rfl⟩<;>rfl
 ·by_cases hk:x.kind=1∨x.kind=8
  ·have ht:J5 x n= []:=by unfold J5;rw[if_neg (by omega)]
   rw[ht]
   unfold Z4 countB
   rw[decide_eq_true hk,if_pos rfl]
   rcases hk with e|e<;>simp[e]
  ·exact LT hk h0 h1 _
def I9 (l:List UInt8):Option Int:=if l ≠ []∧l.length≤4∧(1<l.length→l[0]! ≠ 48)∧l.all A6=true then some (((Lib.decFrom 0 l).getD 0:Nat):Int) else none
theorem kW {z:Int} (h0:0≤z) (h1:z≤9999):I9 (Lib.itoa z)=some z:=by
 have hd:=xH h0
 have hl:=C5 h0 h1
 obtain ⟨u,rfl⟩:=Int.eq_ofNat_of_zero_le h0
 rw[Lib.itoa_nonneg] at hd hl ⊢
 have hf:=N5 u u (Nat.le_refl _)
 have h48:∀ (n u:Nat),u≤n→1<(Lib.decDigits u).length→(Lib.decDigits u)[0]! ≠ 48:=by
  intro n
  induction n with
  |zero=>intro u hu h;rw[show u=0 by omega,Lib.decDigits,dif_pos (by decide)] at h;simp at h
  |succ n ih=>
   intro u hu h
   rw[Lib.decDigits] at h ⊢
   split at h
   ·simp at h
   ·rename_i h10
    rw[dif_neg h10]
    by_cases h2:1<(Lib.decDigits (u / 10)).length
    ·have:=ih (u / 10) (by omega) h2
     rw[getElem!_pos _ 0 (by simp),List.getElem_append_left (by omega),← getElem!_pos _ 0 (by omega)]
     exact this
    ·have hlt:u / 10<10:=by
      refine Classical.byContradiction fun hc=>h2 ?_
      rw[Lib.decDigits,dif_neg hc,List.length_append]
      have:=List.length_pos_iff.2 (aR (u / 10 / 10))
      simp;omega
     rw[Lib.decDigits,dif_pos hlt]
     show UInt8.ofNat (48+u / 10) ≠ 48
     intro e
     have e2:=congrArg UInt8.toNat e
     rw[(bB hlt).2] at e2
     have:(48:UInt8).toNat=48:=rfl
     omega
 unfold I9
 rw[if_pos ⟨aR u,hl,h48 u u (Nat.le_refl _),List.all_eq_true.2 hd⟩,hf]
 rfl
theorem yC {c:UInt8} {l:List UInt8} (h:A6 c=false):I9 (c::l)=none:=by
 unfold I9
 rw[if_neg]
 intro hh
 have:=List.all_eq_true.1 hh.2.2.2 c (by simp)
 rw[h] at this;cases this
def N9 (ws:List (List UInt8)):List Int:=ws.filterMap I9
def aK (k:Nat) (p:Bool) (l:List Int):p7 × Int:=
 if k=1∨k=8 then (⟨k,p,0,0⟩,if l.length=0 then 0 else l[0]!)
 else if k=2 then (⟨k,p,0,0⟩,if 0<l.length then l[0]! else 1)
 else if l.length=0 then (⟨k,p,0,0⟩,0)
 else if k=5 then (⟨k,p,l[0]!,0⟩,if 2<l.length then l[2]! else 1)
 else if k=6∨k=7 then (if l.length<2 then (⟨k,p,l[0]!,0⟩,0) else (⟨k,p,l[0]!,l[1]!⟩,if 2<l.length then l[2]! else 1))
 else (⟨k,p,l[0]!,0⟩,if 1<l.length then l[1]! else 1)
def sV (k:Nat) (p:Bool) (s:List UInt8):Option (p7 × Int):=P5 (aK k p (N9 (n9 32 s))).1 ((aK k p (N9 (n9 32 s))).2,[]) s
theorem TJ {k:Nat} {p:Bool} {s:List UInt8} {x:p7} {n:Int} (h:sV k p s=some (x,n)):V2 s=some (x,n):=vV h
theorem KC {x:p7} {n:Int} (hx:D1 x) (h0:1≤n) (h1:n≤200):aK x.kind x.purl (N9 (K1 x n))=(x,n):=by
 have hb:=hx.bounds
 have n1:=kW (z:=n) (by omega) (by omega)
 have n2:=kW (z:=x.a) (by omega) (by omega)
 have n3:=kW (z:=x.b) (by omega) (by omega)
 have ht:N9 (cK x n)=if 1<n∧x.kind ≠ 1∧x.kind ≠ 8 then [n] else []:=by
  unfold cK
  split
  ·simp[N9,n1,yC (show A6 116=false by decide)]
  ·rfl
 have hbase:N9 (I4 x n)=(if x.kind=2 then [] else (if x.kind=6∨x.kind=7 then [x.a,x.b] else if x.kind=1∨x.kind=8 then [n] else if x.kind=5 then [x.a,1] else [x.a])):=by
  have bad:∀ (c:UInt8) (l:List UInt8),A6 c=false→I9 (c::l)=none:=fun c l h=>yC h
  have e1:I9 w1=some 1:=by decide
  have side:∀ p,I9 (jR p)=none:=by intro p;cases p<;>exact yC (by decide)
  have wise:∀ p,(kB p).filterMap I9= []:=by intro p;cases p<;>decide
  have ff:∀ p:Bool,(if p=true then [bC3,BD,wIn,sL] else []).filterMap I9= []:=by intro p;cases p<;>decide
  have cs:I9 BD=none∧I9 bC1=none∧I9 bM0=none∧I9 WD=none∧I9 wOn=none∧I9 bY0=none∧I9 aB3=none∧I9 bX9=none∧I9 wOf=none∧I9 BB=none∧I9 wIn=none∧I9 sL=none∧I9 KH=none∧I9 aB5=none∧I9 aB2=none∧I9 aB1=none∧I9 bX8=none:=by decide
  obtain ⟨c1,c2,c3,c4,c5,c6,c7,c8,c9,c10,c11,c12,c13,c14,c15,c16,c17⟩:=cs
  obtain ⟨k,p,a,b⟩:=x
  unfold D1 at hx
  simp only at hx n1 n2 n3
  rcases hx with ⟨rfl|rfl,rfl,rfl⟩|⟨rfl,rfl,rfl,rfl⟩|⟨rfl|rfl|rfl,h2,h3,rfl⟩|⟨rfl|rfl,h2,h3⟩|⟨rfl,rfl,h2,h3,rfl⟩|⟨rfl,h2,h3,rfl⟩
  all_goals
   simp only[N9,I4,List.filterMap_append,List.filterMap_cons,List.filterMap_nil,n1,n2,n3,e1,side,wise,ff,c1,c2,c3,c4,c5,c6,c7,c8,c9,c10,c11,c12,c13,c14,c15,c16,c17]
   rfl
 have hall:N9 (K1 x n)=N9 (I4 x n)++N9 (cK x n):=List.filterMap_append
 rw[hall,hbase,ht]
 obtain ⟨k,p,a,b⟩:=x
 unfold D1 at hx
 simp only at hx
 by_cases h2:1<n
 all_goals
  rcases hx with ⟨rfl|rfl,rfl,rfl⟩|⟨rfl,rfl,rfl,rfl⟩|⟨rfl|rfl|rfl,h3,h4,rfl⟩|⟨rfl|rfl,h3,h4⟩|⟨rfl,rfl,h3,h4,rfl⟩|⟨rfl,h3,h4,rfl⟩
  all_goals
   simp[aK,h2]
   try omega
theorem aM7 {x:p7} {n:Int} (hx:D1 x) (h0:1≤n) (h1:n≤200):sV x.kind x.purl (p5 x n)=some (x,n):=by
 unfold sV
 rw[dE hx (by omega),KC hx h0 h1]
 unfold P5
 rw[if_pos ⟨rfl,⟨h0,h1⟩,hx,rfl⟩]
theorem EQ {cand:Nat→Bool→List UInt8→Option (p7 × Int)} (hof:∀ {x:p7} {n:Int},D1 x→1≤n→n≤200→cand x.kind x.purl (p5 x n)=some (x,n)) {s:List UInt8} (h:∀ k p,1≤k→k≤10→cand k p s=none):V2 s=none:=by
 cases hr:V2 s with
 |none=>rfl
 |some r=>
  obtain ⟨x,n⟩:=r
  obtain ⟨a,b,c⟩:=nL hr
  have:=hof a b.1 b.2
  rw[c,h x.kind x.purl a.bounds.1 a.bounds.2.1] at this
  cases this
end Go.Itp
namespace Go.Proofs.YtimmmnanllcfoaaGreatDoor
open Go Go.Itp
set_option maxRecDepth 100000
set_option maxHeartbeats 400000
set_option linter.unusedSimpArgs false
set_option linter.unusedVariables false
def fL:Nat→List UInt8
 |3=> [102]|4=> [108]|5=> [109]|6=> [120]|7=> [121]|8=> [115]|10=> [111]
 |_=> []
def fA0:Nat→Int
 |3=>2|4=>2|5=>2|6=>1|7=>1|9=>1|10=>1
 |_=>0
def fA1:Nat→Int
 |3=>4|4=>4|5=>4|6=>6|7=>6|9=>200|10=>200
 |_=>0
def fB0:Nat→Int
 |6=>1|7=>1
 |_=>0
def fB1:Nat→Int
 |6=>6|7=>6
 |_=>0
def fS:Nat→Bool
 |2=>false|9=>false
 |_=>true
def fU:Nat→Nat
 |1=>1|2=>0|3=>2|4=>2|5=>1|6=>3|7=>3|8=>1|9=>0
 |_=>2
def fM:Nat→Nat
 |1=>1|2=>1|3=>1|4=>1|5=>2|6=>3|7=>3|8=>1|9=>2
 |_=>0
def bT (k:Nat):List Value:= [.string ⟨(fL k).toArray⟩,.int .i64 (fA0 k),.int .i64 (fA1 k),.int .i64 (fB0 k),.int .i64 (fB1 k),.bool (fS k),.int .i64 (fU k),.int .i64 (fM k)]
def UA:List D:=(bT 1++bT 2++bT 3++bT 4++bT 5++bT 6++bT 7++bT 8++bT 9++bT 10).map D.sc
theorem cD1 (s g u m:Value) (a b c d:Value):aC (UZ (UZ [.sc s,.sc (.int .i64 0),.sc (.int .i64 0),.sc (.int .i64 0),.sc (.int .i64 0),.sc (.bool false),.sc (.int .i64 0),.sc (.int .i64 0)] 1 [.sc a,.sc b]) 3 [.sc c,.sc d]) [(5,1,.sc g),(6,1,.sc u),(7,1,.sc m)]=some [.sc s,.sc a,.sc b,.sc c,.sc d,.sc g,.sc u,.sc m]:=(rfl)
theorem cD2 (nx t:Nat):N8 nx t 8 10 [.string ⟨#[]⟩,.int .i64 0,.int .i64 0,.int .i64 0,.int .i64 0,.bool false,.int .i64 0,.int .i64 0] [(0,8,.agg [.sc (.string ⟨#[]⟩),.sc (.int .i64 0),.sc (.int .i64 0),.sc (.int .i64 0),.sc (.int .i64 0),.sc (.bool true),.sc (.int .i64 1),.sc (.int .i64 1)]),(8,8,.agg [.sc (.string ⟨#[]⟩),.sc (.int .i64 0),.sc (.int .i64 0),.sc (.int .i64 0),.sc (.int .i64 0),.sc (.bool false),.sc (.int .i64 0),.sc (.int .i64 1)]),(16,8,.agg [.sc (.string ⟨#[102]⟩),.sc (.int .i64 2),.sc (.int .i64 4),.sc (.int .i64 0),.sc (.int .i64 0),.sc (.bool true),.sc (.int .i64 2),.sc (.int .i64 1)]),(24,8,.agg [.sc (.string ⟨#[108]⟩),.sc (.int .i64 2),.sc (.int .i64 4),.sc (.int .i64 0),.sc (.int .i64 0),.sc (.bool true),.sc (.int .i64 2),.sc (.int .i64 1)]),(32,8,.agg [.sc (.string ⟨#[109]⟩),.sc (.int .i64 2),.sc (.int .i64 4),.sc (.int .i64 0),.sc (.int .i64 0),.sc (.bool true),.sc (.int .i64 1),.sc (.int .i64 2)]),(40,8,.agg [.sc (.string ⟨#[120]⟩),.sc (.int .i64 1),.sc (.int .i64 6),.sc (.int .i64 1),.sc (.int .i64 6),.sc (.bool true),.sc (.int .i64 3),.sc (.int .i64 3)]),(48,8,.agg [.sc (.string ⟨#[121]⟩),.sc (.int .i64 1),.sc (.int .i64 6),.sc (.int .i64 1),.sc (.int .i64 6),.sc (.bool true),.sc (.int .i64 3),.sc (.int .i64 3)]),(56,8,.agg [.sc (.string ⟨#[115]⟩),.sc (.int .i64 0),.sc (.int .i64 0),.sc (.int .i64 0),.sc (.int .i64 0),.sc (.bool true),.sc (.int .i64 1),.sc (.int .i64 1)]),(64,8,.agg [.sc (.string ⟨#[]⟩),.sc (.int .i64 1),.sc (.int .i64 200),.sc (.int .i64 0),.sc (.int .i64 0),.sc (.bool false),.sc (.int .i64 0),.sc (.int .i64 2)]),(72,8,.agg [.sc (.string ⟨#[111]⟩),.sc (.int .i64 1),.sc (.int .i64 200),.sc (.int .i64 0),.sc (.int .i64 0),.sc (.bool true),.sc (.int .i64 2),.sc (.int .i64 0)])]=some (.ref nx 0 10 10,some (.row t 8 false false UA),[]):=(rfl)
theorem aD9 (k:Nat) (h1:1≤k) (h2:k≤10):C8 UA ((k - 1)*8) (some 8)=some (.agg ((bT k).map V.sc)):=by
 rcases (by omega:k=1∨k=2∨k=3∨k=4∨k=5∨k=6∨k=7∨k=8∨k=9∨k=10) with rfl|rfl|rfl|rfl|rfl|rfl|rfl|rfl|rfl|rfl<;>rfl
attribute [local irreducible] UA
theorem aI1 {x:p7} (h1:1≤x.kind) (h2:x.kind≤10):D1 x↔(fA0 x.kind≤x.a∧x.a≤fA1 x.kind)∧(fB0 x.kind≤x.b∧x.b≤fB1 x.kind)∧(x.purl=true→fS x.kind=true):=by
 obtain ⟨k,p,a,b⟩:=x
 simp only at h1 h2 ⊢
 unfold D1
 simp only
 rcases (by omega:k=1∨k=2∨k=3∨k=4∨k=5∨k=6∨k=7∨k=8∨k=9∨k=10) with rfl|rfl|rfl|rfl|rfl|rfl|rfl|rfl|rfl|rfl
 all_goals
  cases p<;>simp[fA0,fA1,fB0,fB1,fS]<;>omega
theorem aI2 {x:p7} (h:¬ (1≤x.kind∧x.kind≤10)):C9 x=false:=by
 rw[← Bool.not_eq_true,B4]
 intro hx
 exact h ⟨hx.bounds.1,hx.bounds.2.1⟩
def IX (x:p7) (h:Nat):Int:=if h=0 then 0 else if h=1 then 1 else if h=2 then x.a else x.a+x.b
theorem VV {x:p7} (h1:1≤x.kind) (h2:x.kind≤10):P8 x=IX x (fU x.kind)∧P7 x=IX x (fM x.kind):=by
 obtain ⟨k,p,a,b⟩:=x
 simp only at h1 h2 ⊢
 rcases (by omega:k=1∨k=2∨k=3∨k=4∨k=5∨k=6∨k=7∨k=8∨k=9∨k=10) with rfl|rfl|rfl|rfl|rfl|rfl|rfl|rfl|rfl|rfl
 all_goals
  simp[P8,P7,IX,fU,fM]
theorem aO4 (k:Nat):fU k≤3∧fM k≤3:=by
 constructor
 ·unfold fU;split<;>decide
 ·unfold fM;split<;>decide
abbrev gA (x:p7):V:= .agg [.sc (.int .u8 x.kind),.sc (.bool x.purl),.sc (.int .i64 x.a),.sc (.int .i64 x.b)]
theorem FZ:Int.toNat 0=0:=rfl
theorem tn1:Int.toNat 1=1:=rfl
theorem tn2:Int.toNat 2=2:=rfl
section
variable (w:World) (n:Nat)
theorem XF (k:Nat) (hk:1≤k) (hk2:k≤10):k8 (EN w (n+1)) 61 [.sc (.int .u8 k)] (.tup [.agg ((bT k).map V.sc),.sc (.bool true)]) ⟨[],0,0⟩:=by
 refine b8 rfl rfl (fun _ _=>rfl) (Nat.le_of_ble_eq_true rfl) (d7 w) rfl fun C hC h0=>?_
 have hld:=aD9 k hk hk2
 have hw:IntKind.u8.wrap ((k:Int) - 1)=((k - 1:Nat):Int):=by rw[uW _ (by omega) (by omega)];omega
 unfold bT at hld ⊢
 simp (disch:=first|omega|exact f6|(simp only[i6]<;>omega)) only[WA,Nat.reduceEqDiff,Nat.reduceLT,Nat.reduceAdd,↓reduceIte,reduceCtorEq,List.replicate,c61,cD1,↓cD2]
 rw[hw]
 simp (disch:=first|exact f6|(simp only[i6]<;>omega)) only[WA,Nat.reduceEqDiff,Nat.reduceLT,↓reduceIte,reduceCtorEq,hld]
 exact b7 rfl h0 rfl
theorem aO7 (k:Nat) (hk:¬ (1≤k∧k≤10)) (hb:k<256):k8 (EN w (n+1)) 61 [.sc (.int .u8 k)] (.tup [.agg [.sc (.string ⟨#[]⟩),.sc (.int .i64 0),.sc (.int .i64 0),.sc (.int .i64 0),.sc (.int .i64 0),.sc (.bool false),.sc (.int .i64 0),.sc (.int .i64 0)],.sc (.bool false)]) ⟨[],0,0⟩:=by
 have hne:¬ (k:Int)<1→10<(k:Int):=by omega
 by_cases h1:(k:Int)<1
 all_goals
  refine b8 rfl rfl (fun _ _=>rfl) (Nat.le_of_ble_eq_true rfl) (d7 w) rfl fun C hC h0=>?_
  repeat' (first|(simp (disch:=first|omega|exact f6|(simp only[i6]<;>omega)) only[WA,Nat.reduceEqDiff,Nat.reduceLT,Nat.reduceAdd,↓reduceIte,reduceCtorEq,List.replicate,c61,cD1,↓cD2])|apply s7|((first|apply D5|apply y9|apply z6|apply D6|apply D4|apply z7)<;>intro _))
  all_goals try (exfalso;omega)
  exact b7 rfl h0 rfl
theorem SL (v lo hi:Int):k8 (EN w (n+1)) 62 [.sc (.int .i64 v),.agg [.sc (.int .i64 lo),.sc (.int .i64 hi)]] (.sc (.bool (decide (lo≤v∧v≤hi)))) ⟨[],0,0⟩:=by
 refine b8 rfl rfl (fun _ _=>rfl) (Nat.le_of_ble_eq_true rfl) (d7 w) rfl fun C hC h0=>?_
 by_cases h1:lo≤v
 ·by_cases h2:v≤hi
  ·rw[decide_eq_true ⟨h1,h2⟩]
   simp (disch:=first|omega|exact f6|fail) only[WA,Nat.reduceEqDiff,Nat.reduceLT,↓reduceIte,reduceCtorEq,c62,FZ,tn1]
   all_goals try (exfalso;omega)
   exact b7 rfl h0 rfl
  ·rw[decide_eq_false (fun h=>h2 h.2)]
   simp (disch:=first|omega|exact f6|fail) only[WA,Nat.reduceEqDiff,Nat.reduceLT,↓reduceIte,reduceCtorEq,c62,FZ,tn1]
   all_goals try (exfalso;omega)
   exact b7 rfl h0 rfl
 ·rw[decide_eq_false (fun h=>h1 h.1)]
  simp (disch:=first|omega|exact f6|fail) only[WA,Nat.reduceEqDiff,Nat.reduceLT,↓reduceIte,reduceCtorEq,c62,FZ,tn1]
  all_goals try (exfalso;omega)
  exact b7 rfl h0 rfl
end
end Go.Proofs.YtimmmnanllcfoaaGreatDoor
namespace Go.Proofs.YtimmmnanllcfoaaGreatDoor
open Go Go.Itp
set_option maxRecDepth 100000
set_option maxHeartbeats 400000
set_option linter.unusedSimpArgs false
set_option linter.unusedVariables false
def A5 (L:List p7):List D:=L.flatMap fun x=> [.sc (.int .u8 x.kind),.sc (.bool x.purl),.sc (.int .i64 x.a),.sc (.int .i64 x.b)]
theorem G3 (L:List p7):(A5 L).length=L.length*4:=by
 induction L with
 |nil=>rfl
 |cons p L ih=>
  have e:A5 (p::L)= [.sc (.int .u8 p.kind),.sc (.bool p.purl),.sc (.int .i64 p.a),.sc (.int .i64 p.b)]++A5 L:=by simp[A5]
  rw[e,List.length_append,ih];simp;omega
theorem M0 (L:List p7) (k:Nat) (hk:k<L.length):C8 (A5 L) (k*4) (some 4)=some (gA L[k]!):=by
 have:=wH (fun x:p7=> [D.sc (.int .u8 x.kind),.sc (.bool x.purl),.sc (.int .i64 x.a),.sc (.int .i64 x.b)]) 4 L (fun _=>rfl) (by decide) k hk
 unfold A5
 rw[this]
 rfl
theorem ix0 (a b c d:V):xF 4 1 none (.agg [a,b,c,d]) (.sc (.int .i64 ((0:Nat):Int)))=some a:=(rfl)
theorem ix1 (a b c d:V):xF 4 1 none (.agg [a,b,c,d]) (.sc (.int .i64 ((1:Nat):Int)))=some b:=(rfl)
theorem ix2 (a b c d:V):xF 4 1 none (.agg [a,b,c,d]) (.sc (.int .i64 ((2:Nat):Int)))=some c:=(rfl)
theorem ix3 (a b c d:V):xF 4 1 none (.agg [a,b,c,d]) (.sc (.int .i64 ((3:Nat):Int)))=some d:=(rfl)
section
variable (w:World) (n:Nat)
theorem QN (x:p7) (hk:x.kind<256):k8 (EN w (n+2)) 44 [gA x] (.sc (.int .i64 (if C9 x=true then 0 else 8))) ⟨[],0,0⟩:=by
 by_cases hr:1≤x.kind∧x.kind≤10
 ·have hf:=XF w n x.kind hr.1 hr.2
  have w1:=SL w n x.a (fA0 x.kind) (fA1 x.kind)
  have w2:=SL w n x.b (fB0 x.kind) (fB1 x.kind)
  have he:C9 x=(decide (fA0 x.kind≤x.a∧x.a≤fA1 x.kind) && (decide (fB0 x.kind≤x.b∧x.b≤fB1 x.kind) && (!x.purl||fS x.kind))):=by
   have h1:=aI1 hr.1 hr.2
   rw[Bool.eq_iff_iff,B4,h1]
   cases x.purl<;>simp
  rw[he]
  unfold bT at hf
  generalize decide (fA0 x.kind≤x.a∧x.a≤fA1 x.kind)=A at*
  generalize decide (fB0 x.kind≤x.b∧x.b≤fB1 x.kind)=B at*
  generalize fS x.kind=S at*
  obtain ⟨k,p,a,b⟩:=x
  simp only at hf w1 w2 ⊢
  have go:∀ e:Int,(A=false∧e=8)∨(A=true∧B=false∧e=8)∨(A=true∧B=true∧p=false∧e=0)∨(A=true∧B=true∧p=true∧S=false∧e=8)∨(A=true∧B=true∧p=true∧S=true∧e=0)→k8 (EN w (n+2)) 44 [gA ⟨k,p,a,b⟩] (.sc (.int .i64 e)) ⟨[],0,0⟩:=by
   rintro e (⟨rfl,rfl⟩|⟨rfl,rfl,rfl⟩|⟨rfl,rfl,rfl,rfl⟩|⟨rfl,rfl,rfl,rfl,rfl⟩|⟨rfl,rfl,rfl,rfl,rfl⟩)
   all_goals
    refine b8 rfl rfl (fun _ _=>rfl) (Nat.le_of_ble_eq_true rfl) (d7 w) rfl fun C hC h0=>?_
    repeat' (first|(simp (disch:=first|exact f6|fail) only[WA,Nat.reduceEqDiff,Nat.reduceLT,↓reduceIte,reduceCtorEq,c44]))
    refine a6 (by rw[hC];exact hf.flat rfl rfl) ?_
    repeat' (first|(simp (disch:=first|exact f6|(simp only[i6]<;>omega)) only[WA,Nat.reduceEqDiff,Nat.reduceLT,Nat.reduceAdd,↓reduceIte,reduceCtorEq,List.replicate]))
    refine a6 (by rw[hC];exact w1.flat rfl rfl) ?_
    repeat' (first|(simp (disch:=first|exact f6|fail) only[WA,Nat.reduceEqDiff,Nat.reduceLT,↓reduceIte,reduceCtorEq]))
   ·exact b7 rfl h0 rfl
   all_goals
    refine a6 (by rw[hC];exact w2.flat rfl rfl) ?_
    repeat' (first|(simp (disch:=first|exact f6|fail) only[WA,Nat.reduceEqDiff,Nat.reduceLT,↓reduceIte,reduceCtorEq]))
    exact b7 rfl h0 rfl
  refine go _ ?_
  cases A<;>cases B<;>cases p<;>cases S<;>simp
 ·have hf:=aO7 w n x.kind hr hk
  rw[aI2 hr]
  obtain ⟨k,p,a,b⟩:=x
  refine b8 rfl rfl (fun _ _=>rfl) (Nat.le_of_ble_eq_true rfl) (d7 w) rfl fun C hC h0=>?_
  simp (disch:=first|exact f6|fail) only[WA,Nat.reduceEqDiff,Nat.reduceLT,↓reduceIte,reduceCtorEq,c44]
  refine a6 (by rw[hC];exact hf.flat rfl rfl) ?_
  simp (disch:=first|omega|exact f6|(simp only[i6]<;>omega)) only[WA,Nat.reduceEqDiff,Nat.reduceLT,Nat.reduceAdd,↓reduceIte,List.replicate]
  exact b7 rfl h0 rfl
theorem YN (x:p7) (h:Nat) (hh:h≤3) (ha: -1000000≤x.a∧x.a≤1000000) (hb: -1000000≤x.b∧x.b≤1000000):k8 (EN w (n+1)) 63 [gA x,.sc (.int .i64 h)] (.sc (.int .i64 (IX x h))) ⟨[],0,0⟩:=by
 obtain ⟨k,p,a,b⟩:=x
 simp only at ha hb
 rcases (by omega:h=0∨h=1∨h=2∨h=3) with rfl|rfl|rfl|rfl
 all_goals
  refine b8 rfl rfl (fun _ _=>rfl) (Nat.le_of_ble_eq_true rfl) (d7 w) rfl fun C hC h0=>?_
  repeat' (first|(simp (disch:=first|omega|exact f6|(simp only[i6]<;>omega)) only[WA,Nat.reduceEqDiff,Nat.reduceLT,↓reduceIte,reduceCtorEq,c63,ix0,ix1,ix2,ix3]))
  all_goals try (exfalso;omega)
  exact b7 rfl h0 rfl
theorem lN {f:p7→Int} {L:List p7} (h:∀ x ∈ L,0≤f x∧f x≤1000):0≤Q4 f L∧Q4 f L≤1000*L.length:=by
 induction L with
 |nil=>simp[Q4]
 |cons x L ih=>
  have h1:=h x (by simp)
  have h2:=ih fun y hy=>h y (List.mem_cons_of_mem _ hy)
  simp only[Q4,List.length_cons]
  omega
theorem lM {f:p7→Int} {L:List p7} {k:Nat} (hk:k<L.length):Q4 f (L.take (k+1))=Q4 f (L.take k)+f L[k]! :=by
 have app:∀ A B:List p7,Q4 f (A++B)=Q4 f A+Q4 f B:=by
  intro A B
  induction A with
  |nil=>simp[Q4]
  |cons x A ih=>simp only[List.cons_append,Q4,ih];omega
 rw[List.take_succ_eq_append_getElem hk,app,getElem!_pos _ k hk]
 simp[Q4]
theorem Y1 {x:p7} (h:D1 x):(0≤P8 x∧P8 x≤1000)∧0≤P7 x∧P7 x≤1000:=by
 have hb:=h.bounds
 unfold P8 P7
 constructor
 ·split
  ·omega
  split
  ·omega
  split<;>omega
 ·split
  ·omega
  split
  ·omega
  split<;>omega
theorem bW0 (s:Nat) (L:List p7) (hL:L.length≤200) (hok:L.all C9=true):k8 (EN w (n+2)) 45 [.sl s L.length (A5 L)] (.tup [.sc (.int .i64 (Q4 P8 L)),.sc (.int .i64 (Q4 P7 L))]) ⟨[],0,0⟩:=by
 refine b8 rfl rfl (fun _ _=>rfl) (Nat.le_of_ble_eq_true rfl) (d7 w) rfl fun C hC h0=>?_
 have hrn:C.E.rounds=A4:=by rw[hC,j5]
 have hil:=G3 L
 simp (disch:=first|exact f6|fail) only[WA,Nat.reduceEqDiff,Nat.reduceLT,↓reduceIte,reduceCtorEq,c45]
 all_goals try (exfalso;omega)
 refine s8 (fun m fr st=>∃ (k:Nat),m=L.length - k∧k≤L.length∧fr= [(2,.sc (.int .i64 (Q4 P8 (L.take k)))),(3,.sc (.int .i64 (Q4 P7 (L.take k)))),(8,.sl s L.length (A5 L)),(9,.sc (.int .i64 L.length)),(10,.sc (.int .i64 k))]∧st=⟨[],0,0⟩) L.length ?_ ⟨_,_,.refl _ _,0,by omega,Nat.zero_le _,rfl,rfl⟩ ?_
 ·rw[hrn];unfold A4;omega
 rintro m fr st ⟨k,rfl,hk,rfl,rfl⟩
 by_cases hlt:k<L.length
 case neg=>
  have:k=L.length:=by omega
  subst this
  rw[List.take_length]
  simp (disch:=first|omega|exact f6|fail) only[WA,Nat.reduceEqDiff,Nat.reduceLT,↓reduceIte,aL6]
  all_goals try (exfalso;omega)
  exact b7 rfl h0 rfl
 have hag:=M0 L k hlt
 have u1:=lM (f:=P8) hlt
 have u2:=lM (f:=P7) hlt
 have htk:∀ x ∈ L.take k,D1 x:=fun x hx=>B4.1 (List.all_eq_true.1 hok x (List.mem_of_mem_take hx))
 have b1:=lN (f:=P8) fun x hx=>(Y1 (htk x hx)).1
 have b2:=lN (f:=P7) fun x hx=>(Y1 (htk x hx)).2
 have hl2:(L.take k).length≤200:=by rw[List.length_take];omega
 have hx:D1 L[k]! :=B4.1 (List.all_eq_true.1 hok _ (by rw[getElem!_pos _ k hlt];exact List.getElem_mem hlt))
 generalize L[k]! =X at*
 have hb:=hx.bounds
 have c1:=Y1 hx
 have hf:=XF w n X.kind hb.1 hb.2.1
 have l1:=YN w n X (fU X.kind) (aO4 _).1 (by omega) (by omega)
 have l2:=YN w n X (fM X.kind) (aO4 _).2 (by omega) (by omega)
 have e:=VV hb.1 hb.2.1
 rw[← e.1] at l1
 rw[← e.2] at l2
 unfold bT at hf
 generalize Q4 P8 (L.take k)=U at*
 generalize Q4 P7 (L.take k)=M at*
 generalize P8 X=uu at*
 generalize P7 X=mm at*
 obtain ⟨xk,xp,xa,xb⟩:=X
 simp (disch:=first|omega|exact f6|(simp only[i6]<;>omega)) only[WA,Nat.reduceEqDiff,Nat.reduceLT,↓reduceIte,List.replicate,aL6,hag]
 all_goals try (exfalso;omega)
 refine a6 (by rw[hC];exact hf.flat rfl rfl) ?_
 simp (disch:=first|exact f6|(simp only[i6]<;>omega)) only[WA,Nat.reduceEqDiff,Nat.reduceLT,Nat.reduceAdd,↓reduceIte,reduceCtorEq,List.replicate]
 refine a6 (by rw[hC];exact l1.flat rfl rfl) ?_
 simp (disch:=first|omega|exact f6|fail) only[WA,Nat.reduceEqDiff,Nat.reduceLT,↓reduceIte,reduceCtorEq]
 refine a6 (by rw[hC];exact l2.flat rfl rfl) ?_
 simp (disch:=first|omega|exact f6|fail) only[WA,Nat.reduceEqDiff,Nat.reduceLT,↓reduceIte]
 all_goals try (exfalso;omega)
 refine ⟨L.length - (k+1),_,_,by omega,p9 [] 0 h0 rfl rfl rfl rfl,k+1,rfl,by omega,?_,rfl⟩
 rw[u1,u2]
 rfl
end
abbrev SU (L:List p7):Prop:=∀ x ∈ L,x.kind<256
theorem SU.at {L:List p7} (h:SU L) {k:Nat} (hk:k<L.length):L[k]!.kind<256:=h _ (by rw[getElem!_pos _ k hk];exact List.getElem_mem hk)
theorem FV {L:List p7} {k:Nat} (hk:k<L.length) (h:(L.take k).all C9=true) (h2:C9 L[k]! =true):(L.take (k+1)).all C9=true:=by
 rw[List.take_succ_eq_append_getElem hk,List.all_append,h]
 rw[getElem!_pos _ k hk] at h2
 simp[h2]
theorem QZ {L:List p7} {k:Nat} (hk:k<L.length) (h2:C9 L[k]! =false):¬ L.all C9=true:=fun h=>by
 rw[getElem!_pos _ k hk] at h2
 have:=List.all_eq_true.1 h _ (List.getElem_mem hk)
 rw[this] at h2;cases h2
section
variable (w:World) (n:Nat)
theorem bJ1 (x:p7) (hk:x.kind<256):k8 (EN w (n+3)) 43 [gA x] (.sc (.bool (!C9 x))) ⟨[],0,0⟩:=by
 have hc:=QN w n x hk
 cases he:C9 x with
 |true=>
  rw[he,if_pos rfl] at hc
  obtain ⟨xk,xp,xa,xb⟩:=x
  refine b8 rfl rfl (fun _ _=>rfl) (Nat.le_of_ble_eq_true rfl) (d7 w) rfl fun C hC h0=>?_
  simp (disch:=first|exact f6|fail) only[WA,Nat.reduceEqDiff,Nat.reduceLT,↓reduceIte,reduceCtorEq,c43]
  refine a6 (by rw[hC];exact hc.flat rfl rfl) ?_
  simp (disch:=first|exact f6|fail) only[WA,Nat.reduceEqDiff,Nat.reduceLT,↓reduceIte]
  exact b7 rfl h0 rfl
 |false=>
  rw[he,if_neg (by decide)] at hc
  obtain ⟨xk,xp,xa,xb⟩:=x
  refine b8 rfl rfl (fun _ _=>rfl) (Nat.le_of_ble_eq_true rfl) (d7 w) rfl fun C hC h0=>?_
  simp (disch:=first|exact f6|fail) only[WA,Nat.reduceEqDiff,Nat.reduceLT,↓reduceIte,reduceCtorEq,c43]
  refine a6 (by rw[hC];exact hc.flat rfl rfl) ?_
  simp (disch:=first|exact f6|(simp only[i6]<;>omega)) only[WA,Nat.reduceEqDiff,Nat.reduceLT,Int.reduceEq,↓reduceIte]
  exact b7 rfl h0 rfl
theorem aY6 (s:Nat) (L:List p7) (hL:L.length≤200) (hK:SU L):∃ r:Int,(L.all C9=true→r= -1)∧(¬ L.all C9=true→0≤r)∧
  k8 (EN w (n+4)) 60 [.sl s L.length (A5 L),.sc (.func (.func 43) #[] #[])] (.sc (.int .i64 r)) ⟨[],0,0⟩:=by
 have main:∀ (j:Nat),j≤L.length→(L.take j).all C9=true→(j<L.length→C9 L[j]! =false)→k8 (EN w (n+4)) 60 [.sl s L.length (A5 L),.sc (.func (.func 43) #[] #[])] (.sc (.int .i64 (if j<L.length then (j:Int) else -1))) ⟨[],0,0⟩:=by
  intro j hj hall hbad
  refine b8 rfl rfl (fun _ _=>rfl) (Nat.le_of_ble_eq_true rfl) (d7 w) rfl fun C hC h0=>?_
  have hrn:C.E.rounds=A4:=by rw[hC,j5]
  have hil:=G3 L
  simp (disch:=first|exact f6|fail) only[WA,Nat.reduceEqDiff,Nat.reduceLT,Int.reduceNeg,↓reduceIte,reduceCtorEq,c60]
  all_goals try (exfalso;omega)
  refine s8 (fun m fr st=>∃ (k:Nat),m=L.length - k∧k≤j∧fr= [(0,.sl s L.length (A5 L)),(1,.sc (.func (.func 43) #[] #[])),(7,.sc (.int .i64 L.length)),(8,.sc (.int .i64 k))]∧st=⟨[],0,0⟩) L.length ?_ ⟨_,_,.refl _ _,0,by omega,Nat.zero_le _,rfl,rfl⟩ ?_
  ·rw[hrn];unfold A4;omega
  rintro m fr st ⟨k,rfl,hk,rfl,rfl⟩
  by_cases hlt:k<L.length
  case neg=>
   rw[if_neg (by omega)]
   simp (disch:=first|omega|exact f6|fail) only[WA,Nat.reduceEqDiff,Nat.reduceLT,Int.reduceNeg,↓reduceIte,reduceCtorEq,WS]
   all_goals try (exfalso;omega)
   exact b7 rfl h0 rfl
  have hag:=M0 L k hlt
  have h1:=bJ1 w n L[k]! (hK.at hlt)
  by_cases hkj:k=j
  ·subst hkj
   rw[hbad hlt] at h1
   rw[if_pos hlt]
   generalize L[k]! =X at*
   obtain ⟨xk,xp,xa,xb⟩:=X
   simp (disch:=first|omega|exact f6|fail) only[WA,Nat.reduceEqDiff,Nat.reduceLT,Int.reduceNeg,↓reduceIte,reduceCtorEq,WS,hag]
   all_goals try (exfalso;omega)
   refine a6 (by rw[hC];exact h1.flat rfl rfl) ?_
   simp (disch:=first|exact f6|fail) only[WA,Nat.reduceEqDiff,Nat.reduceLT,Int.reduceNeg,↓reduceIte,reduceCtorEq]
   exact b7 rfl h0 rfl
  ·have ho:C9 L[k]! =true:=List.all_eq_true.1 hall _ (by
    rw[getElem!_pos _ k hlt]
    exact List.mem_iff_getElem.2 ⟨k,by rw[List.length_take];omega,List.getElem_take⟩)
   rw[ho] at h1
   generalize L[k]! =X at*
   obtain ⟨xk,xp,xa,xb⟩:=X
   simp (disch:=first|omega|exact f6|fail) only[WA,Nat.reduceEqDiff,Nat.reduceLT,Int.reduceNeg,↓reduceIte,reduceCtorEq,WS,hag]
   all_goals try (exfalso;omega)
   refine a6 (by rw[hC];exact h1.flat rfl rfl) ?_
   simp (disch:=first|omega|exact f6|fail) only[WA,Nat.reduceEqDiff,Nat.reduceLT,Int.reduceNeg,↓reduceIte,reduceCtorEq]
   exact ⟨L.length - (k+1),_,_,by omega,.refl _ _,k+1,rfl,by omega,rfl,rfl⟩
 have hex:∃ j,j≤L.length∧(L.take j).all C9=true∧(j<L.length→C9 L[j]! =false):=by
  have:∀ m,m≤L.length→(L.take m).all C9=true∨∃ j,j<m∧(L.take j).all C9=true∧C9 L[j]! =false:=by
   intro m
   induction m with
   |zero=>intro _;exact .inl rfl
   |succ m ih=>
    intro hm
    rcases ih (by omega) with h|⟨j,h1,h2,h3⟩
    ·cases hc:C9 L[m]! with
     |true=>exact .inl (FV (by omega) h hc)
     |false=>exact .inr ⟨m,by omega,h,hc⟩
    ·exact .inr ⟨j,by omega,h2,h3⟩
  rcases this L.length (Nat.le_refl _) with h|⟨j,h1,h2,h3⟩
  ·exact ⟨L.length,Nat.le_refl _,h,fun h=>absurd h (Nat.lt_irrefl _)⟩
  ·exact ⟨j,by omega,h2,fun _=>h3⟩
 obtain ⟨j,h1,h2,h3⟩:=hex
 refine ⟨_,fun hall=>?_,fun hall=>?_,main j h1 h2 h3⟩
 ·rw[if_neg fun h=>QZ h (h3 h) hall]
 ·by_cases h:j<L.length
  ·rw[if_pos h];omega
  ·have:j=L.length:=by omega
   subst this
   rw[List.take_length] at h2
   exact absurd h2 hall
theorem QO (s:Nat) (L:List p7) (hL:L.length≤200) (hK:SU L):k8 (EN w (n+5)) 42 [.sl s L.length (A5 L),.sc (.func (.func 43) #[] #[])] (.sc (.bool (!(L.all C9)))) ⟨[],0,0⟩:=by
 obtain ⟨r,h1,h2,hr⟩:=aY6 w n s L hL hK
 cases ha:L.all C9 with
 |true=>
  have e:=h1 ha
  subst e
  refine b8 rfl rfl (fun _ _=>rfl) (Nat.le_of_ble_eq_true rfl) (d7 w) rfl fun C hC h0=>?_
  simp (disch:=first|exact f6|fail) only[WA,Nat.reduceEqDiff,Nat.reduceLT,↓reduceIte,reduceCtorEq,c42]
  refine a6 (by rw[hC];exact hr.flat rfl rfl) ?_
  simp (disch:=first|exact f6|fail) only[WA,Nat.reduceEqDiff,Nat.reduceLT,Int.reduceLE,Int.reduceNeg,↓reduceIte,reduceCtorEq]
  exact b7 rfl h0 rfl
 |false=>
  have e:=h2 (by rw[ha];decide)
  refine b8 rfl rfl (fun _ _=>rfl) (Nat.le_of_ble_eq_true rfl) (d7 w) rfl fun C hC h0=>?_
  simp (disch:=first|exact f6|fail) only[WA,Nat.reduceEqDiff,Nat.reduceLT,↓reduceIte,reduceCtorEq,c42]
  refine a6 (by rw[hC];exact hr.flat rfl rfl) ?_
  simp (disch:=first|omega|exact f6|fail) only[WA,Nat.reduceEqDiff,Nat.reduceLT,↓reduceIte,reduceCtorEq]
  all_goals try (exfalso;omega)
  exact b7 rfl h0 rfl
theorem JR (s:Nat) (L:List p7) (hL:L.length≤140737488351232) (hK:SU L):k8 (EN w (n+6)) 26 [.sl s L.length (A5 L)] (.sc (.int .i64 (K3 L))) ⟨[],0,0⟩:=by
 have hil:=G3 L
 unfold K3
 by_cases h2:200<L.length
 ·rw[if_pos h2]
  refine b8 rfl rfl (fun _ _=>rfl) (Nat.le_of_ble_eq_true rfl) (d7 w) rfl fun C hC h0=>?_
  simp (disch:=first|omega|exact f6|fail) only[WA,Nat.reduceEqDiff,Nat.reduceLT,↓reduceIte,reduceCtorEq,c26]
  all_goals try (exfalso;omega)
  exact b7 rfl h0 rfl
 rw[if_neg h2]
 have hc:=QO w n s L (by omega) hK
 cases ha:L.all C9 with
 |false=>
  rw[ha] at hc
  rw[if_neg (by decide)]
  refine b8 rfl rfl (fun _ _=>rfl) (Nat.le_of_ble_eq_true rfl) (d7 w) rfl fun C hC h0=>?_
  simp (disch:=first|omega|exact f6|fail) only[WA,Nat.reduceEqDiff,Nat.reduceLT,↓reduceIte,reduceCtorEq,c26]
  all_goals try (exfalso;omega)
  refine a6 (by rw[hC];exact hc.flat rfl rfl) ?_
  simp (disch:=first|exact f6|fail) only[WA,Nat.reduceEqDiff,Nat.reduceLT,↓reduceIte,reduceCtorEq]
  exact b7 rfl h0 rfl
 |true=>
  rw[ha] at hc
  rw[if_pos rfl]
  have hs:=bW0 w (n+3) s L (by omega) ha
  generalize Q4 P8 L=U at*
  generalize Q4 P7 L=M at*
  by_cases hm:200<U∨200<M
  ·rw[if_pos hm]
   have hmx:200<max U M:=by omega
   generalize hX:max U M=X at*
   refine b8 rfl rfl (fun _ _=>rfl) (Nat.le_of_ble_eq_true rfl) (d7 w) rfl fun C hC h0=>?_
   simp (disch:=first|omega|exact f6|fail) only[WA,Nat.reduceEqDiff,Nat.reduceLT,↓reduceIte,reduceCtorEq,c26]
   all_goals try (exfalso;omega)
   refine a6 (by rw[hC];exact hc.flat rfl rfl) ?_
   simp (disch:=first|exact f6|fail) only[WA,Nat.reduceEqDiff,Nat.reduceLT,↓reduceIte,reduceCtorEq]
   refine a6 (by rw[hC];exact hs.flat rfl rfl) ?_
   simp (disch:=first|omega|exact f6|fail) only[WA,Nat.reduceEqDiff,Nat.reduceLT,↓reduceIte,reduceCtorEq,fP,hX]
   all_goals try (exfalso;omega)
   exact b7 rfl h0 rfl
  ·rw[if_neg hm]
   have hmx:max U M≤200:=by omega
   generalize hX:max U M=X at*
   refine b8 rfl rfl (fun _ _=>rfl) (Nat.le_of_ble_eq_true rfl) (d7 w) rfl fun C hC h0=>?_
   simp (disch:=first|omega|exact f6|fail) only[WA,Nat.reduceEqDiff,Nat.reduceLT,↓reduceIte,reduceCtorEq,c26]
   all_goals try (exfalso;omega)
   refine a6 (by rw[hC];exact hc.flat rfl rfl) ?_
   simp (disch:=first|exact f6|fail) only[WA,Nat.reduceEqDiff,Nat.reduceLT,↓reduceIte,reduceCtorEq]
   refine a6 (by rw[hC];exact hs.flat rfl rfl) ?_
   simp (disch:=first|omega|exact f6|fail) only[WA,Nat.reduceEqDiff,Nat.reduceLT,↓reduceIte,reduceCtorEq,fP,hX]
   all_goals try (exfalso;omega)
   exact b7 rfl h0 rfl
end
end Go.Proofs.YtimmmnanllcfoaaGreatDoor
namespace Go.Itp
set_option linter.unusedVariables false
set_option linter.unusedSimpArgs false
set_option maxRecDepth 10000
theorem kS {c:UInt8}:∀ (p r:List UInt8),c ∉ p→Lib.index (p++c::r) [c]=p.length
 | [],r,_=>by
  rw[List.nil_append,Lib.index]
  simp[List.isPrefixOf]
 |b::p,r,h=>by
  have hb:(c==b)=false:=by simpa using fun e=>h (by rw[e];simp)
  rw[List.cons_append,Lib.index,kS p r fun e=>h (List.mem_cons_of_mem _ e)]
  simp only[List.isPrefixOf,hb,Bool.false_and,Bool.false_eq_true,if_false,List.length_cons]
  rw[if_neg (by simp only[beq_iff_eq];omega)]
  omega
theorem rM {c:UInt8}:∀ (s:List UInt8),c ∉ s→Lib.index s [c]= -1
 | [],_=>rfl
 |b::p,h=>by
  have hb:(c==b)=false:=by simpa using fun e=>h (by rw[e];simp)
  rw[Lib.index,rM p fun e=>h (List.mem_cons_of_mem _ e)]
  simp[List.isPrefixOf,hb]
theorem cC {c:UInt8} {p r u:List UInt8} (h:c ∉ p) (hu:u ≠ [c]):Lib.replace (p++c::r) [c] u 1=p++u++r:=by
 have hi:=kS p r h
 have hc:=Lib.count_hit (s:=p++c::r) (sub:= [c]) (i:=p.length) (by simp) hi
 have hn:Lib.replaceNum (p++c::r) [c] 1=1:=by
  unfold Lib.replaceNum
  rw[if_neg (by omega)]
  rfl
 unfold Lib.replace
 rw[if_neg (by simpa using Ne.symm hu),hn,Lib.replaceK_hit _ _ _ _ _ hi,Lib.replaceK]
 simp
theorem lF {c:UInt8} {s u:List UInt8} (h:c ∉ s):Lib.replace s [c] u 1=s:=by
 unfold Lib.replace Lib.replaceNum
 rw[Lib.count_miss (rM s h)]
 split
 ·rfl
 ·rw[if_pos (by omega),Lib.replaceK]
theorem T3 {z:Int} (h:0≤z):Lib.itoa z ≠ [35]:=S5 h (by decide)
theorem PB {x:p7} {n:Int} (hx:D1 x) (h0:1≤n):p5 x n=if countB x.kind=true then Lib.replace (P6 x.kind x.purl) [35] (Lib.itoa n) 1 else Lib.replace (Lib.replace (P6 x.kind x.purl) [35] (Lib.itoa x.a) 1) [35] (Lib.itoa x.b) 1++J5 x n:=by
 rw[pM n hx]
 have hno:=DB x.kind x.purl
 have hb:=hx.bounds
 have i1:=T3 (z:=n) (by omega)
 have i2:=T3 (z:=x.a) (by omega)
 have i3:=T3 (z:=x.b) (by omega)
 have j2:(35:UInt8) ∉ Lib.itoa x.a:=aU (by omega) _ (by decide)
 have two:∀ (p q:List UInt8) (v:Int),(35:UInt8) ∉ p→Lib.itoa v ≠ [35]→Lib.replace (join 35 [p,q]) [35] (Lib.itoa v) 1=fill [p,q] [v]:=fun p q v h1 h2=>by
  rw[join,join,cC h1 h2,fill]
  ·simp[fill]
  ·simp
 have two':∀ (p q:List UInt8) (v u:Int),(35:UInt8) ∉ p→(35:UInt8) ∉ q→(35:UInt8) ∉ Lib.itoa v→Lib.itoa v ≠ [35]→Lib.replace (Lib.replace (join 35 [p,q]) [35] (Lib.itoa v) 1) [35] (Lib.itoa u) 1=fill [p,q] [v,u]:=fun p q v u h1 h3 h4 h2=>by
  rw[join,join,cC h1 h2,lF (by simp[h1,h3,h4]),fill]
  ·simp[fill]
  ·simp
 have three:∀ (p q r:List UInt8) (v u:Int),(35:UInt8) ∉ p→(35:UInt8) ∉ q→(35:UInt8) ∉ Lib.itoa v→Lib.itoa v ≠ [35]→Lib.itoa u ≠ [35]→Lib.replace (Lib.replace (join 35 [p,q,r]) [35] (Lib.itoa v) 1) [35] (Lib.itoa u) 1=fill [p,q,r] [v,u]:=fun p q r v u h1 h3 h4 h2 h5=>by
  rw[join,join,join,cC h1 h2,← List.append_assoc,cC (by simp[h1,h3,h4]) h5,fill]
  ·rw[fill]
   ·simp[fill]
   ·simp
  ·simp
 obtain ⟨k,p,a,b⟩:=x
 unfold D1 at hx
 simp only at hx hno i2 i3 j2 ⊢
 unfold P6
 rcases hx with ⟨rfl|rfl,rfl,rfl⟩|⟨rfl,rfl,rfl,rfl⟩|⟨rfl|rfl|rfl,h2,h3,rfl⟩|⟨rfl|rfl,h2,h3⟩|⟨rfl,rfl,h2,h3,rfl⟩|⟨rfl,h2,h3,rfl⟩
 ·rw[if_pos (by decide),show J5 ⟨1,p,0,0⟩ n= [] from by unfold J5;rw[if_neg (by simp)],List.append_nil]
  exact (two _ _ n (hno _ (by simp[p6])) i1).symm
 ·rw[if_pos (by decide),show J5 ⟨8,p,0,0⟩ n= [] from by unfold J5;rw[if_neg (by simp)],List.append_nil]
  exact (two _ _ n (hno _ (by simp[p6])) i1).symm
 ·rw[if_neg (by decide)]
  congr 1
  have h35:(35:UInt8) ∉ join 35 (p6 2 false):=hno _ (by simp[p6,join])
  rw[lF h35,lF h35]
  rfl
 ·rw[if_neg (by decide)]
  congr 1
  exact (two' _ _ a 0 (hno _ (by simp[p6])) (hno _ (by simp[p6])) j2 i2).symm
 ·rw[if_neg (by decide)]
  congr 1
  exact (two' _ _ a 0 (hno _ (by simp[p6])) (hno _ (by simp[p6])) j2 i2).symm
 ·rw[if_neg (by decide)]
  congr 1
  exact (two' _ _ a 0 (hno _ (by simp[p6])) (hno _ (by simp[p6])) j2 i2).symm
 ·rw[if_neg (by decide)]
  congr 1
  exact (three _ _ _ a b (hno _ (by simp[p6])) (hno _ (by simp[p6])) j2 i2 i3).symm
 ·rw[if_neg (by decide)]
  congr 1
  exact (three _ _ _ a b (hno _ (by simp[p6])) (hno _ (by simp[p6])) j2 i2 i3).symm
 ·rw[if_neg (by decide)]
  congr 1
  exact (two' _ _ a 0 (hno _ (by simp[p6])) (hno _ (by simp[p6])) j2 i2).symm
 ·rw[if_neg (by decide)]
  congr 1
  exact (two' _ _ a 0 (hno _ (by simp[p6])) (hno _ (by simp[p6])) j2 i2).symm
theorem nD:∀ s:List UInt8,(Lib.index s [44,32]= -1∧n5 s= [s])∨∃ x r,s=x++44::32::r∧Lib.index s [44,32]=x.length∧n5 s=x::n5 r
 | []=> .inl ⟨rfl,rfl⟩
 | [c]=> .inl ⟨by simp[Lib.index,List.isPrefixOf],rfl⟩
 |c::d::r=>by
  by_cases h:c=44∧d=32
  ·obtain ⟨rfl,rfl⟩:=h
   refine .inr ⟨[],r,rfl,?_,by rw[n5,if_pos ⟨rfl,rfl⟩]⟩
   rw[Lib.index]
   simp[List.isPrefixOf]
  ·have hp:List.isPrefixOf [44,32] (c::d::r)=false:=by
    simp only[List.isPrefixOf,Bool.and_true]
    rw[← Bool.not_eq_true]
    intro e
    simp only[Bool.and_eq_true,beq_iff_eq] at e
    exact h ⟨e.1.symm,e.2.symm⟩
   rcases nD (d::r) with ⟨h1,h2⟩|⟨x,q,h1,h2,h3⟩
   ·refine .inl ⟨?_,by rw[O1 h,h2];rfl⟩
    rw[Lib.index,hp,h1]
    rfl
   ·refine .inr ⟨c::x,q,by rw[h1];rfl,?_,by rw[O1 h,h3];rfl⟩
    rw[Lib.index,hp,h2]
    rw[if_neg (by decide),if_neg (by simp only[beq_iff_eq];omega)]
    simp
theorem cA8:∀ (m:Nat) (s:List UInt8),s.length≤m→(n5 s).length=Lib.countB ⟨s.toArray⟩ ⟨#[44,32]⟩+1
 |m,s,hm=>by
  show (n5 s).length=Lib.count s [44,32]+1
  rcases nD s with ⟨h1,h2⟩|⟨x,r,rfl,h2,h3⟩
  ·rw[h2,Lib.count_miss h1];rfl
  ·cases m with
   |zero=>simp at hm
   |succ m=>
    have ih:=cA8 m r (by simp at hm;omega)
    rw[h3,Lib.count_hit (by simp) h2,List.length_cons,ih]
    have e:(x++44::32::r).drop (x.length+([44,32]:List UInt8).length)=r:=by
     rw[show x++44::32::r=(x++ [44,32])++r from by simp,List.drop_left' (by simp)]
    rw[e]
    show Lib.count r [44,32]+1+1=_
    omega
theorem X8:∀ (s:List UInt8),(n5 s).length≤s.length+1
 | []=>Nat.le_refl _
 | [c]=>by simp[n5]
 |c::d::r=>by
  rw[n5]
  split
  ·have:=X8 r;simp;omega
  ·have:=X8 (d::r)
   cases h:n5 (d::r) with
   |nil=>simp[oJ]
   |cons a b=>rw[h] at this;simp[oJ] at this ⊢;omega
theorem fY:∀ (s:List UInt8),∀ w ∈ n5 s,w.length≤s.length
 | [],w,h=>by simp[n5] at h;simp[h]
 | [c],w,h=>by simp[n5] at h;simp[h]
 |c::d::r,w,h=>by
  rw[n5] at h
  split at h
  ·rcases List.mem_cons.1 h with rfl|h
   ·simp
   ·have:=fY r w h;simp;omega
  ·have ih:=fY (d::r)
   cases hs:n5 (d::r) with
   |nil=>rw[hs] at h;simp[oJ] at h;subst h;simp
   |cons a b=>
    rw[hs] at h ih
    simp only[oJ] at h
    rcases List.mem_cons.1 h with rfl|h
    ·have:=ih a (by simp);simp at this ⊢;omega
    ·have:=ih w (List.mem_cons_of_mem _ h);simp at this ⊢;omega
end Go.Itp
namespace Go.Proofs.YtimmmnanllcfoaaGreatDoor
open Go Go.Itp
set_option maxRecDepth 100000
set_option maxHeartbeats 400000
set_option linter.unusedSimpArgs false
set_option linter.unusedVariables false
theorem TP (l:List UInt8) (c:UInt8):Lib.countB ⟨l.toArray⟩ ⟨[c].toArray⟩≤l.length:=by
 have:=Lib.countB_le ⟨[c].toArray⟩ (Nat.le_refl 1) l.length ⟨l.toArray⟩ (by rw[n4];exact Nat.le_refl _)
 rwa [n4] at this
theorem rG:∀ k p,(P6 k p).length≤60:=by
 intro k p
 unfold P6 p6
 split<;>cases p<;>decide
theorem rT (l u:List UInt8) (c:UInt8) (k:Int) (h1:l.length≤1000) (h2:u.length≤1000):l.length+Lib.countB ⟨l.toArray⟩ ⟨[c].toArray⟩*u.length≤140737488355328:=by
 have:=Nat.mul_le_mul (TP l c) h2
 have h3:l.length*1000≤1000*1000:=Nat.mul_le_mul_right _ h1
 omega
theorem bC (g:Bool) (k k':Nat) (p p':Bool) (a b a' b':Int):qY g [(0,0),(1,2),(2,0),(3,0)] (.agg [.sc (.int .u8 k),.sc (.bool p),.sc (.int .i64 a),.sc (.int .i64 b)]) (.agg [.sc (.int .u8 k'),.sc (.bool p'),.sc (.int .i64 a'),.sc (.int .i64 b')])=some (.sc (.bool (bG4 g (decide ((⟨k,p,a,b⟩:p7)=⟨k',p',a',b'⟩))))):=by
 rw[mX]
 have e:U4 [(0,0),(1,2),(2,0),(3,0)] [V.sc (.int .u8 k),.sc (.bool p),.sc (.int .i64 a),.sc (.int .i64 b)] [V.sc (.int .u8 k'),.sc (.bool p'),.sc (.int .i64 a'),.sc (.int .i64 b')]=some (decide ((k:Int)=k') && ((p==p') && (decide (a=a') && decide (b=b')))):=by
  simp only[dD,fG,iN,fF,qN,Bool.and_true,B1,Option.bind_some]
 rw[e]
 simp only[Option.map_some]
 congr 4
 rw[Bool.eq_iff_iff]
 simp only[Bool.and_eq_true,beq_iff_eq,decide_eq_true_eq,p7.mk.injEq]
 constructor
 ·rintro ⟨h1,h2,h3,h4⟩;exact ⟨by omega,h2,h3,h4⟩
 ·rintro ⟨h1,h2,h3,h4⟩;exact ⟨by omega,h2,h3,h4⟩
section
variable (w:World) (n:Nat)
theorem bV7 (p:Bool):k8 (EN w (n+1)) 98 [.sc (.bool p)] (m6 (hO p)) ⟨[],0,0⟩:=by
 cases p
 all_goals
  refine b8 rfl rfl (fun _ _=>rfl) (Nat.le_of_ble_eq_true rfl) (d7 w) rfl fun C hC h0=>?_
  repeat' (first|(simp (disch:=first|exact f6|fail) only[WA,Nat.reduceEqDiff,Nat.reduceLT,↓reduceIte,reduceCtorEq,c98]))
  exact b7 rfl h0 rfl
theorem aO6 (k:Nat) (p:Bool) (h1:1≤k) (h2:k≤10):k8 (EN w (n+2)) 79 [.sc (.int .u8 k),.sc (.bool p)] (.tup [m6 (P6 k p),.sc (.bool (countB k))]) ⟨[],0,0⟩:=by
 have hs:=bV7 w n p
 unfold hO at hs
 cases p
 all_goals
  rcases (by omega:k=1∨k=3∨k=4∨k=2∨k=5∨k=6∨k=7∨k=8∨k=9∨k=10) with rfl|rfl|rfl|rfl|rfl|rfl|rfl|rfl|rfl|rfl
  iterate 3
   ·refine b8 rfl rfl (fun _ _=>rfl) (Nat.le_of_ble_eq_true rfl) (d7 w) rfl fun C hC h0=>?_
    repeat' (first|(simp (disch:=first|omega|exact f6|fail) only[WA,Nat.reduceEqDiff,Nat.reduceLT,↓reduceIte,reduceCtorEq,c79]))
    refine a6 (by rw[hC];exact hs.flat rfl rfl) ?_
    repeat' (first|(simp (disch:=first|exact f6|(simp only[i6]<;>omega)) only[WA,Nat.reduceEqDiff,Nat.reduceLT,↓reduceIte,K9]))
    exact b7 rfl h0 rfl
  all_goals
   refine b8 rfl rfl (fun _ _=>rfl) (Nat.le_of_ble_eq_true rfl) (d7 w) rfl fun C hC h0=>?_
   repeat' (first|(simp (disch:=first|omega|exact f6|(simp only[i6]<;>omega)) only[WA,Nat.reduceEqDiff,Nat.reduceLT,↓reduceIte,reduceCtorEq,c79,K9]))
   exact b7 rfl h0 rfl
theorem PC (x:p7) (hx:D1 x) (m:Int) (h0:1≤m) (h1:m≤1000):k8 (EN w (n+3)) 70 [gA x,.sc (.int .i64 m)] (m6 (p5 x m)) ⟨[],0,0⟩:=by
 have hb:=hx.bounds
 have hf:=aO6 w n x.kind x.purl hb.1 hb.2.1
 have hfl:=rG x.kind x.purl
 have hr:=PB hx h0
 have im:=UE w (n+1)
 have l1:=C5 (z:=m) (by omega) (by omega)
 have l2:=C5 (z:=x.a) (by omega) (by omega)
 have l3:=C5 (z:=x.b) (by omega) (by omega)
 have r1:=fun st=>VD w (n+1) st (P6 x.kind x.purl) [35] (Lib.itoa m) 1 (by omega) (Nat.le_refl 1) (rT _ _ 35 1 (by omega) (by omega))
 have r2:=fun st=>VD w (n+1) st (P6 x.kind x.purl) [35] (Lib.itoa x.a) 1 (by omega) (Nat.le_refl 1) (rT _ _ 35 1 (by omega) (by omega))
 have hlen2:(Lib.replace (P6 x.kind x.purl) [35] (Lib.itoa x.a) 1).length≤70:=by
  rcases S4 35 (P6 x.kind x.purl) with h|⟨p,q,e,h⟩
  ·rw[lF h];omega
  ·rw[e,cC h (T3 (by omega))]
   have:=congrArg List.length e
   simp only[List.length_append,List.length_cons] at this ⊢
   omega
 have r3:=fun st=>VD w (n+1) st (Lib.replace (P6 x.kind x.purl) [35] (Lib.itoa x.a) 1) [35] (Lib.itoa x.b) 1 (by omega) (Nat.le_refl 1) (rT _ _ 35 1 (by omega) (by omega))
 have hlen3:(Lib.replace (Lib.replace (P6 x.kind x.purl) [35] (Lib.itoa x.a) 1) [35] (Lib.itoa x.b) 1).length≤80:=by
  rcases S4 35 (Lib.replace (P6 x.kind x.purl) [35] (Lib.itoa x.a) 1) with h|⟨p,q,e,h⟩
  ·rw[lF h];omega
  ·rw[e,cC h (T3 (by omega))]
   have:=congrArg List.length e
   simp only[List.length_append,List.length_cons] at this ⊢
   omega
 rw[hr]
 have hk:countB x.kind=true↔x.kind=1∨x.kind=8:=by unfold countB;exact decide_eq_true_iff
 cases hc:countB x.kind with
 |true=>
  rw[hc] at hf
  rw[if_pos rfl]
  generalize P6 x.kind x.purl=F at*
  clear r2 r3 hlen2 hlen3 hr
  obtain ⟨xk,xp,xa,xb⟩:=x
  refine b8 rfl rfl (fun _ _=>rfl) (Nat.le_of_ble_eq_true rfl) (d7 w) rfl fun C hC h0=>?_
  simp (disch:=first|exact f6|fail) only[WA,Nat.reduceEqDiff,Nat.reduceLT,↓reduceIte,reduceCtorEq,c70]
  refine a6 (by rw[hC];exact hf.flat rfl rfl) ?_
  simp (disch:=first|exact f6|fail) only[WA,Nat.reduceEqDiff,Nat.reduceLT,↓reduceIte]
  refine a6 (by rw[hC];exact im _ m (by omega) (by omega)) ?_
  repeat' (first|(simp (disch:=fail) only[WA,l6,p8,Nat.reduceEqDiff,Nat.reduceLT,Nat.reduceAdd,Nat.reduceBEq,Int.reduceAdd,Int.reduceSub,Int.reduceLT,Int.reduceLE,Int.reduceEq,Int.reduceNeg,↓reduceIte,reduceCtorEq,List.replicate])|apply s7|((first|apply D5|apply y9|apply z6|apply D6|apply D4|apply z7)<;>intro _))
  refine a6 (by rw[hC];exact r1 _) ?_
  repeat' (first|(simp (disch:=fail) only[WA,l6,p8,Nat.reduceEqDiff,Nat.reduceLT,Nat.reduceAdd,Nat.reduceBEq,Int.reduceAdd,Int.reduceSub,Int.reduceLT,Int.reduceLE,Int.reduceEq,Int.reduceNeg,↓reduceIte,reduceCtorEq,List.replicate])|apply s7|((first|apply D5|apply y9|apply z6|apply D6|apply D4|apply z7)<;>intro _))
  exact b7 rfl h0 rfl
 |false=>
  rw[hc] at hf
  rw[if_neg (by decide)]
  have hkk:x.kind ≠ 1∧x.kind ≠ 8:=by
   rw[← Bool.not_eq_true,hk] at hc
   omega
  have ht:J5 x m=if 1<m then 32::(Lib.itoa m++dG) else []:=by
   unfold J5
   by_cases h:1<m
   ·rw[if_pos h,if_pos ⟨h,hkk⟩];rfl
   ·rw[if_neg h,if_neg fun hh=>h hh.1]
  rw[ht]
  generalize Lib.replace (Lib.replace (P6 x.kind x.purl) [35] (Lib.itoa x.a) 1) [35] (Lib.itoa x.b) 1=R3 at*
  generalize Lib.replace (P6 x.kind x.purl) [35] (Lib.itoa x.a) 1=R2 at*
  generalize P6 x.kind x.purl=F at*
  obtain ⟨xk,xp,xa,xb⟩:=x
  simp only at*
  by_cases hm:1<m
  ·rw[if_pos hm]
   refine b8 rfl rfl (fun _ _=>rfl) (Nat.le_of_ble_eq_true rfl) (d7 w) rfl fun C hC h0=>?_
   simp (disch:=first|exact f6|fail) only[WA,Nat.reduceEqDiff,Nat.reduceLT,↓reduceIte,reduceCtorEq,c70]
   refine a6 (by rw[hC];exact hf.flat rfl rfl) ?_
   simp (disch:=first|exact f6|fail) only[WA,Nat.reduceEqDiff,Nat.reduceLT,↓reduceIte]
   refine a6 (by rw[hC];exact im _ xa (by omega) (by omega)) ?_
   repeat' (first|(simp (disch:=fail) only[WA,l6,p8,Nat.reduceEqDiff,Nat.reduceLT,Nat.reduceAdd,Nat.reduceBEq,Int.reduceAdd,Int.reduceSub,Int.reduceLT,Int.reduceLE,Int.reduceEq,Int.reduceNeg,↓reduceIte,reduceCtorEq,List.replicate])|apply s7|((first|apply D5|apply y9|apply z6|apply D6|apply D4|apply z7)<;>intro _))
   refine a6 (by rw[hC];exact r2 _) ?_
   simp (disch:=first|omega|exact f6|fail) only[WA,Nat.reduceEqDiff,Nat.reduceLT,↓reduceIte]
   refine a6 (by rw[hC];exact im _ xb (by omega) (by omega)) ?_
   repeat' (first|(simp (disch:=fail) only[WA,l6,p8,Nat.reduceEqDiff,Nat.reduceLT,Nat.reduceAdd,Nat.reduceBEq,Int.reduceAdd,Int.reduceSub,Int.reduceLT,Int.reduceLE,Int.reduceEq,Int.reduceNeg,↓reduceIte,reduceCtorEq,List.replicate])|apply s7|((first|apply D5|apply y9|apply z6|apply D6|apply D4|apply z7)<;>intro _))
   refine a6 (by rw[hC];exact r3 _) ?_
   repeat' (first|(simp (disch:=fail) only[WA,l6,p8,Nat.reduceEqDiff,Nat.reduceLT,Nat.reduceAdd,Nat.reduceBEq,Int.reduceAdd,Int.reduceSub,Int.reduceLT,Int.reduceLE,Int.reduceEq,Int.reduceNeg,↓reduceIte,reduceCtorEq,List.replicate])|apply s7|((first|apply D5|apply y9|apply z6|apply D6|apply D4|apply z7)<;>intro _))
   all_goals try (exfalso;omega)
   refine a6 (by rw[hC];exact im _ m (by omega) (by omega)) ?_
   simp (disch:=first|exact f6|(simp only[i6]<;>omega)) only[WA,Nat.reduceEqDiff,Nat.reduceLT,↓reduceIte,K9,List.append_assoc]
   all_goals try (exfalso;omega)
   exact b7 rfl h0 rfl
  ·rw[if_neg hm,List.append_nil]
   refine b8 rfl rfl (fun _ _=>rfl) (Nat.le_of_ble_eq_true rfl) (d7 w) rfl fun C hC h0=>?_
   simp (disch:=first|exact f6|fail) only[WA,Nat.reduceEqDiff,Nat.reduceLT,↓reduceIte,reduceCtorEq,c70]
   refine a6 (by rw[hC];exact hf.flat rfl rfl) ?_
   simp (disch:=first|exact f6|fail) only[WA,Nat.reduceEqDiff,Nat.reduceLT,↓reduceIte]
   refine a6 (by rw[hC];exact im _ xa (by omega) (by omega)) ?_
   repeat' (first|(simp (disch:=fail) only[WA,l6,p8,Nat.reduceEqDiff,Nat.reduceLT,Nat.reduceAdd,Nat.reduceBEq,Int.reduceAdd,Int.reduceSub,Int.reduceLT,Int.reduceLE,Int.reduceEq,Int.reduceNeg,↓reduceIte,reduceCtorEq,List.replicate])|apply s7|((first|apply D5|apply y9|apply z6|apply D6|apply D4|apply z7)<;>intro _))
   refine a6 (by rw[hC];exact r2 _) ?_
   simp (disch:=first|omega|exact f6|fail) only[WA,Nat.reduceEqDiff,Nat.reduceLT,↓reduceIte]
   refine a6 (by rw[hC];exact im _ xb (by omega) (by omega)) ?_
   repeat' (first|(simp (disch:=fail) only[WA,l6,p8,Nat.reduceEqDiff,Nat.reduceLT,Nat.reduceAdd,Nat.reduceBEq,Int.reduceAdd,Int.reduceSub,Int.reduceLT,Int.reduceLE,Int.reduceEq,Int.reduceNeg,↓reduceIte,reduceCtorEq,List.replicate])|apply s7|((first|apply D5|apply y9|apply z6|apply D6|apply D4|apply z7)<;>intro _))
   refine a6 (by rw[hC];exact r3 _) ?_
   repeat' (first|(simp (disch:=fail) only[WA,l6,p8,Nat.reduceEqDiff,Nat.reduceLT,Nat.reduceAdd,Nat.reduceBEq,Int.reduceAdd,Int.reduceSub,Int.reduceLT,Int.reduceLE,Int.reduceEq,Int.reduceNeg,↓reduceIte,reduceCtorEq,List.replicate])|apply s7|((first|apply D5|apply y9|apply z6|apply D6|apply D4|apply z7)<;>intro _))
   all_goals try (exfalso;omega)
   exact b7 rfl h0 rfl
end
theorem nQ (x:p7):∀ l:List p7,∃ t,t≤l.length∧(∀ i,i<t→l[i]! =x)∧(t<l.length→l[t]! ≠ x)∧I1 (x::l)=(x,t+1)::I1 (l.drop t)
 | []=>⟨0,Nat.le_refl _,fun i h=>absurd h (Nat.not_lt_zero _),fun h=>absurd h (Nat.not_lt_zero _),rfl⟩
 |y::l=>by
  by_cases hy:y=x
  ·subst hy
   obtain ⟨t,h1,h2,h3,h4⟩:=nQ y l
   refine ⟨t+1,by simp;omega,fun i hi=>?_,fun h=>?_,?_⟩
   ·cases i with
    |zero=>rfl
    |succ i=>simpa using h2 i (by omega)
   ·have:=h3 (by simpa using h)
    simpa using this
   ·rw[I1,h4]
    simp
  ·refine ⟨0,Nat.zero_le _,fun i h=>absurd h (Nat.not_lt_zero _),fun _=>hy,?_⟩
   rw[I1]
   cases hr:I1 (y::l) with
   |nil=>exact absurd hr (pZ (by simp))
   |cons z r=>
    obtain ⟨z,m⟩:=z
    have hz:z=y:=by
     have:=cF (y::l)
     have hp:=X7 (y::l) (z,m) (by rw[hr];simp)
     rw[hr,mZ] at this
     obtain ⟨q,rfl⟩:∃ q,m=q+1:=⟨m - 1,by simp only at hp;omega⟩
     simp only[List.replicate_succ,List.cons_append] at this
     exact (List.cons.inj this).1
    rw[hz]
    simp only
    rw[if_neg hy,List.drop_zero,hr,hz]
theorem wI {L:List p7} {j:Nat} (h:j<L.length):L.drop j=L[j]! ::L.drop (j+1):=by
 rw[List.drop_eq_getElem_cons h,getElem!_pos _ j h]
theorem MM {L:List p7} {j i:Nat} (h:j+i<L.length):(L.drop j)[i]! =L[j+i]! :=by
 rw[getElem!_pos _ i (by rw[List.length_drop];omega),List.getElem_drop,getElem!_pos _ (j+i) h]
theorem lH (nx t:Nat) (b:ByteArray):N8 nx t 1 1 [.string ⟨#[]⟩] [(0,1,.sc (.string b))]=some (.ref nx 0 1 1,some (.row t 1 false false [.sc (.string b)]),[]):=(rfl)
theorem cV {x:p7} {m:Int} (hx:D1 x) (h0:1≤m) (h1:m≤1000):(p5 x m).length≤100:=by
 have hb:=hx.bounds
 have hfl:=rG x.kind x.purl
 have l1:=C5 (z:=m) (by omega) (by omega)
 have l2:=C5 (z:=x.a) (by omega) (by omega)
 have l3:=C5 (z:=x.b) (by omega) (by omega)
 have aux:∀ (F u:List UInt8),u ≠ [35]→(Lib.replace F [35] u 1).length≤F.length+u.length:=fun F u hu=>by
  rcases S4 35 F with h|⟨p,q,e,h⟩
  ·rw[lF h];omega
  ·rw[e,cC h hu];simp;omega
 rw[PB hx h0]
 split
 ·have:=aux (P6 x.kind x.purl) (Lib.itoa m) (T3 (by omega))
  omega
 ·have a1:=aux (P6 x.kind x.purl) (Lib.itoa x.a) (T3 (by omega))
  have a2:=aux (Lib.replace (P6 x.kind x.purl) [35] (Lib.itoa x.a) 1) (Lib.itoa x.b) (T3 (by omega))
  have ht:(J5 x m).length≤11:=by
   unfold J5
   split
   ·have:Q6.length=5:=rfl
    simp only[List.length_cons,List.length_append,this];omega
   ·simp
  rw[List.length_append]
  omega
theorem IS:∀ (ws:List (List UInt8)) (b:Nat),(∀ w ∈ ws,w.length≤b)→(KN ws).length≤ws.length*(b+2)
 | [],b,_=>by simp[KN]
 |w::ws,b,h=>by
  have ih:=IS ws b fun x hx=>h x (List.mem_cons_of_mem _ hx)
  have hw:=h w (by simp)
  have e:(ws.length+1)*(b+2)=ws.length*(b+2)+(b+2):=Nat.succ_mul _ _
  cases ws with
  |nil=>simp[KN];omega
  |cons v r=>
   rw[dU w (by simp)]
   simp only[List.length_append,List.length_cons] at ih e ⊢
   omega
theorem rZ:∀ L:List p7,(I1 L).length≤L.length
 | []=>Nat.le_refl _
 |x::l=>by
  have ih:=rZ l
  rw[I1]
  cases h:I1 l with
  |nil=>simp
  |cons y r=>
   obtain ⟨y,m⟩:=y
   rw[h] at ih
   simp only[List.length_cons] at ih ⊢
   split<;>simp<;>omega
section
variable (w:World) (n:Nat)
theorem SN {C:D0} (hC:C.E=EN w (n+3)) (s:Nat) (L:List p7) (hL:L.length≤200) (j t:Nat) (hj:j+1+t≤L.length) (ht:∀ i,i<t→(L.drop (j+1))[i]! =L[j]!) (hn:t<(L.drop (j+1)).length→(L.drop (j+1))[t]! ≠ L[j]!) (q:Nat) (st:l9) {K:List KF} {P:B5}
  (hgo:gK C K (.exit 2) [(0,.sl s L.length (A5 L)),(3,.gr 2 0 q),(4,.sc (.int .i64 j)),(5,.sc (.int .i64 ((j+1+t:Nat):Int))),(29,.sc (.bool false))] st P) (hst0:st.own.length=st.own.length):
  gL C [0,3,4,5] LP K [(0,.sl s L.length (A5 L)),(3,.gr 2 0 q),(4,.sc (.int .i64 j)),(5,.sc (.int .i64 ((j+1:Nat):Int)))] st P:=by
 have hrn:C.E.rounds=A4:=by rw[hC,j5]
 have hil:=G3 L
 have hdl:(L.drop (j+1)).length=L.length - (j+1):=List.length_drop
 refine s8 (fun m fr st'=>∃ k:Nat,m=t - k∧k≤t∧fr= [(0,.sl s L.length (A5 L)),(3,.gr 2 0 q),(4,.sc (.int .i64 j)),(5,.sc (.int .i64 ((j+1+k:Nat):Int)))]∧st'=st) t ?_ ⟨_,_,.refl _ _,0,by omega,Nat.zero_le _,rfl,rfl⟩ ?_
 ·rw[hrn];unfold A4;omega
 rintro m fr st' ⟨k,rfl,hk,rfl,rfl⟩
 have hagj:=M0 L j (by omega)
 by_cases hlt:j+1+k<L.length
 ·have hag:=M0 L (j+1+k) hlt
  have hdk:=MM (L:=L) (j:=j+1) (i:=k) hlt
  by_cases hkt:k<t
  ·have he:=ht k hkt
   rw[hdk] at he
   rw[he] at hag
   generalize L[j]! =X at*
   obtain ⟨xk,xp,xa,xb⟩:=X
   simp (disch:=first|omega|exact f6|(simp only[i6]<;>omega)) only[WA,l6,p8,Nat.reduceEqDiff,Nat.reduceLT,↓reduceIte,reduceCtorEq,LP,hag,hagj,↓bC]
   exact ⟨t - (k+1),_,_,by omega,.refl _ _,k+1,rfl,by omega,by rw[show ((j+1+k:Nat):Int)+1=((j+1+(k+1):Nat):Int) from by omega],rfl⟩
  ·have:k=t:=by omega
   subst this
   have he:=hn (by omega)
   rw[hdk] at he
   have hd:=decide_eq_false he
   generalize L[j]! =X at*
   generalize L[j+1+k]! =Y at*
   obtain ⟨xk,xp,xa,xb⟩:=X
   obtain ⟨yk,yp,ya,yb⟩:=Y
   simp (disch:=first|omega|exact f6|fail) only[WA,l6,p8,Nat.reduceEqDiff,Nat.reduceLT,↓reduceIte,reduceCtorEq,LP,hag,hagj,↓bC,hd]
   exact hgo
 ·have:k=t:=by omega
  subst this
  simp (disch:=first|omega|exact f6|fail) only[WA,l6,p8,Nat.reduceEqDiff,Nat.reduceLT,↓reduceIte,reduceCtorEq,LP]
  exact hgo
theorem aB7 (s:Nat) (L:List p7) (hL:L.length≤200) (hok:L.all C9=true):k8 (EN w (n+4)) 50 [.sl s L.length (A5 L)] (m6 (s9 L)) ⟨[],0,0⟩:=by
 have hil:=G3 L
 have hrl:=rZ L
 have hP:∀ x ∈ L,D1 x:=fun x hx=>B4.1 (List.all_eq_true.1 hok x hx)
 unfold s9
 by_cases hn:L= []
 ·subst hn
  rw[if_pos rfl]
  refine b8 rfl rfl (fun _ _=>rfl) (Nat.le_of_ble_eq_true rfl) (d7 w) rfl fun C hC h0=>?_
  simp (disch:=first|omega|exact f6|fail) only[WA,Nat.reduceEqDiff,Nat.reduceLT,↓reduceIte,reduceCtorEq,c50]
  exact b7 rfl h0 rfl
 rw[if_neg hn]
 have hln:0<L.length:=List.length_pos_iff.2 hn
 refine b8 rfl rfl (fun _ _=>rfl) (Nat.le_of_ble_eq_true rfl) (d7 w) rfl fun C hC h0=>?_
 have hrn:C.E.rounds=A4:=by rw[hC,j5]
 simp (disch:=first|omega|exact f6|fail) only[WA,Nat.reduceEqDiff,Nat.reduceLT,↓reduceIte,reduceCtorEq,c50]
 all_goals try (exfalso;omega)
 refine s8 (fun m fr st=>∃ (j:Nat) (R:List (p7 × Nat)),m=L.length - j∧j≤L.length∧I1 L=R++I1 (L.drop j)∧fr= [(0,.sl s L.length (A5 L)),(3,.gr 2 0 R.length),(4,.sc (.int .i64 j))]∧st=⟨[(0,.gro 9 1 false ((R.map JG).map sD))],1,0⟩) L.length ?_ ⟨_,_,L3 3 9 1 rfl,0,[],by omega,Nat.zero_le _,rfl,rfl,rfl⟩ ?_
 ·rw[hrn];unfold A4;omega
 rintro m fr st ⟨j,R,rfl,hj,hR,rfl,rfl⟩
 have hRl:R.length≤200:=by
  have:=congrArg List.length hR
  rw[List.length_append] at this
  omega
 by_cases hlt:j<L.length
 ·obtain ⟨t,h1,h2,h3,h4⟩:=nQ L[j]! (L.drop (j+1))
  rw[← wI hlt] at h4
  have hdl:(L.drop (j+1)).length=L.length - (j+1):=List.length_drop
  rw[hdl] at h1
  have hXP:D1 L[j]! :=hP _ (by rw[getElem!_pos _ j hlt];exact List.getElem_mem hlt)
  have hph:=PC w n L[j]! hXP ((t+1:Nat):Int) (by omega) (by omega)
  have hag:=M0 L j hlt
  rw[List.drop_drop] at h4
  have hR2:I1 L=(R++ [(L[j]!,t+1)])++I1 (L.drop (j+1+t)):=by rw[hR,h4];simp
  simp (disch:=first|omega|exact f6|fail) only[WA,Nat.reduceEqDiff,Nat.reduceLT,↓reduceIte,reduceCtorEq,aL9]
  all_goals try (exfalso;omega)
  rw[show (j:Int)+1=((j+1:Nat):Int) from rfl]
  refine SN w n hC s L hL j t (by omega) h2 h3 _ _ ?_ rfl
  have hdiff:((j+1+t:Nat):Int) - j=((t+1:Nat):Int):=by omega
  generalize L[j]! =X at*
  obtain ⟨xk,xp,xa,xb⟩:=X
  simp (disch:=first|omega|exact f6|fail) only[WA,Nat.reduceEqDiff,Nat.reduceLT,↓reduceIte,reduceCtorEq,hag,hdiff]
  refine a6 (by rw[hC];exact hph.flat rfl rfl) ?_
  simp (disch:=first|omega|exact f6|(simp only[i6]<;>omega)) only[WA,Nat.reduceEqDiff,Nat.reduceLT,Nat.reduceAdd,↓reduceIte,reduceCtorEq,lH]
  all_goals try (exfalso;omega)
  refine ⟨L.length - (j+1+t),_,_,by omega,p9 [(2,0)] 1 h0 rfl rfl rfl rfl,j+1+t,R++ [(⟨xk,xp,xa,xb⟩,t+1)],rfl,by omega,hR2,?_,?_⟩
  ·rw[List.length_append];rfl
  ·simp only[List.map_append];rfl
 ·have:j=L.length:=by omega
  subst this
  rw[List.drop_length,I1,List.append_nil] at hR
  have hlen:=IS (R.map JG) 100 fun w hw=>by
   obtain ⟨r,hr,rfl⟩:=List.mem_map.1 hw
   have:=X7 L r (by rw[hR];exact hr)
   exact cV (hP _ this.2.2) (by omega) (by omega)
  rw[List.length_map] at hlen
  have hj:=bS5 w (n+2) ⟨[],0,0⟩ 2 (by decide) (R.map JG) [44,32] (by rw[List.length_map];omega) (by rw[← UF];omega)
  rw[← UF] at hj
  rw[hR]
  have h1:∀ st:l9,f7 st.own 0=some (.gro 9 1 false ((R.map JG).map sD))→J7 st.own [.gr 2 0 R.length,.sc (.string ⟨#[44,32]⟩)]=some [.sl 2 (R.map JG).length ((R.map JG).map sD),.sc (.string ⟨#[44,32]⟩)]:=fun st h=>by
   have e:w5 st.own (.gr 2 0 R.length)=some (.sl 2 R.length ((R.map JG).map sD)):=by
    simp only[w5,dH,h,List.length_map,Nat.mul_one]
    rw[if_pos (by simp)]
    rfl
   rw[List.length_map]
   show (w5 st.own (.gr 2 0 R.length)).bind _=_
   rw[e]
   rfl
  simp (disch:=first|omega|exact f6|fail) only[WA,Nat.reduceEqDiff,Nat.reduceLT,↓reduceIte,reduceCtorEq,aL9]
  all_goals try (exfalso;omega)
  refine a6 (by rw[hC];exact (k8.ofO hj).flat rfl (h1 _ rfl)) ?_
  repeat' (first|(simp (disch:=fail) only[WA,l6,p8,Nat.reduceEqDiff,Nat.reduceLT,Nat.reduceAdd,Nat.reduceBEq,Int.reduceAdd,Int.reduceSub,Int.reduceLT,Int.reduceLE,Int.reduceEq,Int.reduceNeg,↓reduceIte,reduceCtorEq,List.replicate])|apply s7|((first|apply D5|apply y9|apply z6|apply D6|apply D4|apply z7)<;>intro _))
  exact b7 rfl h0 rfl
end
set_option maxHeartbeats 1000000
theorem cA7 (c:UInt8):∀ (m:Nat) (s:List UInt8),s.length≤m→(n9 c s).length=Lib.countB ⟨s.toArray⟩ ⟨[c].toArray⟩+1
 |m,s,hm=>by
  show (n9 c s).length=Lib.count s [c]+1
  rcases S4 c s with h1|⟨x,r,rfl,h1⟩
  ·rw[O5 h1,Lib.count_miss (rM s h1)];rfl
  ·cases m with
   |zero=>simp at hm
   |succ m=>
    have ih:=cA7 c m r (by simp at hm;omega)
    rw[F8 r h1,Lib.count_hit (by simp) (kS x r h1),List.length_cons,ih]
    have e:(x++c::r).drop (x.length+ [c].length)=r:=by
     rw[show x++c::r=(x++ [c])++r from by simp,List.drop_left' (by simp)]
    rw[e]
    show Lib.count r [c]+1+1=_
    omega
theorem S7 {n:Nat} {l:List D}:bM [] (.sl 3 n l):=eD rfl
theorem bL {C:D0} {st:l9} {v:V} {s n:Nat} {l:List D} (hs:w5 st.own v=some (.sl s n l)) (hrow:E4 st.ro st.own (dJ v)=true) (hk:s ≠ 1∨n ≠ 0) (h0:C.w0.nx=0) (hro:st.ro=0):M9 C [(0,v)] st [(0,.sl 3 n l)] ⟨[],0,0⟩:=
 (eM (t:=0) (v:=v) rfl hs hrow).trans ((M3 (t:=0) (v:= .sl s n l) (v':= .sl 3 n l) rfl (qB hk)).trans (p9 [] 0 h0 hro rfl rfl rfl))
theorem SB (e o k n c:Nat) (j:IntKind) (b:Int) (h0:0≤b) (h1:b≤c) (hc:c<1000000000000) (hc0:c ≠ 0):aE e none (some (.int j b)) none (.ref o k n c)=some (.ref o k b.toNat c):=by
 have h2:Nat.blt c v7=true:=by rw[Nat.blt_eq];unfold v7;omega
 have h3:Nat.beq c 0=false:=SS.2 hc0
 have h4:nR n c none (some (.int j b)) none=some (0,b.toNat,c,false):=by
  simp only[nR,v8,h2,if_true,r7]
  rw[if_pos ⟨h0,h1⟩]
  simp[h3,h2]
 simp only[aE,h4,Option.map_some]
 simp
def dO (dn:List (List UInt8)) (N:Nat):List D:=dn.map sD++List.replicate (N - dn.length) (sD [])
theorem DD (dn:List (List UInt8)) (N:Nat) (h:dn.length≤N):(dO dn N).length=N:=by simp[dO];omega
theorem kO (dn:List (List UInt8)) (x:List UInt8) (N:Nat) (h:dn.length<N):(dO dn N).set dn.length (sD x)=dO (dn++ [x]) N:=by
 unfold dO
 rw[List.set_append_right _ _ (by simp),List.length_map,Nat.sub_self,show N - dn.length=(N - (dn.length+1))+1 by omega,List.replicate_succ,List.length_append]
 simp
theorem DC (dn:List (List UInt8)) (N:Nat) (h:dn.length=N):dO dn N=dn.map sD:=by simp[dO,h]
section
variable (w:World) (n:Nat)
theorem aR0 (l:List UInt8) (c:UInt8) (hl:l.length≤1000000):k8 (EN w (n+5)) 35 [m6 l,m6 [c],.sc (.int .i64 0),.sc (.int .i64 (-1))] (.sl 3 (n9 c l).length ((n9 c l).map sD)) ⟨[],0,0⟩:=by
 refine A2 rfl rfl (fun _ _=>rfl) (Nat.le_of_ble_eq_true rfl) (d7 w) S7 rfl fun C hC h0=>?_
 have h1:(ByteArray.mk [c].toArray).size=1:=rfl
 have hne:¬ (ByteArray.mk [c].toArray=ByteArray.mk #[]):=fun h=>by
  have:=congrArg (fun b:ByteArray=>b.data.toList) h
  simp at this
 have hsz:=n4 l
 have hcw:=cA7 c l.length l (Nat.le_refl _)
 have hwl:=(Go.Itp.words_len (c:=c) l.length (s:=l) (Nat.le_refl _)).1
 simp (disch:=first|exact f6|(simp only[i6]<;>omega)) only[WA,Nat.reduceEqDiff,Nat.reduceLT,Nat.reduceAdd,Int.reduceLT,Int.reduceNeg,↓reduceIte,reduceCtorEq,c35,hne]
 refine a6 (by rw[hC];exact WW w (n+3) _ l [c] (by omega) (Nat.le_refl 1)) ?_
 generalize hN:Lib.countB ⟨l.toArray⟩ ⟨[c].toArray⟩=N at*
 have hmin:min ((N:Int)+1) (((ByteArray.mk l.toArray).size:Int)+1)=((N+1:Nat):Int):=by rw[hsz];omega
 have hNs:((N+1:Nat):Int) - 1=(N:Int):=by omega
 have hN1:(((N+1:Nat):Int)).toNat=N+1:=by omega
 have hr0:D.sc (Value.string ⟨#[]⟩)::List.replicate N (D.sc (Value.string ⟨#[]⟩))=dO [] (N+1):=by simp[dO,sD,List.replicate_succ]
 simp (disch:=first|omega|exact f6|fail) only[WA,Nat.reduceEqDiff,Nat.reduceLT,Int.reduceNeg,↓reduceIte,reduceCtorEq,List.replicate,uQ,hmin,hN1,hNs]
 rw[hr0]
 refine s8 (fun m fr st=>∃ (dn:List (List UInt8)) (r:List UInt8),m=r.length∧r.length≤1000000∧n9 c l=dn++n9 c r∧fr= [(0,m6 r),(1,m6 [c]),(2,.sc (.int .i64 0)),(3,.sc (.int .i64 N)),(9,.ref 0 0 (N+1) (N+1)),(10,.sc (.int .i64 dn.length))]∧st=⟨[(0,.row 9 1 false false (dO dn (N+1)))],1,0⟩) l.length ?_ ⟨_,_,.refl _ _,[],l,rfl,hl,rfl,?_,rfl⟩ ?_
 ·rw[hC,j5];unfold A4;omega
 ·simp
 rintro m fr st ⟨dn,r,rfl,hrl,hw,rfl,rfl⟩
 have hdl:dn.length+(n9 c r).length=N+1:=by rw[← hcw,hw,List.length_append]
 have hfl:=DD dn (N+1) (by omega)
 have hfs:=kO dn r (N+1) (by have:=List.length_pos_iff.2 (eN c r);omega)
 rcases S4 c r with hf|⟨x,r',rfl,hf⟩
 ·have hwr:=O5 hf
  rw[hwr] at hw hdl
  have hd:dn.length=N:=by simpa using hdl
  have hcw':(dn++ [r]).length=N+1:=by simp[hd]
  simp (disch:=first|omega|exact f6|(simp only[i6]<;>omega)) only[WA,Nat.reduceEqDiff,Nat.reduceLT,↓reduceIte,reduceCtorEq,LN]
  all_goals try (exfalso;omega)
  have hv:=SB 1 0 0 (N+1) (N+1) .i64 ((dn.length:Int)+1) (by omega) (by omega) (by omega) (by omega)
  have hvN:((dn.length:Int)+1).toNat=N+1:=by omega
  rw[hvN] at hv
  simp (disch:=first|exact f6|fail) only[WA,Nat.reduceEqDiff,Nat.reduceLT,↓reduceIte,hv]
  refine bL (s:=0) ?_ rfl (.inl (by decide)) h0 rfl
  rw[show D.sc (Value.string ⟨r.toArray⟩)=sD r from rfl,hfs,DC _ _ (by simp;omega),hw,hcw']
  exact FL rfl (by simp[hd])
 ·have hi:=kS x r' hf
  have hwr:=F8 r' hf
  have hlen:(x++c::r').length=x.length+r'.length+1:=by simp;omega
  have hwp:=List.length_pos_iff.2 (eN c r')
  have hdN:dn.length<N:=by rw[hwr] at hdl;simp at hdl;omega
  have e1:=qC (x++c::r') .i64 x.length (by omega) (by rw[hlen];omega)
  have e2:=fX (x++c::r') .i64 ((x.length:Int)+1) (by omega) (by rw[hlen];omega)
  rw[Int.toNat_natCast,List.take_left] at e1
  rw[show ((x.length:Int)+1).toNat=x.length+1 by omega,show (x++c::r').drop (x.length+1)=r' by rw[← List.drop_drop];simp] at e2
  have h1i:((1:Nat):Int)=1:=rfl
  have hfx:=kO dn x (N+1) (by omega)
  simp (disch:=first|omega|exact f6|fail) only[WA,Nat.reduceEqDiff,Nat.reduceLT,↓reduceIte,reduceCtorEq,LN]
  refine a6 (by rw[hC];exact YF w (n+3) _ _ [c] (by omega)) ?_
  rw[hi]
  simp (disch:=first|omega|exact f6|(simp only[i6]<;>omega)) only[WA,Nat.reduceEqDiff,Nat.reduceLT,↓reduceIte,reduceCtorEq,h1,h1i,e1,e2,Int.add_zero]
  all_goals try (exfalso;omega)
  refine ⟨_,_,_,?_,.refl _ _,dn++ [x],r',rfl,by omega,?_,?_,?_⟩
  ·rw[hlen];omega
  ·rw[hw,hwr];simp
  ·simp
  ·rw[← hfx];rfl
theorem ZW (l:List UInt8) (c:UInt8) (hl:l.length≤1000000):k8 (EN w (n+6)) 20 [m6 l,m6 [c]] (.sl 3 (n9 c l).length ((n9 c l).map sD)) ⟨[],0,0⟩:=by
 refine A2 rfl rfl (fun _ _=>rfl) (Nat.le_of_ble_eq_true rfl) (d7 w) S7 rfl fun C hC h0=>?_
 simp (disch:=first|exact f6|fail) only[WA,Nat.reduceEqDiff,Nat.reduceLT,Int.reduceNeg,↓reduceIte,reduceCtorEq,c20]
 refine k9 (by rw[hC];exact aR0 w n l c hl) rfl rfl (fun _=>rfl) ?_
 repeat' (first|(simp (disch:=fail) only[WA,l6,p8,Nat.reduceEqDiff,Nat.reduceLT,Nat.reduceAdd,Nat.reduceBEq,Int.reduceAdd,Int.reduceSub,Int.reduceLT,Int.reduceLE,Int.reduceEq,Int.reduceNeg,↓reduceIte,reduceCtorEq,List.replicate])|apply s7|((first|apply D5|apply y9|apply z6|apply D6|apply D4|apply z7)<;>intro _))
 exact p9 [] 0 h0 rfl rfl rfl rfl
theorem aE2 (l:List UInt8) (hl:l.length≤1000000):k8 (EN w (n+5)) 35 [m6 l,m6 [44,32],.sc (.int .i64 0),.sc (.int .i64 (-1))] (.sl 3 (n5 l).length ((n5 l).map sD)) ⟨[],0,0⟩:=by
 refine A2 rfl rfl (fun _ _=>rfl) (Nat.le_of_ble_eq_true rfl) (d7 w) S7 rfl fun C hC h0=>?_
 have h1:(ByteArray.mk #[44,32]).size=2:=rfl
 have hne:¬ (ByteArray.mk #[44,32]=ByteArray.mk #[]):=fun h=>by
  have:=congrArg (fun b:ByteArray=>b.data.toList) h
  simp at this
 have hsz:=n4 l
 have hcw:=cA8 l.length l (Nat.le_refl _)
 have hwl:=X8 l
 simp (disch:=first|exact f6|(simp only[i6]<;>omega)) only[WA,Nat.reduceEqDiff,Nat.reduceLT,Nat.reduceAdd,Int.reduceLT,Int.reduceNeg,↓reduceIte,reduceCtorEq,c35,hne]
 refine a6 (by rw[hC];exact WW w (n+3) _ l [44,32] (by omega) (by decide)) ?_
 generalize hN:Lib.countB ⟨l.toArray⟩ ⟨#[44,32]⟩=N at*
 have hmin:min ((N:Int)+1) (((ByteArray.mk l.toArray).size:Int)+1)=((N+1:Nat):Int):=by rw[hsz];omega
 have hNs:((N+1:Nat):Int) - 1=(N:Int):=by omega
 have hN1:(((N+1:Nat):Int)).toNat=N+1:=by omega
 have hr0:D.sc (Value.string ⟨#[]⟩)::List.replicate N (D.sc (Value.string ⟨#[]⟩))=dO [] (N+1):=by simp[dO,sD,List.replicate_succ]
 simp (disch:=first|omega|exact f6|fail) only[WA,Nat.reduceEqDiff,Nat.reduceLT,Int.reduceNeg,↓reduceIte,reduceCtorEq,List.replicate,uQ,hmin,hN1,hNs]
 rw[hr0]
 refine s8 (fun m fr st=>∃ (dn:List (List UInt8)) (r:List UInt8),m=r.length∧r.length≤1000000∧n5 l=dn++n5 r∧fr= [(0,m6 r),(1,m6 [44,32]),(2,.sc (.int .i64 0)),(3,.sc (.int .i64 N)),(9,.ref 0 0 (N+1) (N+1)),(10,.sc (.int .i64 dn.length))]∧st=⟨[(0,.row 9 1 false false (dO dn (N+1)))],1,0⟩) l.length ?_ ⟨_,_,.refl _ _,[],l,rfl,hl,rfl,?_,rfl⟩ ?_
 ·rw[hC,j5];unfold A4;omega
 ·simp
 rintro m fr st ⟨dn,r,rfl,hrl,hw,rfl,rfl⟩
 have hdl:dn.length+(n5 r).length=N+1:=by rw[← hcw,hw,List.length_append]
 have hfl:=DD dn (N+1) (by omega)
 have hfs:=kO dn r (N+1) (by have:=List.length_pos_iff.2 (U0 r);omega)
 rcases nD r with ⟨hi0,hwr⟩|⟨x,r',rfl,hi,hwr⟩
 ·rw[hwr] at hw hdl
  have hd:dn.length=N:=by simpa using hdl
  have hcw':(dn++ [r]).length=N+1:=by simp[hd]
  simp (disch:=first|omega|exact f6|(simp only[i6]<;>omega)) only[WA,Nat.reduceEqDiff,Nat.reduceLT,↓reduceIte,reduceCtorEq,LN]
  all_goals try (exfalso;omega)
  have hv:=SB 1 0 0 (N+1) (N+1) .i64 ((dn.length:Int)+1) (by omega) (by omega) (by omega) (by omega)
  have hvN:((dn.length:Int)+1).toNat=N+1:=by omega
  rw[hvN] at hv
  simp (disch:=first|exact f6|fail) only[WA,Nat.reduceEqDiff,Nat.reduceLT,↓reduceIte,hv]
  refine bL (s:=0) ?_ rfl (.inl (by decide)) h0 rfl
  rw[show D.sc (Value.string ⟨r.toArray⟩)=sD r from rfl,hfs,DC _ _ (by simp;omega),hw,hcw']
  exact FL rfl (by simp[hd])
 ·have hlen:(x++44::32::r').length=x.length+r'.length+2:=by simp;omega
  have hwp:=List.length_pos_iff.2 (U0 r')
  have hdN:dn.length<N:=by rw[hwr] at hdl;simp at hdl;omega
  have e1:=qC (x++44::32::r') .i64 x.length (by omega) (by rw[hlen];omega)
  have e2:=fX (x++44::32::r') .i64 ((x.length:Int)+2) (by omega) (by rw[hlen];omega)
  rw[Int.toNat_natCast,List.take_left] at e1
  rw[show ((x.length:Int)+2).toNat=x.length+2 by omega,show (x++44::32::r').drop (x.length+2)=r' by rw[← List.drop_drop];simp] at e2
  have h1i:((2:Nat):Int)=2:=rfl
  have hfx:=kO dn x (N+1) (by omega)
  simp (disch:=first|omega|exact f6|fail) only[WA,Nat.reduceEqDiff,Nat.reduceLT,↓reduceIte,reduceCtorEq,LN]
  refine a6 (by rw[hC];exact YF w (n+3) _ _ [44,32] (by omega)) ?_
  rw[hi]
  simp (disch:=first|omega|exact f6|(simp only[i6]<;>omega)) only[WA,Nat.reduceEqDiff,Nat.reduceLT,↓reduceIte,reduceCtorEq,h1,h1i,e1,e2,Int.add_zero]
  all_goals try (exfalso;omega)
  refine ⟨_,_,_,?_,.refl _ _,dn++ [x],r',rfl,by omega,?_,?_,?_⟩
  ·rw[hlen];omega
  ·rw[hw,hwr];simp
  ·simp
  ·rw[← hfx];rfl
theorem aY9 (l:List UInt8) (hl:l.length≤1000000):k8 (EN w (n+6)) 20 [m6 l,m6 [44,32]] (.sl 3 (n5 l).length ((n5 l).map sD)) ⟨[],0,0⟩:=by
 refine A2 rfl rfl (fun _ _=>rfl) (Nat.le_of_ble_eq_true rfl) (d7 w) S7 rfl fun C hC h0=>?_
 simp (disch:=first|exact f6|fail) only[WA,Nat.reduceEqDiff,Nat.reduceLT,Int.reduceNeg,↓reduceIte,reduceCtorEq,c20]
 refine k9 (by rw[hC];exact aE2 w n l hl) rfl rfl (fun _=>rfl) ?_
 repeat' (first|(simp (disch:=fail) only[WA,l6,p8,Nat.reduceEqDiff,Nat.reduceLT,Nat.reduceAdd,Nat.reduceBEq,Int.reduceAdd,Int.reduceSub,Int.reduceLT,Int.reduceLE,Int.reduceEq,Int.reduceNeg,↓reduceIte,reduceCtorEq,List.replicate])|apply s7|((first|apply D5|apply y9|apply z6|apply D6|apply D4|apply z7)<;>intro _))
 exact p9 [] 0 h0 rfl rfl rfl rfl
end
set_option maxHeartbeats 400000
section
variable (w:World) (n:Nat)
theorem NU (s p:List UInt8) (hs:s.length≤1000000):k8 (EN w (n+1)) 77 [m6 s,m6 p] (.sc (.bool (s5 p s).isSome)) ⟨[],0,0⟩:=by
 have h1:=n4 s
 have h2:=n4 p
 unfold s5
 by_cases hl:p.length≤s.length
 ·have e1:=qC s .i64 p.length (by omega) (by omega)
  rw[Int.toNat_natCast] at e1
  by_cases he:s.take p.length=p
  ·rw[if_pos ⟨hl,he⟩]
   rw[he] at e1
   refine b8 rfl rfl (fun _ _=>rfl) (Nat.le_of_ble_eq_true rfl) (d7 w) rfl fun C hC h0=>?_
   simp (disch:=first|omega|exact f6|(simp only[i6]<;>omega)) only[WA,Nat.reduceEqDiff,Nat.reduceLT,↓reduceIte,reduceCtorEq,c77,h1,h2,e1]
   all_goals try (exfalso;omega)
   exact b7 rfl h0 rfl
  ·rw[if_neg fun h=>he h.2]
   have he2:¬ ((⟨(s.take p.length).toArray⟩:ByteArray)=⟨p.toArray⟩):=by rw[X0];exact he
   generalize s.take p.length=T at*
   refine b8 rfl rfl (fun _ _=>rfl) (Nat.le_of_ble_eq_true rfl) (d7 w) rfl fun C hC h0=>?_
   simp (disch:=first|omega|exact f6|fail) only[WA,Nat.reduceEqDiff,Nat.reduceLT,↓reduceIte,reduceCtorEq,c77,h1,h2,e1,he2]
   all_goals try (exfalso;omega)
   exact b7 rfl h0 rfl
 ·rw[if_neg fun h=>hl h.1]
  refine b8 rfl rfl (fun _ _=>rfl) (Nat.le_of_ble_eq_true rfl) (d7 w) rfl fun C hC h0=>?_
  simp (disch:=first|omega|exact f6|fail) only[WA,Nat.reduceEqDiff,Nat.reduceLT,↓reduceIte,reduceCtorEq,c77,h1,h2]
  all_goals try (exfalso;omega)
  exact b7 rfl h0 rfl
theorem W6 {p s t:List UInt8} (h:s5 p s=some t):p.length≤s.length∧t=s.drop p.length:=by
 unfold s5 at h
 split at h
 ·rename_i hc;cases h;exact ⟨hc.1,rfl⟩
 ·cases h
theorem qS {p s t:List UInt8} (h:J4 p s=some t):p.length≤s.length∧t=s.take (s.length - p.length):=by
 unfold J4 at h
 split at h
 ·rename_i hc;cases h;exact ⟨hc.1,rfl⟩
 ·cases h
theorem aC9 (s p:List UInt8) (hs:s.length≤1000000):k8 (EN w (n+2)) 55 [m6 s,m6 p] (.tup [m6 ((s5 p s).getD s),.sc (.bool (s5 p s).isSome)]) ⟨[],0,0⟩:=by
 have h1:=n4 s
 have h2:=n4 p
 have hh:=NU w n s p hs
 cases hc:s5 p s with
 |none=>
  rw[hc] at hh
  refine b8 rfl rfl (fun _ _=>rfl) (Nat.le_of_ble_eq_true rfl) (d7 w) rfl fun C hC h0=>?_
  simp (disch:=first|exact f6|fail) only[WA,Nat.reduceEqDiff,Nat.reduceLT,↓reduceIte,reduceCtorEq,c55]
  refine a6 (by rw[hC];exact hh.flat rfl rfl) ?_
  simp (disch:=first|exact f6|fail) only[WA,Nat.reduceEqDiff,Nat.reduceLT,↓reduceIte,reduceCtorEq,Option.isSome_none]
  exact b7 rfl h0 rfl
 |some t=>
  rw[hc] at hh
  obtain ⟨hl,ht⟩:=W6 hc
  have e1:=fX s .i64 p.length (by omega) (by omega)
  rw[Int.toNat_natCast,← ht] at e1
  refine b8 rfl rfl (fun _ _=>rfl) (Nat.le_of_ble_eq_true rfl) (d7 w) rfl fun C hC h0=>?_
  simp (disch:=first|exact f6|fail) only[WA,Nat.reduceEqDiff,Nat.reduceLT,↓reduceIte,reduceCtorEq,c55]
  refine a6 (by rw[hC];exact hh.flat rfl rfl) ?_
  simp (disch:=first|exact f6|fail) only[WA,Nat.reduceEqDiff,Nat.reduceLT,↓reduceIte,reduceCtorEq,Option.isSome_some,h2,e1]
  exact b7 rfl h0 rfl
theorem wC (s p:List UInt8) (hs:s.length≤1000000):k8 (EN w (n+3)) 37 [m6 s,m6 p] (.tup [m6 ((s5 p s).getD s),.sc (.bool (s5 p s).isSome)]) ⟨[],0,0⟩:=by
 have hh:=aC9 w n s p hs
 generalize (s5 p s).getD s=T at*
 generalize (s5 p s).isSome=B at*
 refine b8 rfl rfl (fun _ _=>rfl) (Nat.le_of_ble_eq_true rfl) (d7 w) rfl fun C hC h0=>?_
 simp (disch:=first|exact f6|fail) only[WA,Nat.reduceEqDiff,Nat.reduceLT,↓reduceIte,reduceCtorEq,c37]
 refine a6 (by rw[hC];exact hh.flat rfl rfl) ?_
 simp (disch:=first|exact f6|fail) only[WA,Nat.reduceEqDiff,Nat.reduceLT,↓reduceIte,reduceCtorEq]
 exact b7 rfl h0 rfl
theorem VU (s p:List UInt8) (hs:s.length≤1000000):k8 (EN w (n+2)) 99 [m6 s,m6 p] (m6 ((s5 p s).getD s)) ⟨[],0,0⟩:=by
 have h1:=n4 s
 have h2:=n4 p
 have hh:=NU w n s p hs
 cases hc:s5 p s with
 |none=>
  rw[hc] at hh
  refine b8 rfl rfl (fun _ _=>rfl) (Nat.le_of_ble_eq_true rfl) (d7 w) rfl fun C hC h0=>?_
  simp (disch:=first|exact f6|fail) only[WA,Nat.reduceEqDiff,Nat.reduceLT,↓reduceIte,reduceCtorEq,c99]
  refine a6 (by rw[hC];exact hh.flat rfl rfl) ?_
  simp (disch:=first|exact f6|fail) only[WA,Nat.reduceEqDiff,Nat.reduceLT,↓reduceIte,reduceCtorEq,Option.isSome_none]
  exact b7 rfl h0 rfl
 |some t=>
  rw[hc] at hh
  obtain ⟨hl,ht⟩:=W6 hc
  have e1:=fX s .i64 p.length (by omega) (by omega)
  rw[Int.toNat_natCast,← ht] at e1
  refine b8 rfl rfl (fun _ _=>rfl) (Nat.le_of_ble_eq_true rfl) (d7 w) rfl fun C hC h0=>?_
  simp (disch:=first|exact f6|fail) only[WA,Nat.reduceEqDiff,Nat.reduceLT,↓reduceIte,reduceCtorEq,c99]
  refine a6 (by rw[hC];exact hh.flat rfl rfl) ?_
  simp (disch:=first|exact f6|fail) only[WA,Nat.reduceEqDiff,Nat.reduceLT,↓reduceIte,reduceCtorEq,Option.isSome_some,h2,e1]
  exact b7 rfl h0 rfl
theorem aI5 (s p:List UInt8) (hs:s.length≤1000000):k8 (EN w (n+3)) 80 [m6 s,m6 p] (m6 ((s5 p s).getD s)) ⟨[],0,0⟩:=by
 have hh:=VU w n s p hs
 generalize (s5 p s).getD s=T at*
 refine b8 rfl rfl (fun _ _=>rfl) (Nat.le_of_ble_eq_true rfl) (d7 w) rfl fun C hC h0=>?_
 simp (disch:=first|exact f6|fail) only[WA,Nat.reduceEqDiff,Nat.reduceLT,↓reduceIte,reduceCtorEq,c80]
 refine a6 (by rw[hC];exact hh.flat rfl rfl) ?_
 repeat' (first|(simp (disch:=fail) only[WA,l6,p8,Nat.reduceEqDiff,Nat.reduceLT,Nat.reduceAdd,Nat.reduceBEq,Int.reduceAdd,Int.reduceSub,Int.reduceLT,Int.reduceLE,Int.reduceEq,Int.reduceNeg,↓reduceIte,reduceCtorEq,List.replicate])|apply s7|((first|apply D5|apply y9|apply z6|apply D6|apply D4|apply z7)<;>intro _))
 exact b7 rfl h0 rfl
theorem aR1 (s p:List UInt8) (hs:s.length≤1000000):k8 (EN w (n+1)) 78 [m6 s,m6 p] (.sc (.bool (J4 p s).isSome)) ⟨[],0,0⟩:=by
 have h1:=n4 s
 have h2:=n4 p
 unfold J4
 by_cases hl:p.length≤s.length
 ·have e1:=fX s .i64 ((s.length:Int) - p.length) (by omega) (by omega)
  rw[show ((s.length:Int) - p.length).toNat=s.length - p.length from by omega] at e1
  by_cases he:s.drop (s.length - p.length)=p
  ·rw[if_pos ⟨hl,he⟩]
   rw[he] at e1
   refine b8 rfl rfl (fun _ _=>rfl) (Nat.le_of_ble_eq_true rfl) (d7 w) rfl fun C hC h0=>?_
   simp (disch:=first|omega|exact f6|(simp only[i6]<;>omega)) only[WA,Nat.reduceEqDiff,Nat.reduceLT,↓reduceIte,reduceCtorEq,c78,h1,h2,e1]
   all_goals try (exfalso;omega)
   exact b7 rfl h0 rfl
  ·rw[if_neg fun h=>he h.2]
   have he2:¬ ((⟨(s.drop (s.length - p.length)).toArray⟩:ByteArray)=⟨p.toArray⟩):=by rw[X0];exact he
   generalize s.drop (s.length - p.length)=T at*
   refine b8 rfl rfl (fun _ _=>rfl) (Nat.le_of_ble_eq_true rfl) (d7 w) rfl fun C hC h0=>?_
   simp (disch:=first|omega|exact f6|fail) only[WA,Nat.reduceEqDiff,Nat.reduceLT,↓reduceIte,reduceCtorEq,c78,h1,h2,e1,he2]
   all_goals try (exfalso;omega)
   exact b7 rfl h0 rfl
 ·rw[if_neg fun h=>hl h.1]
  refine b8 rfl rfl (fun _ _=>rfl) (Nat.le_of_ble_eq_true rfl) (d7 w) rfl fun C hC h0=>?_
  simp (disch:=first|omega|exact f6|fail) only[WA,Nat.reduceEqDiff,Nat.reduceLT,↓reduceIte,reduceCtorEq,c78,h1,h2]
  all_goals try (exfalso;omega)
  exact b7 rfl h0 rfl
theorem aD0 (s p:List UInt8) (hs:s.length≤1000000):k8 (EN w (n+2)) 56 [m6 s,m6 p] (.tup [m6 ((J4 p s).getD s),.sc (.bool (J4 p s).isSome)]) ⟨[],0,0⟩:=by
 have h1:=n4 s
 have h2:=n4 p
 have hh:=aR1 w n s p hs
 cases hc:J4 p s with
 |none=>
  rw[hc] at hh
  refine b8 rfl rfl (fun _ _=>rfl) (Nat.le_of_ble_eq_true rfl) (d7 w) rfl fun C hC h0=>?_
  simp (disch:=first|exact f6|fail) only[WA,Nat.reduceEqDiff,Nat.reduceLT,↓reduceIte,reduceCtorEq,c56]
  refine a6 (by rw[hC];exact hh.flat rfl rfl) ?_
  simp (disch:=first|exact f6|fail) only[WA,Nat.reduceEqDiff,Nat.reduceLT,↓reduceIte,reduceCtorEq,Option.isSome_none]
  exact b7 rfl h0 rfl
 |some t=>
  rw[hc] at hh
  obtain ⟨hl,ht⟩:=qS hc
  have e1:=qC s .i64 ((s.length:Int) - p.length) (by omega) (by omega)
  rw[show ((s.length:Int) - p.length).toNat=s.length - p.length from by omega,← ht] at e1
  refine b8 rfl rfl (fun _ _=>rfl) (Nat.le_of_ble_eq_true rfl) (d7 w) rfl fun C hC h0=>?_
  simp (disch:=first|exact f6|fail) only[WA,Nat.reduceEqDiff,Nat.reduceLT,↓reduceIte,reduceCtorEq,c56]
  refine a6 (by rw[hC];exact hh.flat rfl rfl) ?_
  simp (disch:=first|omega|exact f6|fail) only[WA,Nat.reduceEqDiff,Nat.reduceLT,↓reduceIte,reduceCtorEq,Option.isSome_some,h1,h2,e1]
  exact b7 rfl h0 rfl
theorem wE (s p:List UInt8) (hs:s.length≤1000000):k8 (EN w (n+3)) 38 [m6 s,m6 p] (.tup [m6 ((J4 p s).getD s),.sc (.bool (J4 p s).isSome)]) ⟨[],0,0⟩:=by
 have hh:=aD0 w n s p hs
 generalize (J4 p s).getD s=T at*
 generalize (J4 p s).isSome=B at*
 refine b8 rfl rfl (fun _ _=>rfl) (Nat.le_of_ble_eq_true rfl) (d7 w) rfl fun C hC h0=>?_
 simp (disch:=first|exact f6|fail) only[WA,Nat.reduceEqDiff,Nat.reduceLT,↓reduceIte,reduceCtorEq,c38]
 refine a6 (by rw[hC];exact hh.flat rfl rfl) ?_
 simp (disch:=first|exact f6|fail) only[WA,Nat.reduceEqDiff,Nat.reduceLT,↓reduceIte,reduceCtorEq]
 exact b7 rfl h0 rfl
theorem MJ (s:List UInt8):(I5 s).length≤4∧(I5 s).length≤s.length∧I5 s=s.take (I5 s).length∧(∀ i,i<(I5 s).length→A6 s[i]! =true)∧((I5 s).length<4→(I5 s).length<s.length→A6 s[(I5 s).length]! =false):=by
 have aux:∀ (m:Nat) (l:List UInt8),((l.take m).takeWhile A6).length≤m∧((l.take m).takeWhile A6).length≤l.length∧(l.take m).takeWhile A6=l.take ((l.take m).takeWhile A6).length∧(∀ i,i<((l.take m).takeWhile A6).length→A6 l[i]! =true)∧(((l.take m).takeWhile A6).length<m→((l.take m).takeWhile A6).length<l.length→A6 l[((l.take m).takeWhile A6).length]! =false):=by
  intro m
  induction m with
  |zero=>intro l;simp
  |succ m ih=>
   intro l
   cases l with
   |nil=>simp
   |cons c l=>
    obtain ⟨h1,h2,h3,h4,h5⟩:=ih l
    rw[List.take_succ_cons,List.takeWhile_cons]
    cases hc:A6 c with
    |false=>simp[hc]
    |true=>
     simp only[if_true,List.length_cons,List.take_succ_cons]
     refine ⟨by omega,by omega,by rw[← h3],fun i hi=>?_,fun a b=>?_⟩
     ·cases i with
      |zero=>simpa using hc
      |succ i=>simpa using h4 i (by omega)
     ·have:=h5 (by omega) (by omega)
      simpa using this
 exact aux 4 s
theorem aI6 {s:List UInt8} {k:Nat} (hk:k<s.length):aB (s.take (k+1))=10*aB (s.take k)+((s[k]!.toNat:Int) - 48):=by
 rw[List.take_succ_eq_append_getElem hk,sH,getElem!_pos s k hk]
theorem VX:∀ (n:Nat) (l:List UInt8),l.length=n→(∀ c ∈ l,A6 c=true)→0≤aB l∧aB l<10 ^ l.length:=by
 intro n
 induction n with
 |zero=>
  intro l hl _
  have:=List.eq_nil_of_length_eq_zero hl
  subst this
  simp[aB]
 |succ n ih=>
  intro l hl h
  rcases List.eq_nil_or_concat l with rfl|⟨q,d,rfl⟩
  ·simp at hl
  ·have h1:=ih q (by simpa using hl) fun c hc=>h c (by simp[hc])
   have h2:=h d (by simp)
   simp only[A6,Bool.and_eq_true,decide_eq_true_eq] at h2
   rw[List.concat_eq_append,sH,List.length_append,List.length_singleton,Int.pow_succ]
   omega
theorem cD7 {s:List UInt8} {k:Nat} (hk:k≤(I5 s).length):0≤aB (s.take k)∧aB (s.take k)<10000:=by
 obtain ⟨h1,h2,h3,h4,h5⟩:=MJ s
 have hb:=VX _ (s.take k) rfl fun c hc=>by
  obtain ⟨i,hi,rfl⟩:=List.mem_iff_getElem.1 hc
  rw[List.length_take] at hi
  have:=h4 i (by omega)
  rw[getElem!_pos s i (by omega)] at this
  rw[List.getElem_take];exact this
 refine ⟨hb.1,Int.lt_of_lt_of_le hb.2 ?_⟩
 have hl:(s.take k).length≤4:=by rw[List.length_take];omega
 rcases (by omega:(s.take k).length=0∨(s.take k).length=1∨(s.take k).length=2∨(s.take k).length=3∨(s.take k).length=4) with h|h|h|h|h<;>rw[h]<;>decide
theorem OQ (s:List UInt8) (hs:s.length≤1000000):k8 (EN w (n+1)) 36 [m6 s] (.tup [.sc (.int .i64 (aB (I5 s))),m6 (eC s),.sc (.bool (decide (I5 s ≠ [])))]) ⟨[],0,0⟩:=by
 refine b8 rfl rfl (fun _ _=>rfl) (Nat.le_of_ble_eq_true rfl) (d7 w) rfl fun C hC h0=>?_
 have hrn:C.E.rounds=A4:=by rw[hC,j5]
 have hsz:=n4 s
 obtain ⟨h1,h2,h3,h4,h5⟩:=MJ s
 have hv:=fun k (hk:k≤(I5 s).length)=>cD7 hk
 have hne:decide (I5 s ≠ [])=decide (0<(I5 s).length):=by
  rw[Bool.eq_iff_iff,decide_eq_true_iff,decide_eq_true_iff,List.length_pos_iff]
 rw[hne]
 unfold eC
 have hval:aB (I5 s)=aB (s.take (I5 s).length):=congrArg aB h3
 rw[hval]
 generalize (I5 s).length=d at*
 simp (disch:=first|exact f6|fail) only[WA,Nat.reduceEqDiff,Nat.reduceLT,↓reduceIte,reduceCtorEq,c36]
 refine s8 (fun m fr st=>∃ k:Nat,m=d - k∧k≤d∧fr= [(0,m6 s),(2,.sc (.int .i64 (aB (s.take k)))),(5,.sc (.int .i64 k))]∧st=⟨[],0,0⟩) d ?_ ⟨_,_,.refl _ _,0,by omega,Nat.zero_le _,rfl,rfl⟩ ?_
 ·rw[hrn];unfold A4;omega
 rintro m fr st ⟨k,rfl,hk,rfl,rfl⟩
 have hvk:=hv k hk
 by_cases hlt:k<d
 ·have hdg:=h4 k hlt
  have hb:=U8 s .i64 k (by omega) (by omega)
  rw[Int.toNat_natCast] at hb
  have hst:=aI6 (s:=s) (k:=k) (by omega)
  have hvk1:=hv (k+1) hlt
  simp only[A6,Bool.and_eq_true,decide_eq_true_eq] at hdg
  generalize s[k]!.toNat=b at*
  generalize aB (s.take k)=v at*
  have e1:IntKind.u8.wrap ((b:Int) - 48)=((b - 48:Nat):Int):=by rw[uW _ (by omega) (by omega)];omega
  simp (disch:=first|omega|exact f6|fail) only[WA,Nat.reduceEqDiff,Nat.reduceLT,↓reduceIte,reduceCtorEq,LO,hsz,hb,e1]
  all_goals try (exfalso;omega)
  refine ⟨_,_,_,by omega,.refl _ _,k+1,rfl,hlt,?_,rfl⟩
  rw[hst,show (b:Int) - 48=((b - 48:Nat):Int) from by omega]
  rfl
 ·have:k=d:=by omega
  subst this
  have e1:=fX s .i64 k (by omega) (by omega)
  rw[Int.toNat_natCast] at e1
  by_cases hb4:k<4∧k<s.length
  ·have hdg:=h5 hb4.1 hb4.2
   have hb:=U8 s .i64 k (by omega) (by omega)
   rw[Int.toNat_natCast] at hb
   have hdg2:¬ (48≤s[k]!.toNat∧s[k]!.toNat≤57):=fun h=>by
    have:A6 s[k]! =true:=by simp only[A6,Bool.and_eq_true,decide_eq_true_eq];exact h
    rw[hdg] at this;cases this
   generalize s[k]!.toNat=b at*
   generalize aB (s.take k)=v at*
   rcases (by omega:b<48∨57<b) with h|h
   all_goals
    repeat' (first|(simp (disch:=first|omega|exact f6|fail) only[WA,l6,p8,Nat.reduceEqDiff,Nat.reduceLT,↓reduceIte,reduceCtorEq,LO,hsz,hb,e1])|apply s7|((first|apply D5|apply y9|apply z6|apply D6|apply D4|apply z7)<;>intro _))
    all_goals try (exfalso;omega)
    rw[show decide ((0:Int)<k)=decide (0<k) from decide_eq_decide.2 (by omega)]
    exact b7 rfl h0 rfl
  ·generalize aB (s.take k)=v at*
   rcases (by omega:¬ k<s.length∨(k<s.length∧¬ k<4)) with h|h
   ·simp (disch:=first|omega|exact f6|fail) only[WA,l6,p8,Nat.reduceEqDiff,Nat.reduceLT,↓reduceIte,reduceCtorEq,LO,hsz,e1]
    all_goals try (exfalso;omega)
    rw[show decide ((0:Int)<k)=decide (0<k) from decide_eq_decide.2 (by omega)]
    exact b7 rfl h0 rfl
   ·simp (disch:=first|omega|exact f6|fail) only[WA,l6,p8,Nat.reduceEqDiff,Nat.reduceLT,↓reduceIte,reduceCtorEq,LO,hsz,e1]
    all_goals try (exfalso;omega)
    exact b7 rfl h0 rfl
end
def jF:Option (List Int × List UInt8)→V
 |none=> .tup [.sl 3 0 [],m6 [],.sc (.bool false)]
 |some (m,r)=> .tup [.sl 3 m.length (m.map iD),m6 r,.sc (.bool true)]
theorem rU (nx t:Nat) (z:Int):N8 nx t 1 1 [.int .i64 0] [(0,1,.sc (.int .i64 z))]=some (.ref nx 0 1 1,some (.row t 1 false false [.sc (.int .i64 z)]),[]):=(rfl)
theorem zR {H:E7} {o t n:Nat} {z:Bool} {l:List D} (h:f7 H o=some (.gro t 1 z l)) (hl:l.length=n):w5 H (.gr 2 o n)=some (.sl 2 n l):=by
 simp only[w5,dH,h,Nat.mul_one]
 rw[if_pos ⟨hl,by decide,by decide,by decide⟩]
 rfl
theorem EU (s:List UInt8):(eC s).length≤s.length:=by unfold eC;rw[List.length_drop];omega
section
variable (w:World) (n:Nat)
theorem IY (s form:List UInt8) (hs:s.length≤100000) (hf:form.length≤1000):k8 (EN w (n+7)) 21 [m6 s,m6 form] (jF (C0 (n9 35 form) s)) ⟨[],0,0⟩:=by
 have hsp:=ZW w n form 35 (by omega)
 have hwl:=(Go.Itp.words_len (c:=35) form.length (s:=form) (Nat.le_refl _))
 have hwn:=eN 35 form
 generalize n9 35 form=f at*
 refine A2 rfl rfl (fun _ _=>rfl) (Nat.le_of_ble_eq_true rfl) (d7 w) (by cases C0 f s<;>exact VG) rfl fun C hC h0=>?_
 have hrn:C.E.rounds=A4:=by rw[hC,j5]
 simp (disch:=first|exact f6|fail) only[WA,Nat.reduceEqDiff,Nat.reduceLT,↓reduceIte,reduceCtorEq,c21]
 refine k9 (by rw[hC];exact hsp) rfl rfl (fun _=>rfl) ?_
 simp (disch:=first|exact f6|fail) only[WA,Nat.reduceEqDiff,Nat.reduceLT,↓reduceIte,reduceCtorEq]
 refine s8 (fun m fr st=>∃ (k:Nat) (t:List UInt8) (l:List Int),m=f.length - k∧k≤f.length∧t.length≤s.length∧l.length≤k∧(if k=0 then t=s∧l= [] else C0 f s=S6 (f.drop k) t l)∧fr= [(0,m6 t),(4,.gr 2 0 l.length),(17,.sl 3 f.length (f.map sD)),(18,.sc (.int .i64 f.length)),(19,.sc (.int .i64 k))]∧st=⟨[(0,.gro 3 1 false (l.map iD))],1,0⟩) f.length ?_ ⟨_,_,L3 4 3 1 rfl,0,s,[],by omega,Nat.zero_le _,Nat.le_refl _,Nat.le_refl _,by rw[if_pos rfl];exact ⟨rfl,rfl⟩,rfl,rfl⟩ ?_
 ·rw[hrn];unfold A4;omega
 rintro m fr st ⟨k,t,l,rfl,hk,htl,hll,hinv,rfl,rfl⟩
 by_cases hlt:k<f.length
 ·have hfk:f.drop k=f[k]! ::f.drop (k+1):=by rw[List.drop_eq_getElem_cons hlt,getElem!_pos f k hlt]
  have hpl:f[k]!.length≤1000:=by
   have:=hwl.2 f[k]! (by rw[getElem!_pos f k hlt];exact List.getElem_mem hlt)
   omega
  generalize hp:f[k]! =p at*
  by_cases hk0:k=0
  ·subst hk0
   rw[if_pos rfl] at hinv
   obtain ⟨rfl,rfl⟩:=hinv
   have hcp:=wC w (n+3) t p (by omega)
   rw[List.drop_zero] at hfk
   have hm:C0 f t=match s5 p t with
     |none=>none
     |some t'=>S6 (f.drop 1) t' []:=by rw[hfk];rfl
   cases hc:s5 p t with
   |none=>
    rw[hc] at hcp hm
    rw[hm]
    simp (disch:=first|omega|exact f6|fail) only[WA,Nat.reduceEqDiff,Nat.reduceLT,↓reduceIte,reduceCtorEq,vQ,hp]
    all_goals try (exfalso;omega)
    refine a6 (by rw[hC];exact hcp.flat rfl rfl) ?_
    simp (disch:=first|exact f6|fail) only[WA,Nat.reduceEqDiff,Nat.reduceLT,↓reduceIte,reduceCtorEq,Option.isSome_none]
    exact gN h0 rfl
   |some t'=>
    rw[hc] at hcp hm
    have hle:=W6 hc
    have htl':t'.length≤t.length:=by rw[hle.2,List.length_drop];omega
    simp (disch:=first|omega|exact f6|fail) only[WA,Nat.reduceEqDiff,Nat.reduceLT,↓reduceIte,reduceCtorEq,vQ,hp]
    all_goals try (exfalso;omega)
    refine a6 (by rw[hC];exact hcp.flat rfl rfl) ?_
    simp (disch:=first|omega|exact f6|fail) only[WA,Nat.reduceEqDiff,Nat.reduceLT,↓reduceIte,reduceCtorEq,Option.isSome_some,Option.getD_some]
    exact ⟨f.length - 1,_,_,by omega,.refl _ _,1,t',[],rfl,by omega,htl',Nat.zero_le _,by rw[if_neg (by decide)];exact hm,rfl,rfl⟩
  ·rw[if_neg hk0] at hinv
   rw[hfk,S6] at hinv
   have hnum:=OQ w (n+5) t (by omega)
   by_cases hd:I5 t= []
   ·rw[if_pos hd] at hinv
    rw[hinv]
    rw[hd,show decide (([]:List UInt8) ≠ [])=false from rfl] at hnum
    simp (disch:=first|omega|exact f6|fail) only[WA,Nat.reduceEqDiff,Nat.reduceLT,↓reduceIte,reduceCtorEq,vQ,hp]
    all_goals try (exfalso;omega)
    refine a6 (by rw[hC];exact hnum.flat rfl rfl) ?_
    simp (disch:=first|exact f6|fail) only[WA,Nat.reduceEqDiff,Nat.reduceLT,↓reduceIte,reduceCtorEq]
    exact gN h0 rfl
   ·rw[if_neg hd] at hinv
    rw[decide_eq_true hd] at hnum
    have hrl:=EU t
    generalize aB (I5 t)=v at*
    generalize eC t=r at*
    have hcp:=wC w (n+3) r p (by omega)
    cases hc:s5 p r with
    |none=>
     rw[hc] at hcp hinv
     rw[hinv]
     simp (disch:=first|omega|exact f6|fail) only[WA,Nat.reduceEqDiff,Nat.reduceLT,↓reduceIte,reduceCtorEq,vQ,hp]
     all_goals try (exfalso;omega)
     refine a6 (by rw[hC];exact hnum.flat rfl rfl) ?_
     simp (disch:=first|omega|exact f6|(simp only[i6]<;>omega)) only[WA,Nat.reduceEqDiff,Nat.reduceLT,Nat.reduceAdd,↓reduceIte,reduceCtorEq,rU]
     all_goals try (exfalso;omega)
     refine a6 (by rw[hC];exact hcp.flat rfl rfl) ?_
     simp (disch:=first|exact f6|fail) only[WA,Nat.reduceEqDiff,Nat.reduceLT,↓reduceIte,reduceCtorEq,Option.isSome_none]
     exact gN h0 rfl
    |some t'=>
     rw[hc] at hcp hinv
     have hle:=W6 hc
     have htl':t'.length≤r.length:=by rw[hle.2,List.length_drop];omega
     simp (disch:=first|omega|exact f6|fail) only[WA,Nat.reduceEqDiff,Nat.reduceLT,↓reduceIte,reduceCtorEq,vQ,hp]
     all_goals try (exfalso;omega)
     refine a6 (by rw[hC];exact hnum.flat rfl rfl) ?_
     simp (disch:=first|omega|exact f6|(simp only[i6]<;>omega)) only[WA,Nat.reduceEqDiff,Nat.reduceLT,Nat.reduceAdd,↓reduceIte,reduceCtorEq,rU]
     all_goals try (exfalso;omega)
     refine a6 (by rw[hC];exact hcp.flat rfl rfl) ?_
     simp (disch:=first|omega|exact f6|fail) only[WA,Nat.reduceEqDiff,Nat.reduceLT,↓reduceIte,reduceCtorEq,Option.isSome_some,Option.getD_some]
     refine ⟨f.length - (k+1),_,_,by omega,p9 [(2,0)] 1 h0 rfl rfl rfl rfl,k+1,t',l++ [v],rfl,by omega,by omega,by rw[List.length_append];simp;omega,by rw[if_neg (by omega)];exact hinv,by rw[List.length_append];rfl,by rw[List.map_append];rfl⟩
 ·have:k=f.length:=by omega
  subst this
  have hpos:=List.length_pos_iff.2 hwn
  rw[if_neg (by omega),List.drop_length,S6] at hinv
  rw[hinv]
  unfold jF
  simp (disch:=first|omega|exact f6|fail) only[WA,Nat.reduceEqDiff,Nat.reduceLT,↓reduceIte,reduceCtorEq,vQ]
  all_goals try (exfalso;omega)
  refine aJ9 (s:=2) (n:=l.length) (l:=l.map iD) ?_ rfl (.inl (by omega)) h0 rfl
  exact zR rfl (by simp)
end
end Go.Proofs.YtimmmnanllcfoaaGreatDoor
namespace Go.Itp
def AC.l:AC→AC
 | .seq a _=>a
 |x=>x
def AC.r:AC→AC
 | .seq _ b=>b
 |x=>x
def AC.b:AC→AC
 | .block _ b=>b
 |x=>x
end Go.Itp
namespace Go.Proofs.YtimmmnanllcfoaaGreatDoor
open Go Go.Itp
set_option maxRecDepth 100000
set_option maxHeartbeats 400000
set_option linter.unusedSimpArgs false
set_option linter.unusedVariables false
abbrev cI (x:p7):Go.Itp.Obj:= .box 89 1 [.sc (.int .u8 x.kind),.sc (.bool x.purl),.sc (.int .i64 x.a),.sc (.int .i64 x.b)]
def BH:AC:=AC.b (AC.l (AC.r (AC.r N3)))
def lQ:AC:=AC.r (AC.r (AC.r (AC.r (AC.r (AC.r BH)))))
def BU:AC:=AC.r lQ
theorem yN {x:p7} {m:Int} {s:List UInt8}:(¬ (⟨(p5 x m).toArray⟩:ByteArray)=⟨s.toArray⟩)↔p5 x m ≠ s:=by rw[X0]
section
variable (w:World) (n:Nat)
theorem PX (G:V) {fr:List (Nat × V)} {C:D0} (hC:C.E=EN w (n+7)) (s:List UInt8) (hs:s.length≤100000) (x:p7) (hx:x.kind<256) (j k:Int) (m:Int) (r:List UInt8) (hr:r.length≤100000) {T S:AC} (hT:T=BU) {P:B5}
  (hgo:P5 x (m,r) s=none→gK C [KF.seq S] .normal [(0,m6 s),(2,.ptr 0 0),(5,.sc (.int .u8 k)),(7,.ptr 1 0),(8,.sc (.int .i64 m)),(20,.sc (.int .i64 j)),(106,.sc (.bool false))] ⟨[(1,cI x),(0,cI sG)],2,0⟩ P)
  (hret:∀ fr st,P5 x (m,r) s=some (x,m)→f7 fr 2=some (.ptr 0 0)→f7 fr 3=some (.sc (.int .i64 m))→f7 fr 4=some (.sc (.bool true))→f7 st.own 0=some (cI x)→st.ro=0→P .ret fr st)
  (hfr:fr= [(0,m6 s),(2,.ptr 0 0),(5,.sc (.int .u8 k)),(7,.ptr 1 0),(8,.sc (.int .i64 m)),(12,m6 r),(20,.sc (.int .i64 j))]∨fr= [(0,m6 s),(2,.ptr 0 0),(5,.sc (.int .u8 k)),(7,.ptr 1 0),(8,.sc (.int .i64 m)),(12,m6 r),(14,G),(20,.sc (.int .i64 j)),(77,.sc (.bool false))]):
  gK C [KF.seq T,KF.block 3,KF.seq S] .normal fr ⟨[(1,cI x),(0,cI sG)],2,0⟩ P:=by
 rcases hfr with hfr|hfr<;>subst hfr
 all_goals
  have hck:=QN w (n+5) x hx
  have hph:=fun h1 h2 h3=>PC w (n+4) x h1 m h2 h3
  have hn:¬ (r= []∧(1≤m∧m≤200)∧D1 x∧p5 x m=s)→P5 x (m,r) s=none:=fun h=>by unfold P5;rw[if_neg h]
  have hy:(r= []∧(1≤m∧m≤200)∧D1 x∧p5 x m=s)→P5 x (m,r) s=some (x,m):=fun h=>by unfold P5;rw[if_pos h]
  have hemp:((⟨r.toArray⟩:ByteArray)=⟨#[]⟩)=(r= []):=X0 r []
  generalize P5 x (m,r) s=cc at*
  subst hT
  by_cases h1:r= []
  case neg=>
   have hgo:=hgo (hn fun h=>h1 h.1)
   obtain ⟨xk,xp,xa,xb⟩:=x
   simp (disch:=first|exact f6|fail) only[WA,Nat.reduceEqDiff,Nat.reduceLT,↓reduceIte,reduceCtorEq,BU,lQ,BH,AC.r,AC.l,AC.b,N3,hemp,h1]
   exact hgo
  by_cases h2:1≤m
  case neg=>
   have hgo:=hgo (hn fun h=>h2 h.2.1.1)
   obtain ⟨xk,xp,xa,xb⟩:=x
   simp (disch:=first|omega|exact f6|(simp only[i6]<;>omega)) only[WA,Nat.reduceEqDiff,Nat.reduceLT,↓reduceIte,reduceCtorEq,BU,lQ,BH,AC.r,AC.l,AC.b,N3,hemp,h1]
   all_goals try (exfalso;omega)
   exact hgo
  by_cases h3:m≤200
  case neg=>
   have hgo:=hgo (hn fun h=>h3 h.2.1.2)
   obtain ⟨xk,xp,xa,xb⟩:=x
   simp (disch:=first|omega|exact f6|(simp only[i6]<;>omega)) only[WA,Nat.reduceEqDiff,Nat.reduceLT,↓reduceIte,reduceCtorEq,BU,lQ,BH,AC.r,AC.l,AC.b,N3,hemp,h1]
   all_goals try (exfalso;omega)
   exact hgo
  cases h4:C9 x with
  |false=>
   have hgo:=hgo (hn fun h=>by rw[B4.2 h.2.2.1] at h4;cases h4)
   rw[h4,if_neg (by decide)] at hck
   obtain ⟨xk,xp,xa,xb⟩:=x
   simp (disch:=first|omega|exact f6|(simp only[i6]<;>omega)) only[WA,Nat.reduceEqDiff,Nat.reduceLT,↓reduceIte,reduceCtorEq,BU,lQ,BH,AC.r,AC.l,AC.b,N3,hemp,h1]
   all_goals try (exfalso;omega)
   refine a6 (by rw[hC];exact hck.flat rfl rfl) ?_
   simp (disch:=first|exact f6|fail) only[WA,Nat.reduceEqDiff,Nat.reduceLT,Int.reduceEq,↓reduceIte,reduceCtorEq]
   exact hgo
  |true=>
   have hP:=B4.1 h4
   rw[h4,if_pos rfl] at hck
   have hph:=hph hP h2 (by omega)
   by_cases h5:p5 x m=s
   ·have hret:=fun fr st=>hret fr st (hy ⟨h1,⟨h2,h3⟩,hP,h5⟩)
    rw[h5] at hph
    clear hgo hn hy
    obtain ⟨xk,xp,xa,xb⟩:=x
    simp (disch:=first|omega|exact f6|(simp only[i6]<;>omega)) only[WA,Nat.reduceEqDiff,Nat.reduceLT,↓reduceIte,reduceCtorEq,BU,lQ,BH,AC.r,AC.l,AC.b,N3,hemp,h1]
    all_goals try (exfalso;omega)
    refine a6 (by rw[hC];exact hck.flat rfl rfl) ?_
    simp (disch:=first|exact f6|(simp only[i6]<;>omega)) only[WA,Nat.reduceEqDiff,Nat.reduceLT,↓reduceIte,reduceCtorEq]
    refine a6 (by rw[hC];exact hph.flat rfl rfl) ?_
    simp (disch:=first|exact f6|(simp only[i6]<;>omega)) only[WA,Nat.reduceEqDiff,Nat.reduceLT,↓reduceIte,reduceCtorEq]
    exact hret _ _ rfl rfl rfl rfl rfl
   ·have hgo:=hgo (hn fun h=>h5 h.2.2.2)
    have h5':=yN.2 h5
    generalize p5 x m=ph at*
    obtain ⟨xk,xp,xa,xb⟩:=x
    simp (disch:=first|omega|exact f6|(simp only[i6]<;>omega)) only[WA,Nat.reduceEqDiff,Nat.reduceLT,↓reduceIte,reduceCtorEq,BU,lQ,BH,AC.r,AC.l,AC.b,N3,hemp,h1]
    all_goals try (exfalso;omega)
    refine a6 (by rw[hC];exact hck.flat rfl rfl) ?_
    simp (disch:=first|exact f6|(simp only[i6]<;>omega)) only[WA,Nat.reduceEqDiff,Nat.reduceLT,↓reduceIte,reduceCtorEq]
    refine a6 (by rw[hC];exact hph.flat rfl rfl) ?_
    simp (disch:=first|exact f6|fail) only[WA,Nat.reduceEqDiff,Nat.reduceLT,↓reduceIte,reduceCtorEq,h5']
    exact hgo
theorem lD (G11:V) {fr:List (Nat × V)} {C:D0} (hC:C.E=EN w (n+7)) (s:List UInt8) (hs:s.length≤100000) (x:p7) (hx:x.kind<256) (j k:Int) (m:List Int) (m0:Int) (r:List UInt8) (hr:r.length≤100000) (hm0:m0=if countB x.kind=true then m.headD 0 else 1) {T S:AC} (hT:T=lQ) {P:B5}
  (hgo:P5 x (Z4 x.kind m r) s=none→∀ m',gK C [KF.seq S] .normal [(0,m6 s),(2,.ptr 0 0),(5,.sc (.int .u8 k)),(7,.ptr 1 0),(8,.sc (.int .i64 m')),(20,.sc (.int .i64 j)),(106,.sc (.bool false))] ⟨[(1,cI x),(0,cI sG)],2,0⟩ P)
  (hret:∀ fr st m',P5 x (Z4 x.kind m r) s=some (x,m')→f7 fr 2=some (.ptr 0 0)→f7 fr 3=some (.sc (.int .i64 m'))→f7 fr 4=some (.sc (.bool true))→f7 st.own 0=some (cI x)→st.ro=0→P .ret fr st)
  (hfr:fr= [(0,m6 s),(2,.ptr 0 0),(5,.sc (.int .u8 k)),(7,.ptr 1 0),(8,.sc (.int .i64 m0)),(10,.sc (.bool (countB x.kind))),(12,m6 r),(20,.sc (.int .i64 j))]∨fr= [(0,m6 s),(2,.ptr 0 0),(5,.sc (.int .u8 k)),(7,.ptr 1 0),(8,.sc (.int .i64 m0)),(10,.sc (.bool (countB x.kind))),(11,G11),(12,m6 r),(20,.sc (.int .i64 j)),(60,.sc (.bool false))]):
  gK C [KF.seq T,KF.block 3,KF.seq S] .normal fr ⟨[(1,cI x),(0,cI sG)],2,0⟩ P:=by
 rcases hfr with hfr|hfr<;>subst hfr
 all_goals
  have hcs:=wE w (n+4) r dG (by omega)
  have hchk:=fun (m':Int) (r':List UInt8) (hr':r'.length≤100000) (e:Z4 x.kind m r=(m',r'))=>PX w n .dead hC s hs x hx j k m' r' hr' (T:=BU) (S:=S) rfl (P:=P) (fun h=>hgo (by rw[e];exact h) m') (fun fr st h=>hret fr st m' (by rw[e];exact h)) (Or.inl rfl)
  have hchkG:=fun (G:V) (m':Int) (r':List UInt8) (hr':r'.length≤100000) (e:Z4 x.kind m r=(m',r'))=>PX w n G hC s hs x hx j k m' r' hr' (T:=BU) (S:=S) rfl (P:=P) (fun h=>hgo (by rw[e];exact h) m') (fun fr st h=>hret fr st m' (by rw[e];exact h)) (Or.inr rfl)
  clear hgo hret
  subst hT
  obtain ⟨T2,hT2⟩:∃ T2,T2=BU:=⟨_,rfl⟩
  rw[← hT2] at hchk hchkG
  have hc:lQ= .seq (AC.l lQ) T2:=by rw[hT2];rfl
  rw[hc]
  cases hcn:countB x.kind with
  |true=>
   rw[hcn,if_pos rfl] at hm0
   have e:Z4 x.kind m r=(m0,r):=by unfold Z4;rw[if_pos hcn,hm0]
   generalize (J4 dG r).getD r=G at*
   have hchk:=hchkG (m6 G) m0 r hr e
   cases hB:(J4 dG r).isSome with
   |true=>
    rw[hB] at hcs
    simp (disch:=first|exact f6|fail) only[WA,Nat.reduceEqDiff,Nat.reduceLT,↓reduceIte,reduceCtorEq,lQ,BH,AC.r,AC.l,AC.b,N3]
    refine a6 (by rw[hC];exact hcs.flat rfl rfl) ?_
    simp (disch:=first|exact f6|fail) only[WA,Nat.reduceEqDiff,Nat.reduceLT,↓reduceIte,reduceCtorEq]
    exact hchk
   |false=>
    rw[hB] at hcs
    simp (disch:=first|exact f6|fail) only[WA,Nat.reduceEqDiff,Nat.reduceLT,↓reduceIte,reduceCtorEq,lQ,BH,AC.r,AC.l,AC.b,N3]
    refine a6 (by rw[hC];exact hcs.flat rfl rfl) ?_
    simp (disch:=first|exact f6|fail) only[WA,Nat.reduceEqDiff,Nat.reduceLT,↓reduceIte,reduceCtorEq]
    exact hchk
  |false=>
   rw[hcn,if_neg (by decide)] at hm0
   cases hcu:J4 dG r with
   |none=>
    have e:Z4 x.kind m r=(m0,r):=by unfold Z4;rw[if_neg (by rw[hcn];decide),hcu,hm0]
    have hchk:=hchkG (m6 r) m0 r hr e
    rw[hcu] at hcs
    simp (disch:=first|exact f6|fail) only[WA,Nat.reduceEqDiff,Nat.reduceLT,↓reduceIte,reduceCtorEq,lQ,BH,AC.r,AC.l,AC.b,N3]
    refine a6 (by rw[hC];exact hcs.flat rfl rfl) ?_
    simp (disch:=first|exact f6|fail) only[WA,Nat.reduceEqDiff,Nat.reduceLT,↓reduceIte,reduceCtorEq,Option.isSome_none,Option.getD_none]
    exact hchk
   |some t=>
    have hle:=qS hcu
    have htl:t.length≤r.length:=by rw[hle.2,List.length_take];omega
    have htr:=aI5 w (n+4) t [32] (by omega)
    have hul:((s5 [32] t).getD t).length≤t.length:=by
     cases hp:s5 [32] t with
     |none=>exact Nat.le_refl _
     |some u=>have:=W6 hp;simp only[Option.getD_some];rw[this.2,List.length_drop];omega
    have e:Z4 x.kind m r=(aB (I5 ((s5 [32] t).getD t)),eC ((s5 [32] t).getD t)):=by unfold Z4;rw[if_neg (by rw[hcn];decide),hcu]
    generalize (s5 [32] t).getD t=u at*
    have hnm:=OQ w (n+6) u (by omega)
    have hrl:=EU u
    have hchk:=hchk _ _ (by omega) e
    generalize aB (I5 u)=nv at*
    generalize eC u=rv at*
    generalize decide (I5 u ≠ [])=bv at*
    rw[hcu] at hcs
    simp (disch:=first|exact f6|fail) only[WA,Nat.reduceEqDiff,Nat.reduceLT,↓reduceIte,reduceCtorEq,lQ,BH,AC.r,AC.l,AC.b,N3]
    refine a6 (by rw[hC];exact hcs.flat rfl rfl) ?_
    simp (disch:=first|exact f6|fail) only[WA,Nat.reduceEqDiff,Nat.reduceLT,↓reduceIte,reduceCtorEq,Option.isSome_some,Option.getD_some]
    refine a6 (by rw[hC];exact htr.flat rfl rfl) ?_
    repeat' (first|(simp (disch:=fail) only[WA,l6,p8,Nat.reduceEqDiff,Nat.reduceLT,Nat.reduceAdd,Nat.reduceBEq,Int.reduceAdd,Int.reduceSub,Int.reduceLT,Int.reduceLE,Int.reduceEq,Int.reduceNeg,↓reduceIte,reduceCtorEq,List.replicate])|apply s7|((first|apply D5|apply y9|apply z6|apply D6|apply D4|apply z7)<;>intro _))
    refine a6 (by rw[hC];exact hnm.flat rfl rfl) ?_
    simp (disch:=first|exact f6|fail) only[WA,Nat.reduceEqDiff,Nat.reduceLT,↓reduceIte,reduceCtorEq]
    exact hchk
end
end Go.Proofs.YtimmmnanllcfoaaGreatDoor
namespace Go.Proofs.YtimmmnanllcfoaaGreatDoor
open Go Go.Itp
set_option maxRecDepth 100000
set_option maxHeartbeats 400000
set_option linter.unusedSimpArgs false
set_option linter.unusedVariables false
def aW3:Option (p7 × Int)→V
 |none=> .tup [gA sG,.sc (.int .i64 0),.sc (.bool false)]
 |some (x,m)=> .tup [gA x,.sc (.int .i64 m),.sc (.bool true)]
theorem bI1 (T1:AC) (h:T1=lQ):N3= .seq (AC.l N3) (.seq (AC.l (AC.r N3)) (.seq (.block 3 (.seq (AC.l BH) (.seq (AC.l (AC.r BH)) (.seq (AC.l (AC.r (AC.r BH))) (.seq (AC.l (AC.r (AC.r (AC.r BH)))) (.seq (AC.l (AC.r (AC.r (AC.r (AC.r BH))))) (.seq (AC.l (AC.r (AC.r (AC.r (AC.r (AC.r BH)))))) T1))))))) (AC.r (AC.r (AC.r N3))))):=by rw[h];rfl
section
variable (w:World) (n:Nat)
theorem dl1 (a:Int):C8 [iD a] 0 none=some (.sc (.int .i64 a)):=(rfl)
theorem cH9 (a b:Int):C8 [iD a,iD b] 0 none=some (.sc (.int .i64 a)):=(rfl)
theorem cI0 (a b:Int):C8 [iD a,iD b] 1 none=some (.sc (.int .i64 b)):=(rfl)
theorem VC {C:D0} (hC:C.E=EN w (n+7)) (s:List UInt8) (hs:s.length≤100000) (k:Nat) (hk1:1≤k) (hk2:k≤10) (p:Bool) (j:Nat) (hj:j<2) (hp:decide ((j:Int)=1)=p) {P:B5}
  (hgo:iJ k p s=none→∀ x,P .normal [(0,m6 s),(2,.ptr 0 0),(5,.sc (.int .u8 k)),(20,.sc (.int .i64 ((j:Int)+1)))] ⟨[(1,cI x),(0,cI sG)],2,0⟩)
  (hret:∀ fr st x m',iJ k p s=some (x,m')→f7 fr 2=some (.ptr 0 0)→f7 fr 3=some (.sc (.int .i64 m'))→f7 fr 4=some (.sc (.bool true))→f7 st.own 0=some (cI x)→st.ro=0→P .ret fr st):
  gC C N3 [] [(0,m6 s),(2,.ptr 0 0),(5,.sc (.int .u8 k)),(20,.sc (.int .i64 j))] ⟨[(0,cI sG)],1,0⟩ P:=by
 have hf:=aO6 w (n+5) k p hk1 hk2
 have hm:=IY w n s (P6 k p) hs (by have:=rG k p;omega)
 rw[MW] at hm
 have hlen:=fun m r (h:C0 (p6 k p) s=some (m,r))=>nG (f:=p6 k p) (by unfold p6;split<;>simp) h
 have hfl:(p6 k p).length=if countB k=true then 2 else if k=2 then 1 else if k=6∨k=7 then 3 else 2:=by
  rcases (by omega:k=1∨k=2∨k=3∨k=4∨k=5∨k=6∨k=7∨k=8∨k=9∨k=10) with rfl|rfl|rfl|rfl|rfl|rfl|rfl|rfl|rfl|rfl<;>cases p<;>rfl
 have hcand:iJ k p s=match C0 (p6 k p) s with
   |none=>none
   |some (m,r)=>P5 (sW k p m) (Z4 k m r) s:=rfl
 obtain ⟨T1,hT1⟩:∃ T1,T1=lQ:=⟨_,rfl⟩
 rw[bI1 T1 hT1]
 cases hM:C0 (p6 k p) s with
 |none=>
  rw[hM] at hm hcand
  unfold jF at hm
  have hgo:=hgo hcand
  simp (disch:=first|omega|exact f6|(simp only[i6]<;>omega)) only[WA,Nat.reduceEqDiff,Nat.reduceLT,Nat.reduceAdd,↓reduceIte,reduceCtorEq,List.replicate,BH,AC.r,AC.l,AC.b,N3,hp]
  all_goals try (exfalso;omega)
  refine a6 (by rw[hC];exact hf.flat rfl rfl) ?_
  simp (disch:=first|exact f6|fail) only[WA,Nat.reduceEqDiff,Nat.reduceLT,↓reduceIte,reduceCtorEq]
  refine k9 (by rw[hC];exact hm) rfl rfl (fun _=>rfl) ?_
  simp (disch:=first|omega|exact f6|fail) only[WA,Nat.reduceEqDiff,Nat.reduceLT,↓reduceIte,reduceCtorEq]
  exact hgo ⟨k,p,0,0⟩
 |some mr=>
  obtain ⟨m,r⟩:=mr
  have hl:=hlen m r hM
  rw[hM] at hm hcand
  unfold jF at hm
  simp only at hcand
  rw[hcand] at hgo hret
  clear hcand hM hlen
  cases hcn:countB k with
  |true=>
   rw[hcn,if_pos rfl] at hfl
   obtain ⟨a,rfl⟩:∃ a,m= [a]:=by
    cases m with
    |nil=>simp at hl;omega
    |cons a q=>cases q with
     |nil=>exact ⟨a,rfl⟩
     |cons b c=>simp at hl;omega
   rw[hcn] at hf
   have hx:sW k p [a]=⟨k,p,0,0⟩:=by unfold sW;rw[if_pos hcn]
   rw[hx] at hgo hret
   have htail:=fun S hg=>lD w n .dead hC s hs ⟨k,p,0,0⟩ (by simp only;omega) j k [a] a r (by omega) (by simp only[hcn,if_true];rfl) hT1 (S:=S) (P:=P) hg (fun fr st m'=>hret fr st _ m') (Or.inl rfl)
   clear hret
   simp (disch:=first|omega|exact f6|(simp only[i6]<;>omega)) only[WA,Nat.reduceEqDiff,Nat.reduceLT,Nat.reduceAdd,↓reduceIte,reduceCtorEq,List.replicate,BH,AC.r,AC.l,AC.b,N3,hp]
   all_goals try (exfalso;omega)
   refine a6 (by rw[hC];exact hf.flat rfl rfl) ?_
   simp (disch:=first|exact f6|fail) only[WA,Nat.reduceEqDiff,Nat.reduceLT,↓reduceIte,reduceCtorEq]
   refine k9 (by rw[hC];exact hm) rfl rfl (fun _=>rfl) ?_
   simp (disch:=first|omega|exact f6|fail) only[WA,Nat.reduceEqDiff,Nat.reduceLT,↓reduceIte,reduceCtorEq,List.map_cons,List.map_nil,FZ,dl1]
   simp only[hcn] at htail
   refine htail _ fun hn m'=>?_
   simp (disch:=first|omega|exact f6|fail) only[WA,Nat.reduceEqDiff,Nat.reduceLT,↓reduceIte,reduceCtorEq]
   exact hgo hn _
  |false=>
   rw[hcn,if_neg (by decide)] at hfl
   rw[hcn] at hf
   have hxx:∀ m,sW k p m=match m with
     | [a,b]=>⟨k,p,a,b⟩
     | [a]=>⟨k,p,a,0⟩
     |_=>⟨k,p,0,0⟩:=fun m=>by unfold sW;rw[if_neg (by rw[hcn];decide)];try rfl
   rw[hxx] at hgo hret
   by_cases h2:k=2
   ·rw[if_pos h2] at hfl
    obtain rfl:m= []:=List.eq_nil_of_length_eq_zero (by omega)
    simp only at hgo hret
    have htail:=fun S hg=>lD w n (.sl 3 0 []) hC s hs ⟨k,p,0,0⟩ (by simp only;omega) j k [] 1 r (by omega) (by simp only[hcn,Bool.false_eq_true,if_false]) hT1 (S:=S) (P:=P) hg (fun fr st m'=>hret fr st _ m') (Or.inr rfl)
    clear hret
    simp (disch:=first|omega|exact f6|(simp only[i6]<;>omega)) only[WA,Nat.reduceEqDiff,Nat.reduceLT,Nat.reduceAdd,↓reduceIte,reduceCtorEq,List.replicate,BH,AC.r,AC.l,AC.b,N3,hp]
    all_goals try (exfalso;omega)
    refine a6 (by rw[hC];exact hf.flat rfl rfl) ?_
    simp (disch:=first|exact f6|fail) only[WA,Nat.reduceEqDiff,Nat.reduceLT,↓reduceIte,reduceCtorEq]
    refine k9 (by rw[hC];exact hm) rfl rfl (fun _=>rfl) ?_
    simp (disch:=first|omega|exact f6|fail) only[WA,Nat.reduceEqDiff,Nat.reduceLT,↓reduceIte,reduceCtorEq,List.map_nil]
    simp only[hcn] at htail
    refine htail _ fun hn m'=>?_
    simp (disch:=first|omega|exact f6|fail) only[WA,Nat.reduceEqDiff,Nat.reduceLT,↓reduceIte,reduceCtorEq]
    exact hgo hn _
   rw[if_neg h2] at hfl
   by_cases h67:k=6∨k=7
   ·rw[if_pos h67] at hfl
    obtain ⟨a,b,rfl⟩:∃ a b,m= [a,b]:=by
     cases m with
     |nil=>simp at hl;omega
     |cons a q=>cases q with
      |nil=>simp at hl;omega
      |cons b c=>cases c with
       |nil=>exact ⟨a,b,rfl⟩
       |cons d e=>simp at hl;omega
    simp only at hgo hret
    have htail:=fun S hg=>lD w n .dead hC s hs ⟨k,p,a,b⟩ (by simp only;omega) j k [a,b] 1 r (by omega) (by simp only[hcn,Bool.false_eq_true,if_false]) hT1 (S:=S) (P:=P) hg (fun fr st m'=>hret fr st _ m') (Or.inl rfl)
    clear hret
    simp (disch:=first|omega|exact f6|(simp only[i6]<;>omega)) only[WA,Nat.reduceEqDiff,Nat.reduceLT,Nat.reduceAdd,↓reduceIte,reduceCtorEq,List.replicate,BH,AC.r,AC.l,AC.b,N3,hp]
    all_goals try (exfalso;omega)
    refine a6 (by rw[hC];exact hf.flat rfl rfl) ?_
    simp (disch:=first|exact f6|fail) only[WA,Nat.reduceEqDiff,Nat.reduceLT,↓reduceIte,reduceCtorEq]
    refine k9 (by rw[hC];exact hm) rfl rfl (fun _=>rfl) ?_
    repeat' (first|(simp (disch:=first|omega|exact f6|(simp only[i6]<;>omega)) only[WA,l6,p8,Nat.reduceEqDiff,Nat.reduceLT,Nat.reduceAdd,↓reduceIte,reduceCtorEq,List.map_cons,List.map_nil,FZ,tn1,cH9,cI0])|apply s7|((first|apply D5|apply y9|apply z6|apply D6|apply D4|apply z7)<;>intro _))
    simp only[hcn] at htail
    refine htail _ fun hn m'=>?_
    simp (disch:=first|omega|exact f6|fail) only[WA,Nat.reduceEqDiff,Nat.reduceLT,↓reduceIte,reduceCtorEq]
    exact hgo hn _
   ·rw[if_neg h67] at hfl
    obtain ⟨a,rfl⟩:∃ a,m= [a]:=by
     cases m with
     |nil=>simp at hl;omega
     |cons a q=>cases q with
      |nil=>exact ⟨a,rfl⟩
      |cons b c=>simp at hl;omega
    simp only at hgo hret
    have htail:=fun S hg=>lD w n .dead hC s hs ⟨k,p,a,0⟩ (by simp only;omega) j k [a] 1 r (by omega) (by simp only[hcn,Bool.false_eq_true,if_false]) hT1 (S:=S) (P:=P) hg (fun fr st m'=>hret fr st _ m') (Or.inl rfl)
    clear hret
    simp (disch:=first|omega|exact f6|(simp only[i6]<;>omega)) only[WA,Nat.reduceEqDiff,Nat.reduceLT,Nat.reduceAdd,↓reduceIte,reduceCtorEq,List.replicate,BH,AC.r,AC.l,AC.b,N3,hp]
    all_goals try (exfalso;omega)
    refine a6 (by rw[hC];exact hf.flat rfl rfl) ?_
    simp (disch:=first|exact f6|fail) only[WA,Nat.reduceEqDiff,Nat.reduceLT,↓reduceIte,reduceCtorEq]
    refine k9 (by rw[hC];exact hm) rfl rfl (fun _=>rfl) ?_
    simp (disch:=first|omega|exact f6|(simp only[i6]<;>omega)) only[WA,Nat.reduceEqDiff,Nat.reduceLT,↓reduceIte,reduceCtorEq,List.map_cons,List.map_nil,FZ,dl1]
    simp only[hcn] at htail
    refine htail _ fun hn m'=>?_
    simp (disch:=first|omega|exact f6|fail) only[WA,Nat.reduceEqDiff,Nat.reduceLT,↓reduceIte,reduceCtorEq]
    exact hgo hn _
theorem bV1 (s:List UInt8) (hs:s.length≤100000):k8 (EN w (n+8)) 57 [m6 s] (aW3 (V2 s)) ⟨[],0,0⟩:=by
 refine b8 rfl rfl (fun _ _=>rfl) (Nat.le_of_ble_eq_true rfl) (d7 w) (by rcases V2 s with _|⟨x,m⟩<;>rfl) fun C hC h0=>?_
 have hrn:C.E.rounds=A4:=by rw[hC,j5]
 simp (disch:=first|exact f6|fail) only[WA,Nat.reduceEqDiff,Nat.reduceLT,↓reduceIte,reduceCtorEq,List.replicate,c57]
 refine s8 (fun m fr st=>∃ k:Nat,m=11 - k∧1≤k∧k≤11∧(∀ k' p,1≤k'→k'<k→iJ k' p s=none)∧fr= [(0,m6 s),(2,.ptr 0 0),(5,.sc (.int .u8 k))]∧st=⟨[(0,cI sG)],1,0⟩) 10 ?_ ⟨_,_,.refl _ _,1,by omega,Nat.le_refl _,by omega,fun k' p h1 h2=>absurd h2 (by omega),rfl,rfl⟩ ?_
 ·rw[hrn];unfold A4;omega
 rintro m fr st ⟨k,rfl,hk1,hk,hno,rfl,rfl⟩
 by_cases hlt:k≤10
 ·have hw1:IntKind.u8.wrap ((k:Int)+1)=((k+1:Nat):Int):=by rw[uW _ (by omega) (by omega)];omega
  simp (disch:=first|omega|exact f6|fail) only[WA,Nat.reduceEqDiff,Nat.reduceLT,↓reduceIte,reduceCtorEq,aM0]
  all_goals try (exfalso;omega)
  refine s8 (fun m fr st=>∃ j:Nat,m=2 - j∧j≤2∧(0<j→iJ k false s=none)∧(1<j→iJ k true s=none)∧fr= [(0,m6 s),(2,.ptr 0 0),(5,.sc (.int .u8 k)),(20,.sc (.int .i64 j))]∧st=⟨[(0,cI sG)],1,0⟩) 2 ?_ ⟨_,_,.refl _ _,0,by omega,Nat.zero_le _,fun h=>absurd h (by omega),fun h=>absurd h (by omega),rfl,rfl⟩ ?_
  ·rw[hrn];unfold A4;omega
  rintro m fr st ⟨j,rfl,hj,hj0,hj1,rfl,rfl⟩
  by_cases hjl:j<2
  ·have hp:decide ((j:Int)=1)=decide (j=1):=decide_eq_decide.2 (by omega)
   refine VC w n hC s hs k hk1 hlt (decide (j=1)) j hjl hp (fun hn x=>?_) (fun fr st x m' hc e2 e3 e4 e5 e6=>?_)
   ·simp (disch:=fail) only[WA]
    refine ⟨2 - (j+1),_,_,by omega,p9 [(0,0)] 1 h0 rfl rfl rfl rfl,j+1,rfl,by omega,fun _=>?_,fun h1=>?_,rfl,rfl⟩
    ·rcases (by omega:j=0∨j=1) with rfl|rfl
     ·exact hn
     ·exact hj0 (by decide)
    ·obtain rfl:j=1:=by omega
     exact hn
   ·rw[TI hc]
    simp (disch:=fail) only[WA,e2,e3,e4,e5]
    exact b7 rfl h0 e6
  ·have:j=2:=by omega
   subst this
   simp (disch:=first|omega|exact f6|fail) only[WA,Nat.reduceEqDiff,Nat.reduceLT,↓reduceIte,reduceCtorEq,N3]
   all_goals try (exfalso;omega)
   rw[hw1]
   refine ⟨11 - (k+1),_,_,by omega,.refl _ _,k+1,rfl,by omega,by omega,fun k' p a b=>?_,rfl,rfl⟩
   rcases (by omega:k'<k∨k'=k) with h|rfl
   ·exact hno k' p a h
   ·cases p
    ·exact hj0 (by decide)
    ·exact hj1 (by decide)
 ·have:k=11:=by omega
  subst this
  have hr:V2 s=none:=EQ (cand:=iJ) (fun hx a b=>aM6 hx a b) fun k p h1 h2=>hno k p h1 (by omega)
  rw[hr]
  simp (disch:=first|omega|exact f6|(simp only[i6]<;>omega)) only[WA,Nat.reduceEqDiff,Nat.reduceLT,↓reduceIte,reduceCtorEq,aM0]
  all_goals try (exfalso;omega)
  exact b7 rfl h0 rfl
end
abbrev aM8 (p:List p7 × Int):V:= .tup [.sl 3 p.1.length (A5 p.1),.sc (.int .i64 p.2)]
theorem FA (nx t:Nat) (a b c d:Value):N8 nx t 4 1 [.int .u8 0,.bool false,.int .i64 0,.int .i64 0] [(0,4,.agg [.sc a,.sc b,.sc c,.sc d])]=some (.ref nx 0 1 1,some (.row t 4 false false [.sc a,.sc b,.sc c,.sc d]),[]):=(rfl)
theorem qD {H:E7} {o t n:Nat} {z:Bool} {l:List D} (h:f7 H o=some (.gro t 4 z l)) (hl:l.length=n*4):w5 H (.gr 2 o n)=some (.sl 2 n l):=by
 simp only[w5,dH,h]
 rw[if_pos ⟨hl,by decide,by decide,by decide⟩]
 rfl
theorem FK {H:E7} {v v':V} (h:w5 H v=some v'):J7 H [v]=some [v']:=by simp only[J7,h,Option.bind_some,Option.map_some]
theorem FU (A:List p7) (x:p7):A5 (A++ [x])=A5 A++ [.sc (.int .u8 x.kind),.sc (.bool x.purl),.sc (.int .i64 x.a),.sc (.int .i64 x.b)]:=by simp[A5]
theorem CB (a b:Go.Itp.Obj):∀ o ob,f7 ([(0,a),(1,b)]:E7) o=some ob→f7 ([(1,b),(0,a)]:E7) o=some ob:=by
 intro o ob
 rcases (by omega:o=0∨o=1∨2≤o) with rfl|rfl|h
 ·exact id
 ·exact id
 ·intro e
  rw[j9,if_neg (by omega),j9,if_neg (by omega)] at e
  cases e
section
variable (w:World) (n:Nat)
theorem aU0 {C:D0} (hC:C.E=EN w (n+8)) (h0:C.w0.nx=0) (s:List UInt8) (q:List (List UInt8)) (np k:Int) (acc:List p7) (x:p7) (m:Nat) (hm:acc.length+m≤200) {K:List KF} {P:B5}
  (hgo:gK C K (.exit 2) [(0,m6 s),(4,.gr 2 0 (acc++List.replicate m x).length),(7,.ptr 1 0),(16,.sl 3 q.length (q.map sD)),(17,.sc (.int .i64 np)),(18,.sc (.int .i64 k)),(37,.sc (.int .i64 m)),(38,.sc (.int .i64 m)),(39,.sc (.bool false))] ⟨[(0,.gro 89 4 false (A5 (acc++List.replicate m x))),(1,cI x)],2,0⟩ P):
  gL C [0,4,7,16,17,18,37,38] WP K [(0,m6 s),(4,.gr 2 0 acc.length),(7,.ptr 1 0),(16,.sl 3 q.length (q.map sD)),(17,.sc (.int .i64 np)),(18,.sc (.int .i64 k)),(37,.sc (.int .i64 m)),(38,.sc (.int .i64 0))] ⟨[(1,cI x),(0,.gro 89 4 false (A5 acc))],2,0⟩ P:=by
 have hrn:C.E.rounds=A4:=by rw[hC,j5]
 refine s8 (fun mm fr st=>∃ i:Nat,mm=m - i∧i≤m∧fr= [(0,m6 s),(4,.gr 2 0 (acc++List.replicate i x).length),(7,.ptr 1 0),(16,.sl 3 q.length (q.map sD)),(17,.sc (.int .i64 np)),(18,.sc (.int .i64 k)),(37,.sc (.int .i64 m)),(38,.sc (.int .i64 i))]∧st=⟨[(0,.gro 89 4 false (A5 (acc++List.replicate i x))),(1,cI x)],2,0⟩) m ?_ ⟨_,_,GW (CB _ _),0,by omega,Nat.zero_le _,by simp,by simp⟩ ?_
 ·rw[hrn];unfold A4;omega
 rintro mm fr st ⟨i,rfl,hi,rfl,rfl⟩
 by_cases hlt:i<m
 ·have hsn:=FU (acc++List.replicate i x) x
  have hl:(acc++List.replicate i x).length=acc.length+i:=by simp
  have hd:=G3 (acc++List.replicate i x)
  have hrs:acc++List.replicate (i+1) x=acc++List.replicate i x++ [x]:=by rw[List.replicate_succ'];simp
  rw[hl] at hd ⊢
  generalize acc++List.replicate i x=A at*
  generalize A5 A=AD at*
  obtain ⟨xk,xp,xa,xb⟩:=x
  simp (disch:=first|omega|exact f6|(simp only[i6]<;>omega)) only[WA,Nat.reduceEqDiff,Nat.reduceLT,Nat.reduceAdd,↓reduceIte,reduceCtorEq,WP,FA]
  all_goals try (exfalso;omega)
  refine ⟨m - (i+1),_,_,by omega,p9 [(3,0),(1,1)] 2 h0 rfl rfl rfl rfl,i+1,rfl,by omega,?_,?_⟩
  ·rw[hrs,List.length_append,hl];rfl
  ·rw[hrs,hsn];rfl
 ·have:i=m:=by omega
  subst this
  generalize A5 (acc++List.replicate i x)=AD at*
  generalize (acc++List.replicate i x).length=al at*
  simp (disch:=first|omega|exact f6|fail) only[WA,Nat.reduceEqDiff,Nat.reduceLT,↓reduceIte,reduceCtorEq,WP]
  exact hgo
theorem pK (s:List UInt8):I3 s=if 2000<s.length then (([]:List p7),(12:Int)) else if s=H6 then (([]:List p7),(0:Int)) else match iB (n5 s) [] with
  |none=>(([]:List p7),(12:Int))
  |some L=>if K3 L=0∧s9 L=s then (L,(0:Int)) else (([]:List p7),(12:Int)):=by
 unfold I3 aX
 by_cases h1:2000<s.length
 ·simp only[if_pos h1]
 simp only[if_neg h1]
 by_cases h2:s=H6
 ·simp only[if_pos h2]
 simp only[if_neg h2]
 cases iB (n5 s) [] with
 |none=>rfl
 |some L=>
  by_cases h3:K3 L=0∧s9 L=s
  ·simp only[if_pos h3]
  ·simp only[if_neg h3]
theorem aU1 (s:List UInt8) (hs:s.length≤100000):k8 (EN w (n+9)) 39 [m6 s] (aM8 (I3 s)) ⟨[],0,0⟩:=by
 have hsz:=n4 s
 rw[pK]
 by_cases h1:2000<s.length
 ·rw[if_pos h1]
  refine A2 rfl rfl (fun _ _=>rfl) (Nat.le_of_ble_eq_true rfl) (d7 w) T8 rfl fun C hC h0=>?_
  simp (disch:=first|omega|exact f6|fail) only[WA,Nat.reduceEqDiff,Nat.reduceLT,↓reduceIte,reduceCtorEq,c39,hsz]
  all_goals try (exfalso;omega)
  exact E5 h0 rfl
 rw[if_neg h1]
 have hnt:((⟨s.toArray⟩:ByteArray)=⟨#[110,111,116,104,105,110,103]⟩)=(s=H6):=X0 s H6
 by_cases h2:s=H6
 ·rw[if_pos h2]
  refine A2 rfl rfl (fun _ _=>rfl) (Nat.le_of_ble_eq_true rfl) (d7 w) T8 rfl fun C hC h0=>?_
  rw[eq_true h2] at hnt
  have hl7:s.length≤2000:=by omega
  simp (disch:=first|omega|exact f6|(simp only[i6]<;>omega)) only[WA,Nat.reduceEqDiff,Nat.reduceLT,↓reduceIte,reduceCtorEq,c39,hsz,hnt]
  all_goals try (exfalso;omega)
  exact E5 h0 rfl
 rw[if_neg h2]
 have hsp:=aY9 w (n+2) s (by omega)
 have hsl:=X8 s
 have hsm:=fY s
 have hsn:=U0 s
 generalize n5 s=q at*
 refine A2 rfl rfl (fun _ _=>rfl) (Nat.le_of_ble_eq_true rfl) (d7 w) (by
  cases iB q [] with
  |none=>exact T8
  |some L=>simp only;split<;>exact T8) rfl fun C hC h0=>?_
 have hrn:C.E.rounds=A4:=by rw[hC,j5]
 simp (disch:=first|omega|exact f6|fail) only[WA,Nat.reduceEqDiff,Nat.reduceLT,↓reduceIte,reduceCtorEq,c39,hsz,hnt,h2]
 all_goals try (exfalso;omega)
 refine k9 (by rw[hC];exact hsp) rfl rfl (fun _=>rfl) ?_
 simp (disch:=first|exact f6|fail) only[WA,Nat.reduceEqDiff,Nat.reduceLT,↓reduceIte,reduceCtorEq]
 refine s8 (fun m fr st=>∃ (k:Nat) (acc:List p7),m=q.length - k∧k≤q.length∧acc.length≤200∧(∀ x ∈ acc,D1 x)∧iB q []=iB (q.drop k) acc∧fr= [(0,m6 s),(4,.gr 2 0 acc.length),(16,.sl 3 q.length (q.map sD)),(17,.sc (.int .i64 q.length)),(18,.sc (.int .i64 k))]∧st=⟨[(0,.gro 89 4 false (A5 acc))],1,0⟩) q.length ?_ ⟨_,_,L3 4 89 4 rfl,0,[],by omega,Nat.zero_le _,Nat.zero_le _,(fun x hx=>by cases hx),rfl,rfl,rfl⟩ ?_
 ·rw[hrn];unfold A4;omega
 rintro m fr st ⟨k,acc,rfl,hk,hal,hap,hraw,rfl,rfl⟩
 by_cases hlt:k<q.length
 ·have hqk:q.drop k=q[k]! ::q.drop (k+1):=by rw[List.drop_eq_getElem_cons hlt,getElem!_pos q k hlt]
  have hpl:=hsm q[k]! (by rw[getElem!_pos q k hlt];exact List.getElem_mem hlt)
  have hrd:=bV1 w n q[k]! (by omega)
  rw[hqk,iB] at hraw
  generalize hp:q[k]! =p at*
  cases hr:V2 p with
  |none=>
   rw[hr] at hrd hraw
   rw[hraw]
   unfold aW3 at hrd
   simp (disch:=first|omega|exact f6|fail) only[WA,Nat.reduceEqDiff,Nat.reduceLT,↓reduceIte,reduceCtorEq,vR,hp]
   all_goals try (exfalso;omega)
   refine a6 (by rw[hC];exact hrd.flat rfl rfl) ?_
   simp (disch:=first|exact f6|(simp only[i6]<;>omega)) only[WA,Nat.reduceEqDiff,Nat.reduceLT,Nat.reduceAdd,↓reduceIte,reduceCtorEq,List.replicate]
   exact E5 h0 rfl
  |some xm=>
   obtain ⟨x,z⟩:=xm
   obtain ⟨hx,hz,hps⟩:=nL hr
   rw[hr] at hrd hraw
   simp only at hraw
   unfold aW3 at hrd
   obtain ⟨m,rfl⟩:=Int.eq_ofNat_of_zero_le (show 0≤z by omega)
   by_cases hgt:200<(acc.length:Int)+(m:Int)
   ·rw[if_pos hgt] at hraw
    rw[hraw]
    obtain ⟨xk,xp,xa,xb⟩:=x
    simp (disch:=first|omega|exact f6|fail) only[WA,Nat.reduceEqDiff,Nat.reduceLT,↓reduceIte,reduceCtorEq,vR,hp]
    all_goals try (exfalso;omega)
    refine a6 (by rw[hC];exact hrd.flat rfl rfl) ?_
    simp (disch:=first|omega|exact f6|(simp only[i6]<;>omega)) only[WA,Nat.reduceEqDiff,Nat.reduceLT,Nat.reduceAdd,↓reduceIte,reduceCtorEq,List.replicate]
    all_goals try (exfalso;omega)
    exact E5 h0 rfl
   ·rw[if_neg hgt,Int.toNat_natCast] at hraw
    have hin:=fun K P hg=>aU0 w n hC h0 s q q.length k acc x m (by omega) (K:=K) (P:=P) hg
    obtain ⟨xk,xp,xa,xb⟩:=x
    simp (disch:=first|omega|exact f6|fail) only[WA,Nat.reduceEqDiff,Nat.reduceLT,↓reduceIte,reduceCtorEq,vR,hp]
    all_goals try (exfalso;omega)
    refine a6 (by rw[hC];exact hrd.flat rfl rfl) ?_
    simp (disch:=first|omega|exact f6|(simp only[i6]<;>omega)) only[WA,Nat.reduceEqDiff,Nat.reduceLT,Nat.reduceAdd,↓reduceIte,reduceCtorEq,List.replicate]
    all_goals try (exfalso;omega)
    refine hin _ _ ?_
    generalize hA:acc++List.replicate m ⟨xk,xp,xa,xb⟩=A at*
    have hAl:A.length≤200:=by rw[← hA];simp;omega
    have hAp:∀ y ∈ A,D1 y:=fun y hy=>by
     rw[← hA] at hy
     rcases List.mem_append.1 hy with hy|hy
     ·exact hap y hy
     ·rw[List.eq_of_mem_replicate hy];exact hx
    simp (disch:=first|omega|exact f6|fail) only[WA,Nat.reduceEqDiff,Nat.reduceLT,↓reduceIte,reduceCtorEq]
    exact ⟨q.length - (k+1),_,_,by omega,p9 [(0,0)] 1 h0 rfl rfl rfl rfl,k+1,A,rfl,by omega,hAl,hAp,hraw,rfl,rfl⟩
 ·have:k=q.length:=by omega
  subst this
  rw[List.drop_length,iB] at hraw
  rw[hraw]
  simp only
  have hd:=G3 acc
  have ha:=JR w (n+2) 2 acc (by omega) fun y hy=>by have:=(hap y hy).bounds;omega
  have hwr:=fun hok=>aB7 w (n+4) 2 acc hal hok
  have hok0:=fun h:K3 acc=0=>(Y2 h).2.1
  have h1:∀ st:l9,f7 st.own 0=some (.gro 89 4 false (A5 acc))→J7 st.own [.gr 2 0 acc.length]=some [.sl 2 acc.length (A5 acc)]:=fun st h=>FK (qD h hd)
  have hfin:w5 ([(0,.gro 89 4 false (A5 acc))]:E7) (.gr 2 0 acc.length)=some (.sl 2 acc.length (A5 acc)):=qD rfl hd
  by_cases h3:K3 acc=0
  ·have hwr:=hwr (hok0 h3)
   rw[h3] at ha
   have hmj:((⟨(s9 acc).toArray⟩:ByteArray)=⟨s.toArray⟩)=(s9 acc=s):=X0 _ _
   by_cases h4:s9 acc=s
   ·rw[if_pos ⟨h3,h4⟩]
    rw[h4] at hwr
    simp (disch:=first|omega|exact f6|fail) only[WA,Nat.reduceEqDiff,Nat.reduceLT,↓reduceIte,reduceCtorEq,vR]
    all_goals try (exfalso;omega)
    refine a6 (by rw[hC];exact ha.flat rfl (h1 _ rfl)) ?_
    simp (disch:=first|exact f6|fail) only[WA,Nat.reduceEqDiff,Nat.reduceLT,↓reduceIte,reduceCtorEq]
    refine a6 (by rw[hC];exact hwr.flat rfl (h1 _ rfl)) ?_
    simp (disch:=first|exact f6|fail) only[WA,Nat.reduceEqDiff,Nat.reduceLT,↓reduceIte,reduceCtorEq]
    exact SI (s:=2) (n:=acc.length) (l:=A5 acc) hfin rfl (.inl (by decide)) h0 rfl
   ·rw[if_neg fun h=>h4 h.2]
    rw[eq_false h4] at hmj
    generalize s9 acc=W at*
    simp (disch:=first|omega|exact f6|fail) only[WA,Nat.reduceEqDiff,Nat.reduceLT,↓reduceIte,reduceCtorEq,vR]
    all_goals try (exfalso;omega)
    refine a6 (by rw[hC];exact ha.flat rfl (h1 _ rfl)) ?_
    simp (disch:=first|exact f6|fail) only[WA,Nat.reduceEqDiff,Nat.reduceLT,↓reduceIte,reduceCtorEq]
    refine a6 (by rw[hC];exact hwr.flat rfl (h1 _ rfl)) ?_
    simp (disch:=first|exact f6|(simp only[i6]<;>omega)) only[WA,Nat.reduceEqDiff,Nat.reduceLT,↓reduceIte,reduceCtorEq,hmj]
    exact E5 h0 rfl
  ·rw[if_neg fun h=>h3 h.1]
   generalize K3 acc=e at*
   simp (disch:=first|omega|exact f6|fail) only[WA,Nat.reduceEqDiff,Nat.reduceLT,↓reduceIte,reduceCtorEq,vR]
   all_goals try (exfalso;omega)
   refine a6 (by rw[hC];exact ha.flat rfl (h1 _ rfl)) ?_
   simp (disch:=first|omega|exact f6|fail) only[WA,Nat.reduceEqDiff,Nat.reduceLT,↓reduceIte,reduceCtorEq]
   all_goals try (exfalso;omega)
   exact E5 h0 rfl
end
end Go.Proofs.YtimmmnanllcfoaaGreatDoor
