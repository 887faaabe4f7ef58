/- What is proved: the law KnitlogAsks returns true for every input.
   Texts: C44VA, S44D, H44V, P41a, P41b, P41c, P41d, P41e, N44a, N44b, N44c, N44d, K33a, K33b, K33c, K33d, K33e, K33f, K33g, K33h, K33i, K33j, K33k, K33m, K33l, K33n, K33r, E44a, K33o, K33s, K33t, K33p, K33q, K33u.
-/
import Derived.Test.YtgohenjcanfolaaGreatDoorPart4
import Derived.Test.YtgohenjcanfolaaGreatDoorProg
import Derived.Shelf.Strings.Builder1
import Derived.Shelf.Strings.Builder2
import Derived.Shelf.Strings.OnBuilder
import Derived.Shelf.Strconv.Atoi
import Derived.Shelf.Strconv.Itoa0
import Derived.Shelf.Strconv.Itoa1
import Derived.Shelf.LaysM
import Derived.Shelf.Strconv.Itoa2
import Derived.Shelf.Strconv.Itoa3
import Derived.Shelf.Strconv.AtoiErrFast
import Derived.Shelf.Strconv.ParseIntEmpty
import Derived.Shelf.Strconv.AtoiFail
import Derived.Shelf.Strconv.Clone
import Derived.Shelf.Strconv.SyntaxError
import Derived.Shelf.LaysC
import Derived.Shelf.Strconv.ToError
import Derived.Shelf.Strconv.Lower
import Derived.Shelf.Strconv.ParseUint10
import Derived.Shelf.Strconv.ParseUint10Empty
import Derived.Shelf.Strconv.ParseUint10Any
import Derived.Shelf.Strconv.ParseInt10
import Derived.Shelf.Strconv.AtoiLong
import Derived.Shelf.Strconv.AtoiInnerAll
import Derived.Shelf.Strconv.RangeError
import Derived.Shelf.Strconv.ToErrorRange
import Derived.Shelf.Strconv.AtoiAll
import Derived.Shelf.Strconv.ErrVarAll
import Derived.Shelf.Strings.Search1
import Derived.Shelf.Strings.Search2
import Derived.Shelf.Strings.Search3
import Derived.Shelf.Strings.Cut
import Derived.Shelf.Strings.Count
import Derived.Shelf.Strings.Shaped
import Derived.KernelRfl
import Derived.Lib.Join
import Derived.Lib.Bytealg
import Derived.Lib.AtoiAllCases
namespace Go.Proofs.YtgohenjcanfolaaGreatDoor
open Go Go.Itp
set_option maxRecDepth 100000
set_option linter.unusedSimpArgs false
def c3:p8:=⟨zS [z9z 4 24 0,f8 8 (.mov zf)] [1,2,3,4] (.seq (zS [z1z 23 2 4,I2 24 9 23,d8 25 24,z8z 26 25 2,D5 27 25 (.callF 10 [.tmp 26]),z3z 28 25 27,d8 29 28,z8z 30 29 3,D5 31 29 (.len true (zT 30)),D5 32 29 (.bin .gtr (zT 31) (q9 3000)),z3z 33 29 32] [1,2,3,4,33] (zC 33 (zS [f8 8 (.mov zt)] [8] .ret) .skip)) (zS [z1z 35 2 4,d8 36 1,f8 37 (.callF 11 [(zT 35),(zT 36)]),d8 34 37,H3 38 34 0,H3 39 34 1,H3 40 34 2,d8 9 38,d8 10 39,d8 11 40] [1,2,3,4,9,10,11] (zS [z1z 42 2 4,d8 43 1,f8 44 (.callF 12 [(zT 42),(zT 43)]),d8 41 44,H3 45 41 0,H3 46 41 1,H3 47 41 2,d8 12 45,d8 13 46,d8 14 47] [2,3,9,10,11,12,13,14] (zS [d8 49 2,I2 50 13 49,d8 48 50,H3 51 48 0,H3 52 48 1,d8 15 51,d8 16 52] [2,3,9,10,11,12,13,14,15,16] (zS [d8 54 2,I2 55 14 54,d8 53 55,H3 56 53 0,H3 57 53 1,d8 17 56,d8 18 57] [3,9,10,11,12,13,14,15,16,17,18] (zS [d8 59 3,I2 60 15 59,d8 58 60,H3 61 58 0,H3 62 58 1,d8 19 61,d8 20 62] [3,9,10,11,12,13,14,15,16,17,18,19,20] (zS [d8 64 3,I2 65 16 64,d8 63 65,H3 66 63 0,H3 67 63 1,d8 21 66,d8 22 67] [9,10,11,12,13,14,15,16,17,18,19,20,21,22] (zS [d8 68 9,d8 69 12,p6 70 68 .eql (zT 69),d8 71 70,z7z 72 71 10,z7z 73 71 13,v6 74 71 (.bin .eql (zT 72) (zT 73)),z2z 75 71 74,d8 76 75,z7z 77 76 11,z7z 78 76 14,v6 79 76 (.bin .eql (zT 77) (zT 78)),z2z 80 76 79,d8 81 80,z7z 82 81 15,z7z 83 81 17,v6 84 81 (.bin .eql (zT 82) (zT 83)),z2z 85 81 84,d8 86 85,z7z 87 86 16,z7z 88 86 18,v6 89 86 (.bin .eql (zT 87) (zT 88)),
  z2z 90 86 89,d8 91 90,z7z 92 91 19,z7z 93 91 21,v6 94 91 (.callF 17 [(zT 92),(zT 93)]),z2z 95 91 94,d8 96 95,z7z 97 96 20,z7z 98 96 22,v6 99 96 (.bin .eql (zT 97) (zT 98)),z2z 100 96 99,d8 8 100] [8] .ret)))))))),101,[(8,none)],true⟩
def bE0:AC:= .seq (zS [d8 4 3,s8 5 1 1,x7 6 5,z6z 7 6,p6 8 4 .lss (zT 7),d8 9 8,z7z 10 9 3,v6 11 9 (.bin .lss (zT 10) (q9 150)),z2z 12 9 11] [1,3,12] (zC 12 .skip (.exit 0))) (.seq (.block 1 (zS [s8 15 1 1,x7 16 15,d8 17 3,z4z 18 2 16 17,s8 19 1 18,x7 20 19,I2 21 38 20] [1,3,21] (zC 21 (zS [f8 2 (.mov zt)] [2] .ret) .skip))) (.ops [d8 13 3,p6 14 13 .add (q9 1),d8 3 14] [1,3]))
def c9:p8:=⟨zS [z9z 1 24 0,f8 2 (.mov zf)] [1] (.seq (zS [z7 3 0] [1,3] (.block 0 (.loop [1,3] bE0))) (zS [s8 22 1 1,x7 23 22,z6z 24 23,p6 25 24 .gtr (q9 12),d8 26 25,y1z 27 26 1 1,y0z 28 26 27,v6 29 26 (.len false (zT 28)),v6 30 26 (.bin .leq (zT 29) (q9 100)),z2z 31 26 30,d8 32 31,D5 33 32 (.fldA 1 (zT 1)),D5 34 32 (.load none (zT 33)),D5 35 32 (.len false (zT 34)),D5 36 32 (.bin .gtr (zT 35) (q9 150)),z3z 37 32 36,d8 2 37] [2] .ret)),38,[(2,none)],true⟩
def c10:p8:=⟨zS [f8 2 (.mov zf)] [0] (zS [d8 3 0,z6z 4 3,p6 5 4 .gtr (q9 200),d8 6 5,z7z 7 6 0,v6 8 6 (.len false (zT 7)),v6 9 6 (.bin .leq (zT 8) (q9 2000)),z2z 10 6 9,d8 11 10,z8z 12 11 0,D5 13 11 (.len false (zT 12)),D5 14 11 (.bin .gtr (zT 13) (q9 2100)),z3z 15 11 14,d8 2 15] [2] .ret),16,[(2,none)],true⟩
def aE3:AC:= zS [p6 34 33 .lss (zT 32)] [1,2,4,7,32,33,34] (.seq (zC 34 .skip (.exit 0)) (.seq (.block 1 (zS [z1z 36 2 2,d8 37 4,p6 38 37 .add (q9 1),f8 39 (.callF 39 [(zT 36),(q9 0),(zT 38)]),d8 35 39,H3 40 35 0,H3 41 35 1,f8 8 (.alloc 24 [(1,(.int .i64 0)),(1,(.slice none 0 0))]),⟨none,none,.store 2 (zT 8) (zT 40)⟩,d8 9 41] [1,2,4,7,8,32,33] (zS [z1z 43 2 8,I2 44 30 43,d8 42 44,H3 45 42 0,H3 46 42 1,d8 10 45,d8 11 46] [1,2,4,7,10,32,33] (.seq (zS [d8 47 1,d8 48 10,z6z 49 48,p6 50 47 .lss (zT 49)] [1,2,4,7,32,33,50] (zC 50 (.exit 0) .skip)) (.ops [d8 51 4,p6 52 51 .add (q9 1),d8 4 52] [1,2,4,7,32,33]))))) (.ops [p6 53 33 .add (q9 1),d8 33 53] [1,2,4,7,32,33])))
def c11:p8:=⟨zS [z9z 2 24 0,z7 4 0,z7 5 0,z7 6 0] [1,2] (zS [z1z 13 2 2,I2 14 30 13,d8 12 14,H3 15 12 0,H3 16 12 1,d8 7 15,d8 6 16] [1,2,6,7] (.seq (zS [d8 17 6,p6 18 17 .neq (q9 0)] [1,2,6,7,18] (zC 18 (zS [d8 19 6,z7 4 0,z7 5 0,d8 6 19] [4,5,6] .ret) .skip)) (.seq (zS [d8 20 1,p6 21 20 .lss (q9 0),d8 22 21,z8z 23 22 1,z8z 24 22 7,D5 25 22 (.len false (zT 24)),D5 26 22 (.bin .geq (zT 23) (zT 25)),z3z 27 22 26] [1,2,7,27] (zC 27 (zS [z7 4 0,z7 5 0,z7 6 2] [4,5,6] .ret) .skip)) (.seq (zS [d8 28 1,p6 29 28 .eql (q9 0)] [1,2,7,29] (zC 29 (zS [f8 4 (.mov (q9 (-1))),f8 5 (.mov (q9 (-1))),z7 6 0] [4,5,6] .ret) .skip)) (zS [f8 4 (.mov (q9 (-1)))] [1,2,4,7] (.seq (zS [s8 30 1 2,x7 31 30,z6z 32 31,z7 33 0] [1,2,4,7,32,33] (.block 0 (.loop [1,2,4,7,32,33] aE3))) (.seq (.draw [d8 54 4,d8 55 7,d8 56 1,z4z 57 7 55 56,s8 58 3 57,x7 59 58,d8 4 54] [d8 5 59,z7 6 0] [[],[],[],[],[],[],[]] [4,5,6]) .ret))))))),60,[(4,none),(5,none),(6,none)],true⟩
def bD1:AC:= .seq (zS [d8 30 9,s8 31 1 2,x7 32 31,z6z 33 32,p6 34 30 .leq (zT 33)] [1,2,7,9,34] (zC 34 .skip (.exit 0))) (.seq (.block 1 (.seq (.draw [s8 38 0 2,x7 39 38,s8 40 1 2,x7 41 40,d8 42 9,f8 43 (.slc 2 (zT 41) none (some (zT 42)) none),f8 44 (.build [(.int .i64 0),(.slice none 0 0)] [(0,1,(zT 39)),(1,1,(zT 43))]),I2 45 40 44,d8 37 45,H3 46 37 0,H3 47 37 1,d8 10 46] [d8 11 47] [[],[],[],[],[],[],[],[],[],[],[],[]] [1,2,7,9,10]) (zS [d8 48 1,d8 49 10,z6z 50 49,p6 51 48 .lss (zT 50)] [1,2,7,9,51] (zC 51 (.seq (.draw [d8 52 9,p6 53 52 .sub (q9 1),d8 54 7,d8 55 1,z4z 56 7 54 55,s8 57 3 56,x7 58 57,d8 4 53] [d8 5 58,z7 6 0] [[],[],[],[],[],[],[],[]] [4,5,6]) .ret) .skip)))) (.ops [d8 35 9,p6 36 35 .add (q9 1),d8 9 36] [1,2,7,9]))
def c12:p8:=⟨zS [z9z 2 24 0,z7 4 0,z7 5 0,z7 6 0] [1,2] (zS [z1z 13 2 2,I2 14 40 13,d8 12 14,H3 15 12 0,H3 16 12 1,d8 7 15,d8 8 16] [1,2,7,8] (.seq (zS [d8 17 8,p6 18 17 .neq (q9 0)] [1,2,7,8,18] (zC 18 (zS [d8 19 8,z7 4 0,z7 5 0,d8 6 19] [4,5,6] .ret) .skip)) (.seq (zS [d8 20 1,p6 21 20 .lss (q9 0),d8 22 21,z8z 23 22 1,z8z 24 22 7,D5 25 22 (.len false (zT 24)),D5 26 22 (.bin .geq (zT 23) (zT 25)),z3z 27 22 26] [1,2,7,27] (zC 27 (zS [z7 4 0,z7 5 0,z7 6 2] [4,5,6] .ret) .skip)) (.seq (zS [d8 28 1,p6 29 28 .eql (q9 0)] [1,2,7,29] (zC 29 (zS [f8 4 (.mov (q9 (-1))),f8 5 (.mov (q9 (-1))),z7 6 0] [4,5,6] .ret) .skip)) (.seq (zS [z7 9 0] [1,2,7,9] (.block 0 (.loop [1,2,7,9] bD1))) (zS [z7 4 0,z7 5 0,z7 6 2] [4,5,6] .ret)))))),59,[(4,none),(5,none),(6,none)],true⟩
def QA:AC:= zS [p6 17 16 .lss (zT 15)] [5,14,15,16,17] (.seq (zC 17 .skip (.exit 0)) (.seq (.block 1 (zS [z4z 18 9 14 16,z1z 19 9 18,f8 7 (.alloc 56 [(2,(.int .u8 0)),(1,(.bool false)),(1,(.int .u8 0)),(5,(.int .i64 0))]),⟨none,none,.store 9 (zT 7) (zT 19)⟩] [5,7,14,15,16] (.seq (.draw [s8 20 0 7,x7 21 20,I2 22 41 21,s8 23 8 7,x7 24 23] [I2 25 42 24,p6 26 22 .add (zT 25),d8 8 26] [[],[],[],[false,false,false],[true,false,false,false]] [5,7,8,14,15,16]) (.seq (zS [s8 27 0 7,x7 28 27,p6 29 28 .eql (E8 1)] [5,7,8,14,15,16,29] (zC 29 (.ops [s8 31 1 7,z1z 32 7 31,I2 33 43 32,d8 30 33,H3 34 30 0,H3 35 30 1,d8 8 34] [5,8,14,15,16]) .skip)) (.ops [d8 36 8,f8 37 (.bin .add (zT 36) (.const (.string ⟨#[10]⟩))),f8 38 (.callF 44 [(zT 5),(zT 37)])] [5,14,15,16]))))) (.ops [p6 39 16 .add (q9 1),d8 16 39] [5,14,15,16])))
def c13:p8:=⟨zS [f8 2 (.mov (.const (.string ⟨#[]⟩))),z7 3 0] [0] (.seq (zS [d8 9 0,I2 10 35 9,d8 4 10] [0,4] (zS [d8 11 4,p6 12 11 .neq (q9 0)] [0,4,12] (zC 12 (zS [d8 13 4,f8 2 (.mov (.const (.string ⟨#[]⟩))),d8 3 13] [2,3] .ret) .skip))) (zS [f8 5 (.alloc 99 [(1,(.pointer none)),(1,(.slice none 0 0))])] [0,5] (.seq (zS [d8 14 0,z6z 15 14,z7 16 0] [5,14,15,16] (.block 0 (.loop [5,14,15,16] QA))) (.seq (zS [I2 40 45 5,p6 41 40 .gtr (q9 40000)] [5,41] (zC 41 (zS [f8 2 (.mov (.const (.string ⟨#[]⟩))),z7 3 4] [2,3] .ret) .skip)) (zS [I2 42 46 5,d8 2 42,z7 3 0] [2,3] .ret))))),43,[(2,none),(3,none)],true⟩
def aE4:AC:= .seq (zS [d8 11 5,d8 12 0,z6z 13 12,p6 14 11 .lss (zT 13)] [0,4,5,14] (zC 14 .skip (.exit 0))) (.seq (.block 1 (.ops [d8 17 4,d8 18 0,d8 19 5,z4z 20 9 18 19,z1z 21 9 20,I2 22 47 21,p6 23 17 .add (zT 22),f8 24 (.bin .add (zT 23) (.const (.string ⟨#[10]⟩))),d8 4 24] [0,4,5])) (.ops [d8 15 5,p6 16 15 .add (q9 1),d8 5 16] [0,4,5]))
def c14:p8:=⟨zS [f8 2 (.mov (.const (.string ⟨#[]⟩))),z7 3 0] [0] (.seq (zS [d8 6 0,I2 7 21 6,p6 8 7 .neq (q9 0)] [0,8] (zC 8 (zS [d8 9 0,I2 10 21 9,f8 2 (.mov (.const (.string ⟨#[]⟩))),d8 3 10] [2,3] .ret) .skip)) (zS [f8 4 (.mov (.const (.string ⟨#[]⟩)))] [0,4] (.seq (zS [z7 5 0] [0,4,5] (.block 0 (.loop [0,4,5] aE4))) (.seq (zS [d8 25 4,y3z 26 25,p6 27 26 .gtr (q9 40000)] [4,27] (zC 27 (zS [f8 2 (.mov (.const (.string ⟨#[]⟩))),z7 3 4] [2,3] .ret) .skip)) (zS [d8 28 4,d8 2 28,z7 3 0] [2,3] .ret))))),29,[(2,none),(3,none)],true⟩
def QB:AC:= .seq (zS [d8 18 0,f8 19 (.bin .neq (zT 18) (.const (.string ⟨#[]⟩)))] [0,4,19] (zC 19 .skip (.exit 0))) (.block 1 (zS [d8 21 0,f8 22 (.callF 49 [(zT 21),(.const (.string ⟨#[10]⟩))]),d8 20 22,H3 23 20 0,H3 24 20 1,H3 25 20 2,d8 5 23,d8 6 24,d8 7 25] [4,5,6,7] (zS [d8 27 5,I2 28 50 27,d8 26 28,H3 29 26 0,H3 30 26 1,f8 8 (.alloc 56 [(2,(.int .u8 0)),(1,(.bool false)),(1,(.int .u8 0)),(5,(.int .i64 0))]),⟨none,none,.store 9 (zT 8) (zT 29)⟩,d8 9 30] [4,6,7,8,9] (.seq (zS [d8 31 7,f8 32 (.un .not (zT 31)),d8 33 32,z8z 34 33 9,D5 35 33 (.un .not (zT 34)),z3z 36 33 35] [4,6,8,36] (zC 36 (zS [z5z 2,z7 3 12] [2,3] .ret) .skip)) (.ops [d8 37 4,z1z 38 9 8,f8 39 (.mkRow 56 9 1 [(.int .u8 0),(.int .u8 0),(.bool false),(.int .u8 0),(.int .i64 0),(.int .i64 0),(.int .i64 0),(.int .i64 0),(.int .i64 0)] [(0,9,(zT 38))]),y2z 40 56 9 56 37 39,d8 41 6,d8 4 40,d8 0 41] [0,4])))))
def c15:p8:=⟨zS [z5z 2,z7 3 0] [0] (.seq (zS [d8 10 0,y3z 11 10,p6 12 11 .gtr (q9 40000),d8 13 12,z8z 14 13 0,D5 15 13 (.callF 48 [(zT 14),(.const (.string ⟨#[10]⟩))]),D5 16 13 (.bin .gtr (zT 15) (q9 2000)),z3z 17 13 16] [0,17] (zC 17 (zS [z5z 2,z7 3 4] [2,3] .ret) .skip)) (zS [z5z 4] [0,4] (.seq (.block 0 (.loop [0,4] QB)) (zS [d8 42 4,d8 2 42,z7 3 0] [2,3] .ret)))),43,[(2,none),(3,none)],true⟩
def aE5:AC:= .seq (zS [d8 27 6,p6 28 27 .add (q9 1),d8 29 4,z6z 30 29,p6 31 28 .lss (zT 30)] [4,5,6,31] (zC 31 .skip (.exit 0))) (.seq (.block 1 (zS [d8 35 4,d8 36 6,z4z 37 1 35 36,x7 38 37,I2 39 52 38,d8 34 39,H3 40 34 0,H3 41 34 1,f8 7 (.alloc 56 [(2,(.int .u8 0)),(1,(.bool false)),(1,(.int .u8 0)),(5,(.int .i64 0))]),⟨none,none,.store 9 (zT 7) (zT 40)⟩,d8 8 41] [4,5,6,7,8] (.seq (zS [d8 42 8,f8 43 (.un .not (zT 42))] [4,5,6,7,43] (zC 43 (zS [z5z 2,z7 3 12] [2,3] .ret) .skip)) (.ops [d8 44 5,z1z 45 9 7,f8 46 (.mkRow 56 9 1 [(.int .u8 0),(.int .u8 0),(.bool false),(.int .u8 0),(.int .i64 0),(.int .i64 0),(.int .i64 0),(.int .i64 0),(.int .i64 0)] [(0,9,(zT 45))]),y2z 47 56 9 56 44 46,d8 5 47] [4,5,6])))) (.ops [d8 32 6,p6 33 32 .add (q9 1),d8 6 33] [4,5,6]))
def c16:p8:=⟨zS [z5z 2,z7 3 0] [0] (zS [d8 9 0,f8 10 (.callF 51 [(zT 9),(E8 10)]),d8 4 10] [0,4] (.seq (zS [d8 11 0,y3z 12 11,p6 13 12 .gtr (q9 40000),d8 14 13,z8z 15 14 4,D5 16 14 (.len false (zT 15)),D5 17 14 (.bin .sub (zT 16) (q9 1)),D5 18 14 (.bin .gtr (zT 17) (q9 2000)),z3z 19 14 18] [4,19] (zC 19 (zS [z5z 2,z7 3 4] [2,3] .ret) .skip)) (.seq (zS [d8 20 4,d8 21 4,z6z 22 21,p6 23 22 .sub (q9 1),z4z 24 1 20 23,x7 25 24,f8 26 (.bin .neq (zT 25) (.const (.string ⟨#[]⟩)))] [4,26] (zC 26 (zS [z5z 2,z7 3 12] [2,3] .ret) .skip)) (zS [z5z 5] [4,5] (.seq (zS [z7 6 0] [4,5,6] (.block 0 (.loop [4,5,6] aE5))) (zS [d8 48 5,d8 2 48,z7 3 0] [2,3] .ret)))))),49,[(2,none),(3,none)],true⟩
def bD3:AC:= .seq (zS [d8 11 5,d8 12 0,z6z 13 12,p6 14 11 .lss (zT 13)] [0,1,5,14] (zC 14 .skip (.exit 0))) (.seq (.block 1 (.seq (.draw [d8 17 0,d8 18 5,z4z 19 9 17 18,z1z 20 9 19,d8 21 1,d8 22 5,z4z 23 9 21 22,z1z 24 9 23] [f8 25 (.eqAgg true [(0,0),(1,0),(2,2),(3,0),(4,0),(5,0),(6,0),(7,0),(8,0)] (zT 20) (zT 24))] [[],[],[],[],[],[],[],[]] [0,1,5,25]) (zC 25 (zS [f8 4 (.mov zf)] [4] .ret) .skip))) (.ops [d8 15 5,p6 16 15 .add (q9 1),d8 5 16] [0,1,5]))
def c17:p8:=⟨zS [f8 4 (.mov zf)] [0,1] (.seq (zS [d8 6 0,z6z 7 6,d8 8 1,z6z 9 8,p6 10 7 .neq (zT 9)] [0,1,10] (zC 10 (zS [f8 4 (.mov zf)] [4] .ret) .skip)) (.seq (zS [z7 5 0] [0,1,5] (.block 0 (.loop [0,1,5] bD3))) (zS [f8 4 (.mov zt)] [4] .ret))),26,[(4,none)],true⟩
def aE6:AC:= .seq (zS [d8 7 3,d8 8 0,z6z 9 8,p6 10 7 .lss (zT 9)] [0,3,10] (zC 10 .skip (.exit 0))) (.seq (.block 1 (zS [d8 13 0,d8 14 3,z4z 15 9 13 14,z1z 16 9 15,I2 17 57 16,f8 18 (.un .not (zT 17))] [0,3,18] (zC 18 (zS [z7 2 8] [2] .ret) .skip))) (.ops [d8 11 3,p6 12 11 .add (q9 1),d8 3 12] [0,3]))
def c21:p8:=⟨zS [z7 2 0] [0] (.seq (zS [d8 4 0,z6z 5 4,p6 6 5 .gtr (q9 2000)] [0,6] (zC 6 (zS [z7 2 4] [2] .ret) .skip)) (.seq (zS [z7 3 0] [0,3] (.block 0 (.loop [0,3] aE6))) (zS [z7 2 0] [2] .ret))),19,[(2,none)],true⟩
def EP:p8:=⟨zS [z9z 1 54 0,z7 2 0] [1] (zS [s8 5 0 1,x7 6 5,f8 7 (.build [(.int .u8 0),(.bool false),(.int .u8 0),(.int .i64 0),(.int .i64 0),(.int .i64 0),(.int .i64 0)] [(0,1,(zT 6))]),f8 3 (.alloc 54 [(1,(.int .u8 0)),(1,(.bool false)),(1,(.int .u8 0)),(4,(.int .i64 0))]),⟨none,none,.store 7 (zT 3) (zT 7)⟩] [1,3] (zS [f8 4 (.mov zt)] [1,3,4] (.seq (zS [s8 8 0 1,x7 9 8] [1,3,4,9] (.block 0 (.seq (zS [p6 11 9 .eql (E8 1),d8 10 11] [1,3,4,9,10] (zC 10 .skip (.ops [p6 12 9 .eql (E8 2),d8 10 12] [1,3,4,9,10]))) (zC 10 (zS [s8 13 5 1,x7 14 13,s8 15 5 3,⟨none,none,.store 1 (zT 15) (zT 14)⟩] [1,3] (.ops [s8 16 5 1,x7 17 16,I2 18 55 17,d8 4 18] [1,3,4])) (.seq (zS [p6 20 9 .eql (E8 3),d8 19 20] [1,3,4,9,19] (zC 19 .skip (zS [p6 21 9 .eql (E8 4),d8 19 21] [1,3,4,9,19] (zC 19 .skip (.ops [p6 22 9 .eql (E8 5),d8 19 22] [1,3,4,9,19]))))) (zC 19 (.seq (.drawW [⟨s8 23 1 1,[],none⟩,⟨x7 24 23,[],none⟩,⟨s8 25 2 1,[0,1],none⟩,⟨x7 26 25,[0,1],none⟩,⟨s8 27 3 1,[0,1,2,3],none⟩,⟨x7 28 27,[0,1,2,3],none⟩,⟨s8 29 5 1,[0,1,2,3,4,5],none⟩,⟨x7 30 29,[0,1,2,3,4,5],none⟩,⟨s8 31 1 3,[2,3,4,5,6,7],none⟩,⟨⟨none,none,.store 1 (zT 31) (zT 24)⟩,[2,3,4,5,6,7],none⟩,⟨s8 32 2 3,[4,5,6,7],none⟩,⟨⟨none,none,.store 1 (zT 32) (zT 26)⟩,[4,5,6,7],none⟩,⟨s8 33 3 3,[6,7],none⟩,⟨⟨none,none,.store 1 (zT 33) (zT 28)⟩,[6,7],none⟩] [s8 34 5 3,⟨none,none,.store 1 (zT 34) (zT 30)⟩] [1,3]) (.ops [s8 35 5 1,x7 36 35,I2 37 55 36,d8 4 37] [1,3,4])) (zS [p6 39 9 .eql (E8 6),d8 38 39] [1,3,4,9,38] (zC 38 (zS [z1z 40 7 1,⟨none,none,.store 7 (zT 3) (zT 40)⟩] [1,3] (zS [s8 41 6 3,⟨none,none,.store 1 (zT 41) (q9 0)⟩] [1,3] (.ops [s8 42 5 1,x7 43 42,I2 44 55 43,d8 4 44] [1,3,4]))) (zS [p6 46 9 .eql (E8 7),d8 45 46] [1,3,4,9,45] (zC 45 (.drawW [⟨s8 47 2 1,[],none⟩,⟨x7 48 47,[],none⟩,⟨s8 49 3 1,[0,1],none⟩,⟨x7 50 49,[0,1],none⟩,
  ⟨s8 51 4 1,[0,1,2,3],none⟩,⟨x7 52 51,[0,1,2,3],none⟩,⟨s8 53 2 3,[2,3,4,5],none⟩,⟨⟨none,none,.store 1 (zT 53) (zT 48)⟩,[2,3,4,5],none⟩,⟨s8 54 3 3,[4,5],none⟩,⟨⟨none,none,.store 1 (zT 54) (zT 50)⟩,[4,5],none⟩] [s8 55 4 3,⟨none,none,.store 1 (zT 55) (zT 52)⟩] [1,3,4]) (zS [p6 57 9 .eql (E8 8),d8 56 57] [1,3,4,9,56] (zC 56 (zS [s8 58 6 1,x7 59 58,s8 60 6 3,⟨none,none,.store 1 (zT 60) (zT 59)⟩] [1,3] (.ops [s8 61 6 1,x7 62 61,f8 63 (.bin .geq (zT 62) (q9 (-8))),d8 64 63,y1z 65 64 6 1,y0z 66 64 65,v6 67 64 (.bin .leq (zT 66) (q9 8)),z2z 68 64 67,d8 4 68] [1,3,4])) (zS [p6 70 9 .eql (E8 9),d8 69 70] [1,3,4,69] (zC 69 (.drawW [⟨s8 71 2 1,[],none⟩,⟨x7 72 71,[],none⟩,⟨s8 73 3 1,[0,1],none⟩,⟨x7 74 73,[0,1],none⟩,⟨s8 75 2 3,[2,3],none⟩,⟨⟨none,none,.store 1 (zT 75) (zT 72)⟩,[2,3],none⟩] [s8 76 3 3,⟨none,none,.store 1 (zT 76) (zT 74)⟩] [1,3,4]) (zS [z7 2 8] [2] .ret))))))))))))))) (.seq (zS [d8 77 4,f8 78 (.un .not (zT 77)),d8 79 78,D5 80 79 (.load (some 7) (zT 3)),D5 81 79 (.load (some 7) (zT 1)),D5 82 79 (.eqAgg true [(0,0),(1,2),(2,0),(3,0),(4,0),(5,0),(6,0)] (zT 80) (zT 81)),z3z 83 79 82,d8 84 83,D5 85 84 (.fldA 2 (zT 1)),D5 86 84 (.load none (zT 85)),D5 87 84 (.bin .gtr (zT 86) (E8 1)),z3z 88 84 87,d8 89 88,D5 90 89 (.fldA 3 (zT 1)),D5 91 89 (.load none (zT 90)),D5 92 89 (.callF 54 [.tmp 91]),D5 93 89 (.un .not (zT 92)),z3z 94 89 93,d8 95 94,D5 96 95 (.fldA 4 (zT 1)),D5 97 95 (.load none (zT 96)),D5 98 95 (.callF 54 [.tmp 97]),D5 99 95 (.un .not (zT 98)),z3z 100 95 99] [100] (zC 100 (zS [z7 2 8] [2] .ret) .skip)) (zS [z7 2 0] [2] .ret))))),101,[(2,none)],true⟩
def bC:AC:= zS [p6 55 54 .lss (zT 53)] [1,5,7,8,11,42,43,52,53,54,55] (.seq (zC 55 .skip (.exit 4)) (.seq (.block 5 (zS [d8 56 54,z4z 57 4 52 54,z1z 58 4 57,f8 13 (.alloc 82 [(1,(.int .u8 0)),(1,(.bool false)),(2,(.int .i64 0))]),d8 12 56,⟨none,none,.store 4 (zT 13) (zT 58)⟩] [1,5,7,8,11,12,13,42,43,52,53,54] (zS [f8 14 (.mov (E8 0))] [1,5,7,8,11,12,13,14,42,43,52,53,54] (.seq (zS [s8 59 1 13,x7 60 59] [1,5,7,8,11,12,13,14,42,43,52,53,54,60] (zC 60 (.ops [f8 14 (.mov (E8 1))] [1,5,7,8,11,12,13,14,42,43,52,53,54]) .skip)) (zS [f8 15 (.mov (E8 5))] [1,5,7,8,11,12,13,14,15,42,43,52,53,54] (.seq (zS [s8 61 0 13,x7 62 61,p6 63 62 .eql (E8 1)] [1,5,7,8,11,12,14,15,42,43,52,53,54,63] (zC 63 (zS [f8 15 (.mov (E8 3))] [1,5,7,8,11,12,14,15,42,43,52,53,54] (.seq (zS [d8 64 7,d8 65 12,z4z 66 1 64 65,x7 67 66,d8 68 14,p6 69 67 .neq (zT 68)] [1,5,7,8,11,12,14,15,42,43,52,53,54,69] (zC 69 (.ops [d8 70 5,d8 71 7,d8 72 12,z4z 73 1 71 72,x7 74 73,d8 75 12,d8 76 12,f8 77 (.build [(.int .u8 0),(.bool false),(.int .u8 0),(.int .i64 0),(.int .i64 0),(.int .i64 0),(.int .i64 0)] [(0,1,(E8 7)),(2,1,(zT 74)),(3,1,(zT 75)),(4,1,(zT 76))]),f8 78 (.mkRow 54 7 1 [(.int .u8 0),(.bool false),(.int .u8 0),(.int .i64 0),(.int .i64 0),(.int .i64 0),(.int .i64 0)] [(0,7,(zT 77))]),y2z 79 54 7 40 70 78,d8 5 79] [1,5,7,8,11,12,14,15,42,43,52,53,54]) .skip)) (.ops [d8 80 7,d8 81 12,d8 82 14,z4z 83 1 80 81,⟨none,none,.store 1 (zT 83) (zT 82)⟩] [1,5,7,8,11,12,15,42,43,52,53,54]))) .skip)) (.ops [d8 84 11,d8 85 15,d8 86 8,p6 87 86 .and (q9 1),p6 88 87 .eql (q9 1),d8 89 7,d8 90 12,z4z 91 1 89 90,x7 92 91,d8 93 12,f8 94 (.build [(.int .u8 0),(.bool false),(.int .u8 0),(.int .i64 0),(.int .i64 0),(.int .i64 0),(.int .i64 0)] [(0,1,(zT 85)),(1,1,(zT 88)),(2,1,(zT 92)),(3,1,(zT 93)),(5,1,(q9 1))]),f8 95 (.mkRow 54 7 1 [(.int .u8 0),(.bool false),(.int .u8 0),(.int .i64 0),(.int .i64 0),(.int .i64 0),(.int .i64 0)] [(0,7,(zT 94))]),y2z 96 54 7 40 84 95,d8 11 96] [1,5,7,8,11,42,43,52,53,54]))))))) (.ops [p6 97 54 .add (q9 1),d8 54 97] [1,5,7,8,11,42,43,52,53,54])))
 
def FZ:AC:= zS [p6 44 43 .lss (zT 42)] [1,5,7,42,43,44] (.seq (zC 44 .skip (.exit 2)) (.seq (.block 3 (zS [d8 45 43,d8 8 45] [1,5,7,8,42,43] (zS [z1z 47 2 1,d8 48 8,f8 49 (.callF 32 [(zT 47),(zT 48)]),d8 46 49,H3 50 46 0,H3 51 46 1,d8 9 50,d8 10 51] [1,5,7,8,9,42,43] (zS [z5z 11] [1,5,7,8,9,11,42,43] (.seq (zS [d8 52 9,z6z 53 52,z7 54 0] [1,5,7,8,11,42,43,52,53,54] (.block 4 (.loop [1,5,7,8,11,42,43,52,53,54] bC))) (.seq (zS [d8 98 8,p6 99 98 .and (q9 1),p6 100 99 .eql (q9 0)] [1,5,7,11,42,43,100] (zC 100 (.ops [d8 101 11,I2 102 78 101] [1,5,7,11,42,43]) .skip)) (.ops [d8 103 5,d8 104 11,y2z 105 54 7 40 103 104,d8 5 105] [1,5,7,42,43]))))))) (.ops [p6 106 43 .add (q9 1),d8 43 106] [1,5,7,42,43])))
def GA:AC:= zS [p6 29 28 .lss (zT 27)] [1,5,27,28,29] (.seq (zC 29 .skip (.exit 0)) (.seq (.block 1 (zS [d8 30 28,d8 6 30] [1,5,6,27,28] (.ops [d8 31 5,d8 32 6,f8 33 (.build [(.int .u8 0),(.bool false),(.int .u8 0),(.int .i64 0),(.int .i64 0),(.int .i64 0),(.int .i64 0)] [(0,1,(E8 3)),(1,1,zt),(3,1,(zT 32)),(5,1,(q9 1))]),f8 34 (.mkRow 54 7 1 [(.int .u8 0),(.bool false),(.int .u8 0),(.int .i64 0),(.int .i64 0),(.int .i64 0),(.int .i64 0)] [(0,7,(zT 33))]),y2z 35 54 7 40 31 34,d8 5 35] [1,5,27,28]))) (.ops [p6 36 28 .add (q9 1),d8 28 36] [1,5,27,28])))
def c30:p8:=⟨zS [z9z 1 24 0,z5z 2,z7 3 0] [1] (.seq (zS [z1z 16 2 1,I2 17 76 16,d8 4 17] [1,4] (zS [d8 18 4,p6 19 18 .neq (q9 0)] [1,4,19] (zC 19 (zS [d8 20 4,z5z 2,d8 3 20] [2,3] .ret) .skip))) (.seq (zS [z1z 21 2 1,I2 22 77 21,f8 23 (.un .not (zT 22))] [1,23] (zC 23 (zS [z5z 2,z7 3 2] [2,3] .ret) .skip)) (zS [f8 24 (.build [(.int .u8 0),(.bool false),(.int .u8 0),(.int .i64 0),(.int .i64 0),(.int .i64 0),(.int .i64 0)] [(0,1,(E8 1)),(5,1,(q9 1))]),f8 25 (.mkRow 54 7 1 [(.int .u8 0),(.bool false),(.int .u8 0),(.int .i64 0),(.int .i64 0),(.int .i64 0),(.int .i64 0)] [(0,7,(zT 24))]),d8 5 25] [1,5] (.seq (zS [s8 26 0 1,x7 27 26,z7 28 0] [1,5,27,28] (.block 0 (.loop [1,5,27,28] GA))) (zS [s8 37 0 1,x7 38 37,f8 39 (.mkSlice 5 1 1 [(.int .u8 0)] (zT 38) (zT 38)),d8 7 39] [1,5,7] (.seq (zS [s8 40 1 1,x7 41 40,z6z 42 41,z7 43 0] [1,5,7,42,43] (.block 2 (.loop [1,5,7,42,43] FZ))) (.seq (zS [d8 107 5,z6z 108 107,p6 109 108 .gtr (q9 2000)] [5,109] (zC 109 (zS [z5z 2,z7 3 4] [2,3] .ret) .skip)) (zS [d8 110 5,d8 2 110,z7 3 0] [2,3] .ret)))))))),111,[(2,none),(3,none)],true⟩
def c32:p8:=⟨zS [z9z 2 24 0,z5z 4,z7 5 0] [1,2] (.seq (zS [z1z 7 2 2,I2 8 76 7,d8 6 8] [1,2,6] (zS [d8 9 6,p6 10 9 .neq (q9 0)] [1,2,6,10] (zC 10 (zS [d8 11 6,z5z 4,d8 5 11] [4,5] .ret) .skip))) (.seq (zS [d8 12 1,p6 13 12 .lss (q9 0),d8 14 13,z8z 15 14 1,D5 16 14 (.fldA 1 (zT 2)),D5 17 14 (.load none (zT 16)),D5 18 14 (.len false (zT 17)),D5 19 14 (.bin .geq (zT 15) (zT 18)),z3z 20 14 19] [1,2,20] (zC 20 (zS [z5z 4,z7 5 2] [4,5] .ret) .skip)) (.seq (zS [s8 21 1 2,x7 22 21,d8 23 1,z4z 24 2 22 23,s8 25 0 24,x7 26 25] [1,2,26] (zC 26 (zS [s8 27 1 2,x7 28 27,d8 29 1,z4z 30 2 28 29,s8 31 1 30,x7 32 31,I2 33 81 32,H3 34 33 0,H3 35 33 1,d8 4 34,d8 5 35] [4,5] .ret) .skip)) (zS [s8 36 1 2,x7 37 36,d8 38 1,z4z 39 2 37 38,s8 40 1 39,x7 41 40,I2 42 82 41,d8 4 42,z7 5 0] [4,5] .ret)))),43,[(4,none),(5,none)],true⟩
def c35:p8:=⟨zS [z7 2 0] [0] (.seq (zS [d8 3 0,z6z 4 3,p6 5 4 .gtr (q9 2000)] [0,5] (zC 5 (zS [z7 2 4] [2] .ret) .skip)) (.seq (zS [d8 6 0,f8 7 (.callF 83 [(zT 6),(.func 84)])] [7] (zC 7 (zS [z7 2 8] [2] .ret) .skip)) (zS [z7 2 0] [2] .ret))),8,[(2,none)],true⟩
def c38:p8:=⟨zS [f8 2 (.mov zf)] [0] (zS [d8 3 0,z6z 4 3,p6 5 4 .gtr (q9 60),d8 6 5,z7z 7 6 0,v6 8 6 (.len false (zT 7)),v6 9 6 (.bin .leq (zT 8) (q9 200)),z2z 10 6 9,d8 11 10,z8z 12 11 0,D5 13 11 (.len false (zT 12)),D5 14 11 (.bin .gtr (zT 13) (q9 300)),z3z 15 11 14,d8 2 15] [2] .ret),16,[(2,none)],true⟩
def c39:p8:=⟨zS [z9z 3 24 0,f8 6 (.alloc 24 [(1,(.int .i64 0)),(1,(.slice none 0 0))]),z7 7 0] [1,2,3,6] (zS [z1z 11 2 3,I2 12 87 11,d8 10 12,H3 13 10 0,H3 14 10 1,d8 8 13,d8 9 14] [1,2,3,6,8,9] (.seq (zS [d8 15 9,p6 16 15 .neq (q9 0)] [1,2,3,6,8,9,16] (zC 16 (zS [f8 17 (.build [(.int .i64 0),(.slice none 0 0)] []),d8 18 9,⟨none,none,.store 2 (zT 6) (zT 17)⟩,d8 7 18] [6,7] .ret) .skip)) (.seq (zS [d8 19 1,p6 20 19 .lss (q9 0),d8 21 20,z8z 22 21 1,z8z 23 21 2,D5 24 21 (.bin .gtr (zT 22) (zT 23)),z3z 25 21 24,d8 26 25,z8z 27 26 2,D5 28 26 (.fldA 1 (zT 3)),D5 29 26 (.load none (zT 28)),D5 30 26 (.len false (zT 29)),D5 31 26 (.bin .gtr (zT 27) (zT 30)),z3z 32 26 31] [1,2,3,6,8,32] (zC 32 (zS [f8 33 (.build [(.int .i64 0),(.slice none 0 0)] []),⟨none,none,.store 2 (zT 6) (zT 33)⟩,z7 7 2] [6,7] .ret) .skip)) (.seq (.draw [d8 34 8,d8 35 1,z4z 36 1 34 35,x7 37 36,s8 38 1 3,x7 39 38,d8 40 1,d8 41 2,f8 42 (.slc 2 (zT 39) (some (zT 40)) (some (zT 41)) none),I2 43 88 42] [f8 44 (.build [(.int .i64 0),(.slice none 0 0)] [(0,1,(zT 37)),(1,1,(zT 43))]),⟨none,none,.store 2 (zT 6) (zT 44)⟩,z7 7 0] [[],[],[],[],[],[],[],[],[],[]] [6,7]) .ret)))),45,[(6,(some (some 2))),(7,none)],true⟩
def vL:AC:= .seq (zS [d8 93 10,d8 94 8,z6z 95 94,p6 96 93 .lss (zT 95)] [1,4,5,7,8,10,96] (zC 96 .skip (.exit 6))) (.seq (.block 7 (zS [d8 99 10,d8 11 99] [1,4,5,7,8,10,11] (.seq (zS [d8 100 7,p6 101 100 .rem (q9 2),p6 102 101 .eql (q9 0)] [1,4,5,7,8,10,11,102] (zC 102 (.ops [d8 103 8,z6z 104 103,p6 105 104 .sub (q9 1),d8 106 10,p6 107 105 .sub (zT 106),d8 11 107] [1,4,5,7,8,10,11]) .skip)) (zS [d8 108 7,p6 109 108 .rem (q9 2),p6 110 109 .eql (q9 1),d8 111 5,d8 112 11,z4z 113 1 111 112,x7 114 113,d8 115 11,f8 116 (.build [(.int .u8 0),(.bool false),(.int .u8 0),(.int .i64 0),(.int .i64 0),(.int .i64 0),(.int .i64 0)] [(0,1,(E8 3)),(1,1,(zT 110)),(2,1,(zT 114)),(3,1,(zT 115)),(5,1,(q9 1))]),f8 12 (.alloc 54 [(1,(.int .u8 0)),(1,(.bool false)),(1,(.int .u8 0)),(4,(.int .i64 0))]),⟨none,none,.store 7 (zT 12) (zT 116)⟩] [1,4,5,7,8,10,11,12] (.seq (zS [d8 117 8,d8 118 11,z4z 119 4 117 118,s8 120 0 119,x7 121 120,p6 122 121 .eql (E8 8)] [1,4,5,7,8,10,12,122] (zC 122 (.ops [s8 123 0 12,⟨none,none,.store 1 (zT 123) (E8 5)⟩] [1,4,5,7,8,10,12]) .skip)) (.ops [d8 124 4,z1z 125 7 12,f8 126 (.mkRow 54 7 1 [(.int .u8 0),(.bool false),(.int .u8 0),(.int .i64 0),(.int .i64 0),(.int .i64 0),(.int .i64 0)] [(0,7,(zT 125))]),y2z 127 54 7 40 124 126,d8 4 127] [1,4,5,7,8,10])))))) (.ops [d8 97 10,p6 98 97 .add (q9 1),d8 10 98] [1,4,5,7,8,10]))
def qH:AC:= .seq (zS [d8 50 9,d8 51 8,z6z 52 51,p6 53 50 .lss (zT 52)] [1,4,5,7,8,9,53] (zC 53 .skip (.exit 4))) (.seq (.block 5 (.seq (.draw [d8 56 8,d8 57 9,z4z 58 4 56 57,s8 59 0 58,x7 60 59,p6 61 60 .eql (E8 1),d8 62 61,z7z 63 62 8,z7z 64 62 9,v6 65 62 (.idxS 4 (zT 63) (zT 64)),y1z 66 62 1 65,y0z 67 62 66,z7z 68 62 5,z7z 69 62 9,v6 70 62 (.idxS 1 (zT 68) (zT 69)),y0z 71 62 70,v6 72 62 (.bin .eql (zT 71) (E8 1))] [v6 73 62 (.eqB true (zT 67) (zT 72)),z2z 74 62 73] [[],[],[],[],[],[],[],[],[],[],[],[],[],[],[],[],[]] [1,4,5,7,8,9,74]) (zC 74 (zS [d8 75 4,d8 76 5,d8 77 9,z4z 78 1 76 77,x7 79 78,d8 80 9,d8 81 9,f8 82 (.build [(.int .u8 0),(.bool false),(.int .u8 0),(.int .i64 0),(.int .i64 0),(.int .i64 0),(.int .i64 0)] [(0,1,(E8 7)),(2,1,(zT 79)),(3,1,(zT 80)),(4,1,(zT 81))]),f8 83 (.mkRow 54 7 1 [(.int .u8 0),(.bool false),(.int .u8 0),(.int .i64 0),(.int .i64 0),(.int .i64 0),(.int .i64 0)] [(0,7,(zT 82))]),y2z 84 54 7 40 75 83,d8 4 84] [1,4,5,7,8,9] (.ops [d8 85 5,d8 86 9,d8 87 5,d8 88 9,z4z 89 1 87 88,x7 90 89,f8 91 (.bin .sub (E8 1) (zT 90)),z4z 92 1 85 86,⟨none,none,.store 1 (zT 92) (zT 91)⟩] [1,4,5,7,8,9])) .skip))) (.ops [d8 54 9,p6 55 54 .add (q9 1),d8 9 55] [1,4,5,7,8,9]))
def GB:AC:= .seq (zS [d8 37 7,s8 38 1 1,x7 39 38,z6z 40 39,p6 41 37 .lss (zT 40)] [1,4,5,7,41] (zC 41 .skip (.exit 2))) (.seq (.block 3 (zS [s8 44 1 1,x7 45 44,d8 46 7,z4z 47 2 45 46,z1z 48 2 47,I2 49 89 48,d8 8 49] [1,4,5,7,8] (.seq (zS [z7 9 0] [1,4,5,7,8,9] (.block 4 (.loop [1,4,5,7,8,9] qH))) (zS [z7 10 0] [1,4,5,7,8,10] (.block 6 (.loop [1,4,5,7,8,10] vL)))))) (.ops [d8 42 7,p6 43 42 .add (q9 1),d8 7 43] [1,4,5,7]))
def GC:AC:= .seq (zS [d8 26 6,s8 27 0 1,x7 28 27,p6 29 26 .lss (zT 28)] [1,4,5,6,29] (zC 29 .skip (.exit 0))) (.seq (.block 1 (.ops [d8 32 4,d8 33 6,f8 34 (.build [(.int .u8 0),(.bool false),(.int .u8 0),(.int .i64 0),(.int .i64 0),(.int .i64 0),(.int .i64 0)] [(0,1,(E8 3)),(1,1,zt),(3,1,(zT 33)),(5,1,(q9 1))]),f8 35 (.mkRow 54 7 1 [(.int .u8 0),(.bool false),(.int .u8 0),(.int .i64 0),(.int .i64 0),(.int .i64 0),(.int .i64 0)] [(0,7,(zT 34))]),y2z 36 54 7 40 32 35,d8 4 36] [1,4,5,6])) (.ops [d8 30 6,p6 31 30 .add (q9 1),d8 6 31] [1,4,5,6]))
def c40:p8:=⟨zS [z9z 1 24 0,z5z 2,z7 3 0] [1] (.seq (zS [z1z 13 2 1,I2 14 79 13,p6 15 14 .neq (q9 0)] [1,15] (zC 15 (zS [z1z 16 2 1,I2 17 79 16,z5z 2,d8 3 17] [2,3] .ret) .skip)) (.seq (zS [z1z 18 2 1,I2 19 80 18,f8 20 (.un .not (zT 19))] [1,20] (zC 20 (zS [z5z 2,z7 3 2] [2,3] .ret) .skip)) (zS [f8 21 (.build [(.int .u8 0),(.bool false),(.int .u8 0),(.int .i64 0),(.int .i64 0),(.int .i64 0),(.int .i64 0)] [(0,1,(E8 1)),(5,1,(q9 1))]),f8 22 (.mkRow 54 7 1 [(.int .u8 0),(.bool false),(.int .u8 0),(.int .i64 0),(.int .i64 0),(.int .i64 0),(.int .i64 0)] [(0,7,(zT 21))]),d8 4 22] [1,4] (zS [s8 23 0 1,x7 24 23,f8 25 (.mkSlice 5 1 1 [(.int .u8 0)] (zT 24) (zT 24)),d8 5 25] [1,4,5] (.seq (zS [z7 6 0] [1,4,5,6] (.block 0 (.loop [1,4,5,6] GC))) (.seq (zS [z7 7 0] [1,4,5,7] (.block 2 (.loop [1,4,5,7] GB))) (.seq (zS [d8 128 4,z6z 129 128,p6 130 129 .gtr (q9 2000)] [4,130] (zC 130 (zS [z5z 2,z7 3 4] [2,3] .ret) .skip)) (zS [d8 131 4,d8 2 131,z7 3 0] [2,3] .ret)))))))),132,[(2,none),(3,none)],true⟩
def c41:p8:=⟨zS [f8 2 (.mov (.const (.string ⟨#[]⟩)))] [0] (.seq (zS [d8 3 0,p6 4 3 .eql (E8 2)] [4] (zC 4 (zS [f8 2 (.mov (.const (.string ⟨#[98,114,101,97,107,32]⟩)))] [2] .ret) .skip)) (zS [f8 2 (.mov (.const (.string ⟨#[109,101,110,100,32]⟩)))] [2] .ret)),5,[(2,none)],true⟩
def c43:p8:=⟨zS [z9z 1 54 0,f8 2 (.mov (.const (.string ⟨#[]⟩))),z7 3 0] [1] (.seq (zS [z1z 5 7 1,I2 6 63 5,d8 4 6] [1,4] (zS [d8 7 4,p6 8 7 .neq (q9 0)] [1,4,8] (zC 8 (zS [d8 9 4,f8 2 (.mov (.const (.string ⟨#[]⟩))),d8 3 9] [2,3] .ret) .skip))) (zS [z1z 10 7 1,I2 11 91 10,d8 2 11,z7 3 0] [2,3] .ret)),12,[(2,none),(3,none)],true⟩
def c44:p8:=⟨zS [z7 4 0,f8 5 (.mov (.const .nilIface))] [0,1] (zS [d8 6 0,I2 7 92 6] [0,1] (zS [d8 8 0,d8 9 0,f8 10 (.nilChk (zT 9)),s8 11 1 10,x7 12 11,d8 13 1,y2z 14 5 1 1 12 13,f8 15 (.nilChk (zT 8)),s8 16 1 15,⟨none,none,.store 1 (zT 16) (zT 14)⟩] [1] (zS [d8 17 1,y3z 18 17,d8 4 18,f8 5 (.mov (.const .nilIface))] [4,5] .ret))),19,[(4,none),(5,none)],false⟩
def c45:p8:=⟨zS [z7 2 0] [0] (zS [d8 3 0,f8 4 (.nilChk (zT 3)),s8 5 1 4,x7 6 5,z6z 7 6,d8 2 7] [2] .ret),8,[(2,none)],true⟩
def c46:p8:=⟨zS [f8 2 (.mov (.const (.string ⟨#[]⟩)))] [0] (.seq (.draw [d8 3 0,f8 4 (.nilChk (zT 3)),s8 5 1 4,x7 6 5,f8 7 (.sdata (zT 6)),d8 8 0,f8 9 (.nilChk (zT 8)),s8 10 1 9,x7 11 10,z6z 12 11] [f8 13 (.ustr 5 (zT 7) (zT 12)),d8 2 13] [[],[],[],[],[],[],[],[],[],[]] [2]) .ret),14,[(2,none)],false⟩
def c47:p8:=⟨zS [z9z 1 56 0,f8 2 (.mov (.const (.string ⟨#[]⟩)))] [1] (.seq (zS [s8 3 0 1,x7 4 3,p6 5 4 .eql (E8 1)] [1,5] (zC 5 (zS [s8 6 1 1,z1z 7 7 6,I2 8 93 7,d8 2 8] [2] .ret) .skip)) (.seq (zS [s8 9 0 1,x7 10 9,p6 11 10 .eql (E8 2)] [1,11] (zC 11 (zS [s8 12 8 1,x7 13 12,I2 14 94 13,f8 15 (.bin .add (.const (.string ⟨#[98,114,101,97,107,32]⟩)) (zT 14)),d8 2 15] [2] .ret) .skip)) (zS [s8 16 8 1,x7 17 16,I2 18 94 17,f8 19 (.bin .add (.const (.string ⟨#[109,101,110,100,32]⟩)) (zT 18)),d8 2 19] [2] .ret))),20,[(2,none)],true⟩
def dC8:AC:= .block 1 (zS [d8 20 0,d8 21 1,f8 22 (.callF 97 [(zT 20),(zT 21)]),d8 6 22] [0,1,5,6] (.seq (zS [d8 23 6,f8 24 (.bin .eql (zT 23) (q9 (-1)))] [0,1,5,6,24] (zC 24 (zS [d8 25 5,d8 4 25] [4] .ret) .skip)) (zS [d8 26 5,p6 27 26 .add (q9 1),d8 5 27] [0,1,5,6] (.ops [d8 28 0,d8 29 6,d8 30 1,y3z 31 30,p6 32 29 .add (zT 31),f8 33 (.slcS (zT 28) (some (zT 32)) none),d8 0 33] [0,1,5]))))
def c48:p8:=⟨zS [z7 4 0] [0,1] (.seq (zS [d8 7 1,y3z 8 7,p6 9 8 .eql (q9 0)] [0,1,9] (zC 9 (zS [d8 10 0,I2 11 95 10,p6 12 11 .add (q9 1),d8 4 12] [4] .ret) .skip)) (.seq (zS [d8 13 1,y3z 14 13,p6 15 14 .eql (q9 1)] [0,1,15] (zC 15 (zS [d8 16 0,d8 17 1,f8 18 (.idxStr (zT 17) (q9 0)),f8 19 (.callF 96 [(zT 16),(zT 18)]),d8 4 19] [4] .ret) .skip)) (zS [z7 5 0] [0,1,5] (.block 0 (.loop [0,1,5] dC8))))),34,[(4,none)],true⟩
def c49:p8:=⟨zS [f8 4 (.mov (.const (.string ⟨#[]⟩))),f8 5 (.mov (.const (.string ⟨#[]⟩))),f8 6 (.mov zf)] [0,1] (zS [d8 7 0,d8 8 1,f8 9 (.callF 98 [(zT 7),(zT 8)]),H3 10 9 0,H3 11 9 1,H3 12 9 2,d8 4 10,d8 5 11,d8 6 12] [4,5,6] .ret),13,[(4,none),(5,none),(6,none)],true⟩
def vM:AC:= zS [p6 16 15 .lss (zT 14)] [0,2,13,14,15,16] (.seq (zC 16 .skip (.exit 0)) (.seq (.block 1 (zS [z4z 17 1 13 15,x7 18 17,d8 5 18] [0,2,5,13,14,15] (zS [d8 20 0,d8 21 5,I2 22 41 21,f8 23 (.callF 99 [(zT 20),(zT 22)]),d8 19 23,H3 24 19 0,H3 25 19 1,d8 6 24,d8 7 25] [0,2,5,6,7,13,14,15] (zS [d8 26 7] [0,2,5,6,13,14,15,26] (zC 26 (zS [d8 28 6,I2 29 100 28,d8 27 29,H3 30 27 0,H3 31 27 1,d8 8 30,d8 9 31] [2,5,6,8,9] (zS [d8 32 5,d8 33 8,f8 34 (.build [(.int .u8 0),(.int .u8 0),(.bool false),(.int .u8 0),(.int .i64 0),(.int .i64 0),(.int .i64 0),(.int .i64 0),(.int .i64 0)] [(0,1,(zT 32)),(8,1,(zT 33))]),f8 10 (.alloc 56 [(2,(.int .u8 0)),(1,(.bool false)),(1,(.int .u8 0)),(5,(.int .i64 0))]),⟨none,none,.store 9 (zT 10) (zT 34)⟩] [2,6,8,9,10] (.seq (.drawW [⟨z1z 35 9 10,[],none⟩,⟨d8 36 9,[0],none⟩,⟨f8 37 (.eqIf false true [2,3,5,6,12,21,28,241,248,250,271,295,305,319,320,322,323] (zT 36) (.const .nilIface)),[0],none⟩,⟨d8 38 37,[0],none⟩,⟨z7z 39 38 8,[0],none⟩,⟨v6 40 38 (.callF 42 [.tmp 39]),[0],(some [])⟩,⟨z7z 41 38 6,[0,4,5],none⟩,⟨v6 42 38 (.bin .eql (zT 40) (zT 41)),[0],none⟩,⟨z2z 43 38 42,[0],none⟩,⟨d8 44 43,[0],none⟩,⟨v6 45 44 (.load (some 9) (zT 10)),[0],none⟩,⟨v6 46 44 (.callF 85 [.tmp 45]),[0],(some [])⟩,⟨z2z 47 44 46,[0],none⟩,⟨⟨none,none,.store 9 (zT 2) (zT 35)⟩,[12],none⟩] [d8 3 47] [2,3]) .ret))) .skip))))) (.ops [p6 48 15 .add (q9 1),d8 15 48] [0,2,13,14,15])))
def c50:p8:=⟨zS [f8 2 (.alloc 56 [(2,(.int .u8 0)),(1,(.bool false)),(1,(.int .u8 0)),(5,(.int .i64 0))]),f8 3 (.mov zf)] [0,2] (.seq (zS [f8 13 (.mkRow 5 1 2 [(.int .u8 0)] [(0,1,(E8 2)),(1,1,(E8 3))]),z6z 14 13,z7 15 0] [0,2,13,14,15] (.block 0 (.loop [0,2,13,14,15] vM))) (zS [d8 50 0,I2 51 101 50,d8 49 51,H3 52 49 0,H3 53 49 1,f8 11 (.alloc 54 [(1,(.int .u8 0)),(1,(.bool false)),(1,(.int .u8 0)),(4,(.int .i64 0))]),⟨none,none,.store 7 (zT 11) (zT 52)⟩,d8 12 53] [2,11,12] (zS [z1z 54 7 11,f8 55 (.build [(.int .u8 0),(.int .u8 0),(.bool false),(.int .u8 0),(.int .i64 0),(.int .i64 0),(.int .i64 0),(.int .i64 0),(.int .i64 0)] [(0,1,(E8 1)),(1,7,(zT 54))]),d8 56 12,p6 57 56 .eql (q9 0),⟨none,none,.store 9 (zT 2) (zT 55)⟩,d8 3 57] [2,3] .ret))),58,[(2,(some (some 9))),(3,none)],true⟩
def QC:AC:= .seq (zS [d8 8 7,d8 9 0,y3z 10 9,p6 11 8 .leq (zT 10)] [0,1,5,6,7,11] (zC 11 .skip (.exit 0))) (.seq (.block 1 (zS [d8 14 7,d8 15 0,y3z 16 15,p6 17 14 .eql (zT 16),d8 18 17,z8z 19 18 0,z8z 20 18 7,D5 21 18 (.idxStr (zT 19) (zT 20)),z8z 22 18 1,D5 23 18 (.bin .eql (zT 21) (zT 22)),z3z 24 18 23] [0,1,5,6,7,24] (zC 24 (zS [d8 25 5,d8 26 0,d8 27 6,d8 28 7,f8 29 (.slcS (zT 26) (some (zT 27)) (some (zT 28))),f8 30 (.mkRow 9 1 1 [(.string ⟨#[]⟩)] [(0,1,(zT 29))]),y2z 31 9 1 16 25 30,d8 5 31] [0,1,5,7] (.ops [d8 32 7,p6 33 32 .add (q9 1),d8 6 33] [0,1,5,6,7])) .skip))) (.ops [d8 12 7,p6 13 12 .add (q9 1),d8 7 13] [0,1,5,6,7]))
def c51:p8:=⟨zS [z5z 4] [0,1] (zS [z5z 5] [0,1,5] (zS [z7 6 0] [0,1,5,6] (.seq (zS [z7 7 0] [0,1,5,6,7] (.block 0 (.loop [0,1,5,6,7] QC))) (zS [d8 34 5,d8 4 34] [4] .ret)))),35,[(4,none)],true⟩
def aE7:AC:= .seq (zS [d8 22 7,p6 23 22 .leq (E8 3)] [0,2,6,7,23] (zC 23 .skip (.exit 2))) (.seq (.block 3 (zS [d8 26 7,d8 27 6,f8 28 (.build [(.int .u8 0),(.int .u8 0),(.bool false),(.int .u8 0),(.int .i64 0),(.int .i64 0),(.int .i64 0),(.int .i64 0),(.int .i64 0)] [(0,1,(zT 26)),(8,1,(zT 27))]),f8 8 (.alloc 56 [(2,(.int .u8 0)),(1,(.bool false)),(1,(.int .u8 0)),(5,(.int .i64 0))]),⟨none,none,.store 9 (zT 8) (zT 28)⟩] [0,2,6,7,8] (zS [z1z 29 9 8,I2 30 47 29,d8 31 0,p6 32 30 .eql (zT 31)] [0,2,6,7,8,32] (zC 32 (zS [z1z 33 9 8,⟨none,none,.store 9 (zT 2) (zT 33)⟩,f8 3 (.mov zt)] [2,3] .ret) .skip)))) (.ops [d8 24 7,p6 25 24 .add (E8 1),d8 7 25] [0,2,6,7]))
def bD4:AC:= .seq (zS [d8 18 6,p6 19 18 .leq (q9 6)] [0,2,6,19] (zC 19 .skip (.exit 0))) (.seq (.block 1 (zS [f8 7 (.mov (E8 2))] [0,2,6,7] (.block 2 (.loop [0,2,6,7] aE7)))) (.ops [d8 20 6,p6 21 20 .add (q9 1),d8 6 21] [0,2,6]))
def c52:p8:=⟨zS [f8 2 (.alloc 56 [(2,(.int .u8 0)),(1,(.bool false)),(1,(.int .u8 0)),(5,(.int .i64 0))]),f8 3 (.mov zf)] [0,2] (zS [d8 10 0,I2 11 102 10,d8 9 11,H3 12 9 0,H3 13 9 1,f8 4 (.alloc 54 [(1,(.int .u8 0)),(1,(.bool false)),(1,(.int .u8 0)),(4,(.int .i64 0))]),⟨none,none,.store 7 (zT 4) (zT 12)⟩,d8 5 13] [0,2,4,5] (.seq (zS [d8 14 5,p6 15 14 .eql (q9 0)] [0,2,4,15] (zC 15 (zS [z1z 16 7 4,f8 17 (.build [(.int .u8 0),(.int .u8 0),(.bool false),(.int .u8 0),(.int .i64 0),(.int .i64 0),(.int .i64 0),(.int .i64 0),(.int .i64 0)] [(0,1,(E8 1)),(1,7,(zT 16))]),⟨none,none,.store 9 (zT 2) (zT 17)⟩,f8 3 (.mov zt)] [2,3] .ret) .skip)) (.seq (zS [z7 6 1] [0,2,6] (.block 0 (.loop [0,2,6] bD4))) (zS [f8 34 (.build [(.int .u8 0),(.int .u8 0),(.bool false),(.int .u8 0),(.int .i64 0),(.int .i64 0),(.int .i64 0),(.int .i64 0),(.int .i64 0)] []),⟨none,none,.store 9 (zT 2) (zT 34)⟩,f8 3 (.mov zf)] [2,3] .ret)))),35,[(2,(some (some 9))),(3,none)],true⟩
def c54:p8:=⟨zS [f8 2 (.mov zf)] [0] (zS [d8 3 0,f8 4 (.bin .geq (zT 3) (q9 (-100))),d8 5 4,z7z 6 5 0,v6 7 5 (.bin .leq (zT 6) (q9 100)),z2z 8 5 7,d8 2 8] [2] .ret),9,[(2,none)],true⟩
def c55:p8:=⟨zS [f8 2 (.mov zf)] [0] (zS [d8 3 0,p6 4 3 .geq (q9 1),d8 5 4,z7z 6 5 0,v6 7 5 (.bin .leq (zT 6) (q9 6)),z2z 8 5 7,d8 2 8] [2] .ret),9,[(2,none)],true⟩
def c57:p8:=⟨zS [z9z 1 56 0,f8 2 (.mov zf)] [1] (.seq (zS [s8 3 0 1,x7 4 3,p6 5 4 .eql (E8 1)] [1,5] (zC 5 (zS [s8 6 8 1,x7 7 6,p6 8 7 .eql (q9 0),d8 9 8,y1z 10 9 1 1,v6 11 9 (.load (some 7) (zT 10)),v6 12 9 (.callF 25 [.tmp 11]),v6 13 9 (.bin .eql (zT 12) (q9 0)),z2z 14 9 13,d8 2 14] [2] .ret) .skip)) (zS [s8 15 0 1,x7 16 15,p6 17 16 .eql (E8 2),d8 18 17,D5 19 18 (.fldA 0 (zT 1)),D5 20 18 (.load none (zT 19)),D5 21 18 (.bin .eql (zT 20) (E8 3)),z3z 22 18 21,d8 23 22,y1z 24 23 1 1,v6 25 23 (.load (some 7) (zT 24)),v6 26 23 (.build [(.int .u8 0),(.bool false),(.int .u8 0),(.int .i64 0),(.int .i64 0),(.int .i64 0),(.int .i64 0)] []),v6 27 23 (.eqAgg false [(0,0),(1,2),(2,0),(3,0),(4,0),(5,0),(6,0)] (zT 25) (zT 26)),z2z 28 23 27,d8 29 28,y1z 30 29 8 1,y0z 31 29 30,v6 32 29 (.bin .geq (zT 31) (q9 1)),z2z 33 29 32,d8 34 33,y1z 35 34 8 1,y0z 36 34 35,v6 37 34 (.bin .leq (zT 36) (q9 6)),z2z 38 34 37,d8 2 38] [2] .ret)),39,[(2,none)],true⟩
def xM:p8:=⟨zS [z9z 1 54 0,z7 2 0] [1] (zS [s8 6 5 1,x7 7 6,p6 8 7 .geq (q9 1),d8 9 8,y1z 10 9 5 1,y0z 11 9 10,v6 12 9 (.bin .leq (zT 11) (q9 6)),z2z 13 9 12,d8 3 13] [1,3] (zS [z1z 14 7 1,f8 4 (.alloc 54 [(1,(.int .u8 0)),(1,(.bool false)),(1,(.int .u8 0)),(4,(.int .i64 0))]),⟨none,none,.store 7 (zT 4) (zT 14)⟩] [1,3,4] (zS [s8 15 0 4,⟨none,none,.store 1 (zT 15) (E8 0)⟩] [1,3,4] (zS [f8 5 (.mov zt)] [1,3,4,5] (.seq (zS [s8 16 0 1,x7 17 16] [1,3,4,5,17] (.block 0 (.seq (zS [p6 19 17 .eql (E8 1),d8 18 19] [1,3,4,5,17,18] (zC 18 .skip (.ops [p6 20 17 .eql (E8 2),d8 18 20] [1,3,4,5,17,18]))) (zC 18 (zS [s8 21 5 4,⟨none,none,.store 1 (zT 21) (q9 0)⟩] [1,3,4] (.ops [d8 22 3,d8 5 22] [1,4,5])) (.seq (zS [p6 24 17 .eql (E8 3),d8 23 24] [1,3,4,5,17,23] (zC 23 .skip (zS [p6 25 17 .eql (E8 4),d8 23 25] [1,3,4,5,17,23] (zC 23 .skip (.ops [p6 26 17 .eql (E8 5),d8 23 26] [1,3,4,5,17,23]))))) (zC 23 (zS [s8 27 1 4,⟨none,none,.store 1 (zT 27) zf⟩,s8 28 2 4,⟨none,none,.store 1 (zT 28) (E8 0)⟩,s8 29 3 4,⟨none,none,.store 1 (zT 29) (q9 0)⟩,s8 30 5 4,⟨none,none,.store 1 (zT 30) (q9 0)⟩] [1,3,4] (.ops [d8 31 3,d8 5 31] [1,4,5])) (zS [p6 33 17 .eql (E8 6),d8 32 33] [1,3,4,5,17,32] (zC 32 (zS [s8 34 6 1,x7 35 34,f8 36 (.build [(.int .u8 0),(.bool false),(.int .u8 0),(.int .i64 0),(.int .i64 0),(.int .i64 0),(.int .i64 0)] [(6,1,(zT 35))]),⟨none,none,.store 7 (zT 4) (zT 36)⟩] [1,3,4] (.ops [d8 37 3,d8 5 37] [1,4,5])) (zS [p6 39 17 .eql (E8 7),d8 38 39] [1,4,5,17,38] (zC 38 (.ops [s8 40 2 4,⟨none,none,.store 1 (zT 40) (E8 0)⟩,s8 41 3 4,⟨none,none,.store 1 (zT 41) (q9 0)⟩,s8 42 4 4,⟨none,none,.store 1 (zT 42) (q9 0)⟩] [1,4,5]) (zS [p6 44 17 .eql (E8 8),d8 43 44] [1,4,5,17,43]
  (zC 43 (zS [s8 45 6 4,⟨none,none,.store 1 (zT 45) (q9 0)⟩] [1,4] (.ops [s8 46 6 1,x7 47 46,s8 48 6 1,x7 49 48,f8 50 (.un .neg (zT 49)),f8 51 (.mm true (zT 47) (zT 50)),p6 52 51 .leq (q9 8),d8 53 52,y1z 54 53 6 1,y0z 55 53 54,v6 56 53 (.bin .geq (zT 55) (q9 (-8))),z2z 57 53 56,d8 5 57] [1,4,5])) (zS [p6 59 17 .eql (E8 9),d8 58 59] [1,4,5,58] (zC 58 (.ops [s8 60 2 4,⟨none,none,.store 1 (zT 60) (E8 0)⟩,s8 61 3 4,⟨none,none,.store 1 (zT 61) (q9 0)⟩] [1,4,5]) (.ops [f8 5 (.mov zf)] [1,4,5]))))))))))))))) (.seq (zS [d8 62 5,f8 63 (.un .not (zT 62)),d8 64 63,D5 65 64 (.load (some 7) (zT 4)),D5 66 64 (.build [(.int .u8 0),(.bool false),(.int .u8 0),(.int .i64 0),(.int .i64 0),(.int .i64 0),(.int .i64 0)] []),D5 67 64 (.eqAgg true [(0,0),(1,2),(2,0),(3,0),(4,0),(5,0),(6,0)] (zT 65) (zT 66)),z3z 68 64 67,d8 69 68,D5 70 69 (.fldA 2 (zT 1)),D5 71 69 (.load none (zT 70)),D5 72 69 (.bin .gtr (zT 71) (E8 1)),z3z 73 69 72,d8 74 73,D5 75 74 (.fldA 3 (zT 1)),D5 76 74 (.load none (zT 75)),D5 77 74 (.callF 103 [.tmp 76]),D5 78 74 (.un .not (zT 77)),z3z 79 74 78,d8 80 79,D5 81 80 (.fldA 4 (zT 1)),D5 82 80 (.load none (zT 81)),D5 83 80 (.callF 103 [.tmp 82]),D5 84 80 (.un .not (zT 83)),z3z 85 80 84] [85] (zC 85 (zS [z7 2 8] [2] .ret) .skip)) (zS [z7 2 0] [2] .ret))))))),86,[(2,none)],true⟩
def bD5:AC:= (.ops [f8 4 (.alloc 186 [(3,(.int .i64 0))]),⟨none,none,.store 3 (zT 4) (zT 20)⟩] [2,4])
def aE8:AC:= (.block 1 (zS [s8 21 2 4,x7 22 21,p6 23 22 .neq (q9 0)] [2,4,23] (zC 23 (zS [s8 24 2 4,x7 25 24,⟨none,none,.store 1 (zT 2) (zT 25)⟩] [] .ret) .skip)))
def c76:p8:=⟨zS [z9z 1 24 0,f8 2 (.alloc 28 [(1,(.int .i64 0))])] [1,2] (.seq (zS [s8 5 1 1,x7 6 5,z6z 7 6,p6 8 7 .gtr (q9 100)] [1,2,8] (zC 8 (zS [⟨none,none,.store 1 (zT 2) (q9 4)⟩] [2] .ret) .skip)) (.seq (zS [s8 9 0 1,x7 10 9,p6 11 10 .lss (q9 0),d8 12 11,D5 13 12 (.fldA 0 (zT 1)),D5 14 12 (.load none (zT 13)),D5 15 12 (.bin .gtr (zT 14) (q9 200)),z3z 16 12 15] [1,2,16] (zC 16 (zS [⟨none,none,.store 1 (zT 2) (q9 8)⟩] [2] .ret) .skip)) (.seq (zS [z1z 17 2 1,I2 18 122 17] [2,18] (.block 0 (.rangeF (zT 18) [19,20] [2] bD5 aE8))) (zS [⟨none,none,.store 1 (zT 2) (q9 0)⟩] [2] .ret)))),26,[(2,(some none))],true⟩
def aE9:AC:= zS [p6 9 8 .lss (zT 7)] [1,6,7,8,9] (.seq (zC 9 .skip (.exit 0)) (.seq (.block 1 (zS [z4z 10 2 6 8,z1z 11 2 10,f8 4 (.alloc 80 [(1,(.bool false)),(1,(.slice none 0 0))]),⟨none,none,.store 2 (zT 4) (zT 11)⟩] [1,4,6,7,8] (zS [s8 12 1 4,x7 13 12,f8 14 (.callF 123 [(zT 13),(.func 124)])] [1,6,7,8,14] (zC 14 (zS [f8 2 (.mov zf)] [2] .ret) .skip)))) (.ops [p6 15 8 .add (q9 1),d8 8 15] [1,6,7,8])))
def c77:p8:=⟨zS [z9z 1 24 0,f8 2 (.mov zf)] [1] (.seq (zS [s8 5 1 1,x7 6 5,z6z 7 6,z7 8 0] [1,6,7,8] (.block 0 (.loop [1,6,7,8] aE9))) (zS [s8 16 0 1,x7 17 16,p6 18 17 .leq (q9 101),d8 2 18] [2] .ret)),19,[(2,none)],true⟩
def aF0:AC:= .seq (zS [d8 7 2,d8 8 3,p6 9 7 .lss (zT 8)] [0,2,3,9] (zC 9 .skip (.exit 0))) (.seq (.block 1 (.drawW [⟨d8 14 0,[],none⟩,⟨d8 15 2,[0],none⟩,⟨d8 16 0,[0,1],none⟩,⟨d8 17 3,[0,1,2],none⟩,⟨d8 18 0,[0,1,2,3],none⟩,⟨d8 19 3,[0,1,2,3,4],none⟩,⟨z4z 20 7 18 19,[0,1,2,3],none⟩,⟨z1z 21 7 20,[0,1,2,3],none⟩,⟨d8 22 0,[0,1,2,3,4,5,6,7],none⟩,⟨d8 23 2,[0,1,2,3,4,5,6,7,8],none⟩,⟨z4z 24 7 22 23,[0,1,2,3,4,5,6,7],none⟩,⟨z1z 25 7 24,[0,1,2,3,4,5,6,7],none⟩,⟨z4z 26 7 14 15,[2,3],none⟩,⟨⟨none,none,.store 7 (zT 26) (zT 21)⟩,[2,3],none⟩] [z4z 27 7 16 17,⟨none,none,.store 7 (zT 27) (zT 25)⟩] [0,2,3])) (.ops [d8 10 2,p6 11 10 .add (q9 1),d8 12 3,p6 13 12 .sub (q9 1),d8 2 11,d8 3 13] [0,2,3]))
def c78:p8:=⟨zS [d8 4 0,z6z 5 4,p6 6 5 .sub (q9 1),z7 2 0,d8 3 6] [0,2,3] (.block 0 (.loop [0,2,3] aF0)),28,[],false⟩
def QD:AC:= .seq (zS [d8 21 4,s8 22 1 1,x7 23 22,z6z 24 23,p6 25 21 .lss (zT 24)] [1,3,4,25] (zC 25 .skip (.exit 0))) (.seq (.block 1 (zS [s8 29 1 1,x7 30 29,d8 31 4,z4z 32 2 30 31,s8 33 1 32,x7 34 33,I2 35 125 34,d8 28 35,H3 36 28 0,H3 37 28 1,d8 5 36,d8 6 37] [1,3,4,5,6] (.seq (zS [d8 38 6,p6 39 38 .neq (q9 0)] [1,3,4,5,6,39] (zC 39 (zS [d8 40 6,d8 2 40] [2] .ret) .skip)) (.seq (zS [d8 41 5,d8 42 3,p6 43 41 .neq (zT 42)] [1,4,43] (zC 43 (zS [z7 2 26] [2] .ret) .skip)) (.ops [s8 45 1 1,x7 46 45,d8 47 4,z4z 48 2 46 47,s8 49 1 48,x7 50 49,I2 51 126 50,d8 44 51,H3 52 44 0,H3 53 44 1,d8 3 52] [1,3,4]))))) (.ops [d8 26 4,p6 27 26 .add (q9 1),d8 4 27] [1,3,4]))
def c79:p8:=⟨zS [z9z 1 24 0,z7 2 0] [1] (.seq (zS [s8 7 1 1,x7 8 7,z6z 9 8,p6 10 9 .gtr (q9 100)] [1,10] (zC 10 (zS [z7 2 4] [2] .ret) .skip)) (.seq (zS [s8 11 0 1,x7 12 11,p6 13 12 .lss (q9 0),d8 14 13,D5 15 14 (.fldA 0 (zT 1)),D5 16 14 (.load none (zT 15)),D5 17 14 (.bin .gtr (zT 16) (q9 200)),z3z 18 14 17] [1,18] (zC 18 (zS [z7 2 8] [2] .ret) .skip)) (zS [s8 19 0 1,x7 20 19,d8 3 20] [1,3] (.seq (zS [z7 4 0] [1,3,4] (.block 0 (.loop [1,3,4] QD))) (zS [z7 2 0] [2] .ret))))),54,[(2,none)],true⟩
def QE:AC:= .seq (zS [d8 13 4,s8 14 1 1,x7 15 14,d8 16 3,z4z 17 2 15 16,s8 18 1 17,x7 19 18,z6z 20 19,p6 21 13 .lss (zT 20)] [1,3,4,21] (zC 21 .skip (.exit 2))) (.seq (.block 3 (zS [s8 24 1 1,x7 25 24,d8 26 3,z4z 27 2 25 26,s8 28 1 27,x7 29 28,d8 30 4,z4z 31 4 29 30,s8 32 0 31,x7 33 32,d8 5 33] [1,3,4,5] (zS [d8 34 5,p6 35 34 .neq (E8 1),d8 36 35,z7z 37 36 5,v6 38 36 (.bin .neq (zT 37) (E8 8)),z2z 39 36 38] [1,3,4,39] (zC 39 (zS [f8 2 (.mov zf)] [2] .ret) .skip)))) (.ops [d8 22 4,p6 23 22 .add (q9 1),d8 4 23] [1,3,4]))
def bD6:AC:= .seq (zS [d8 6 3,s8 7 1 1,x7 8 7,z6z 9 8,p6 10 6 .lss (zT 9)] [1,3,10] (zC 10 .skip (.exit 0))) (.seq (.block 1 (zS [z7 4 0] [1,3,4] (.block 2 (.loop [1,3,4] QE)))) (.ops [d8 11 3,p6 12 11 .add (q9 1),d8 3 12] [1,3]))
def c80:p8:=⟨zS [z9z 1 24 0,f8 2 (.mov zf)] [1] (.seq (zS [z7 3 0] [1,3] (.block 0 (.loop [1,3] bD6))) (zS [s8 40 0 1,x7 41 40,p6 42 41 .leq (q9 101),d8 2 42] [2] .ret)),43,[(2,none)],true⟩
def bD7:AC:= (.ops [f8 7 (.alloc 82 [(1,(.int .u8 0)),(1,(.bool false)),(2,(.int .i64 0))]),⟨none,none,.store 4 (zT 7) (zT 21)⟩] [5,7])
def bD8:AC:= (.block 1 (zS [s8 23 0 7,x7 24 23,I2 25 129 24,d8 22 25,H3 26 22 0,H3 27 22 1,f8 8 (.alloc 197 [(1,(.string ⟨#[]⟩)),(4,(.int .i64 0)),(1,(.bool false)),(2,(.int .i64 0))]),⟨none,none,.store 8 (zT 8) (zT 26)⟩,d8 9 27] [5,7,8] (zS [s8 28 5 8,x7 29 28,d8 30 29,y1z 31 30 1 7,y0z 32 30 31,v6 33 30 (.un .not (zT 32)),z2z 34 30 33,s8 35 1 7,⟨none,none,.store 1 (zT 35) (zT 34)⟩] [5,7,8] (.seq (zS [s8 36 3 8,f8 37 (.idxA 2 1 (zT 36) (q9 1)),x7 38 37,p6 39 38 .gtr (q9 0)] [5,7,39] (zC 39 (.ops [s8 40 3 7,x7 41 40,s8 42 2 7,x7 43 42,s8 44 2 7,⟨none,none,.store 1 (zT 44) (zT 41)⟩,s8 45 3 7,⟨none,none,.store 1 (zT 45) (zT 43)⟩] [5,7]) .skip)) (.ops [x7 46 5,z1z 47 4 7,f8 48 (.mkRow 82 4 1 [(.int .u8 0),(.bool false),(.int .i64 0),(.int .i64 0)] [(0,4,(zT 47))]),y2z 49 82 4 24 46 48,⟨none,none,.store 1 (zT 5) (zT 49)⟩] [])))))
def c81:p8:=⟨zS [z5z 2,z7 3 0] [0,2,3] (.seq (zS [d8 10 0,I2 11 127 10,d8 4 11] [0,2,3,4] (zS [d8 12 4,p6 13 12 .neq (q9 0)] [0,2,3,4,13] (zC 13 (zS [d8 14 4,z5z 2,d8 3 14] [2,3] .ret) .skip))) (zS [d8 15 0,z6z 16 15,f8 17 (.mkSlice 82 4 24 [(.int .u8 0),(.bool false),(.int .i64 0),(.int .i64 0)] (q9 0) (zT 16)),f8 5 (.alloc 76 [(1,(.slice none 0 0))]),⟨none,none,.store 1 (zT 5) (zT 17)⟩] [0,2,3,5] (.seq (zS [d8 18 0,I2 19 128 18] [2,3,5,19] (.block 0 (.rangeF (zT 19) [20,21] [2,3,5] bD7 bD8))) (zS [x7 50 5,d8 2 50,z7 3 0] [2,3] .ret)))),51,[(2,none),(3,none)],true⟩
def c82:p8:=⟨zS [z5z 2] [0] (.seq (zS [d8 3 0,f8 4 (.eqNil 1 false (zT 3) (.const (.slice none 0 0)))] [0,4] (zC 4 (zS [z5z 2] [2] .ret) .skip)) (zS [f8 5 (.mkRow 82 4 0 [(.int .u8 0),(.bool false),(.int .i64 0),(.int .i64 0)] []),d8 6 0,y2z 7 82 4 24 5 6,d8 2 7] [2] .ret)),8,[(2,none)],true⟩
def c83:p8:=⟨zS [f8 4 (.mov zf)] [0,1] (zS [d8 5 0,d8 6 1,f8 7 (.callF 130 [(zT 5),(zT 6)]),p6 8 7 .geq (q9 0),d8 4 8] [4] .ret),9,[(4,none)],true⟩
def c84:p8:=⟨zS [z9z 1 56 0,f8 2 (.mov zf)] [1] (zS [z1z 3 9 1,I2 4 85 3,f8 5 (.un .not (zT 4)),d8 2 5] [2] .ret),6,[(2,none)],true⟩
def c85:p8:=⟨zS [z9z 1 56 0,f8 2 (.mov zf)] [1] (.seq (zS [s8 3 0 1,x7 4 3] [1,4] (.block 0 (zS [p6 6 4 .eql (E8 1),d8 5 6] [1,4,5] (zC 5 (zS [s8 7 8 1,x7 8 7,p6 9 8 .eql (q9 0),d8 10 9,y1z 11 10 1 1,v6 12 10 (.load (some 7) (zT 11)),v6 13 10 (.callF 63 [.tmp 12]),v6 14 10 (.bin .eql (zT 13) (q9 0)),z2z 15 10 14,d8 2 15] [2] .ret) (.seq (zS [p6 17 4 .eql (E8 2),d8 16 17] [1,4,16] (zC 16 .skip (.ops [p6 18 4 .eql (E8 3),d8 16 18] [1,16]))) (zC 16 (zS [s8 19 1 1,z1z 20 7 19,f8 21 (.build [(.int .u8 0),(.bool false),(.int .u8 0),(.int .i64 0),(.int .i64 0),(.int .i64 0),(.int .i64 0)] []),f8 22 (.eqAgg false [(0,0),(1,2),(2,0),(3,0),(4,0),(5,0),(6,0)] (zT 20) (zT 21)),d8 23 22,y1z 24 23 8 1,y0z 25 23 24,v6 26 23 (.bin .geq (zT 25) (q9 1)),z2z 27 23 26,d8 28 27,y1z 29 28 8 1,y0z 30 28 29,v6 31 28 (.bin .leq (zT 30) (q9 6)),z2z 32 28 31,d8 2 32] [2] .ret) .skip)))))) (zS [f8 2 (.mov zf)] [2] .ret)),33,[(2,none)],true⟩
def QF:AC:= (.ops [f8 7 (.alloc 186 [(3,(.int .i64 0))]),⟨none,none,.store 3 (zT 7) (zT 19)⟩] [5,7])
def QG:AC:= (.block 1 (.ops [x7 20 5,s8 21 1 7,x7 22 21,f8 23 (.mkRow 3 1 1 [(.int .i64 0)] [(0,1,(zT 22))]),y2z 24 3 1 8 20 23,⟨none,none,.store 1 (zT 5) (zT 24)⟩] []))
def c87:p8:=⟨zS [z9z 1 24 0,z5z 2,z7 3 0] [1,2,3] (.seq (zS [z1z 8 2 1,I2 9 76 8,d8 4 9] [1,2,3,4] (zS [d8 10 4,p6 11 10 .neq (q9 0)] [1,2,3,4,11] (zC 11 (zS [d8 12 4,z5z 2,d8 3 12] [2,3] .ret) .skip))) (zS [s8 13 0 1,x7 14 13,f8 15 (.mkRow 3 1 1 [(.int .i64 0)] [(0,1,(zT 14))]),f8 5 (.alloc 57 [(1,(.slice none 0 0))]),⟨none,none,.store 1 (zT 5) (zT 15)⟩] [1,2,3,5] (.seq (zS [z1z 16 2 1,I2 17 122 16] [2,3,5,17] (.block 0 (.rangeF (zT 17) [18,19] [2,3,5] QF QG))) (zS [x7 25 5,d8 2 25,z7 3 0] [2,3] .ret)))),26,[(2,none),(3,none)],true⟩
def bD9:AC:= zS [p6 15 14 .lss (zT 13)] [3,12,13,14,15] (.seq (zC 15 .skip (.exit 0)) (.seq (.block 1 (zS [d8 16 14,z4z 17 2 12 14,z1z 18 2 17,f8 5 (.alloc 80 [(1,(.bool false)),(1,(.slice none 0 0))]),d8 4 16,⟨none,none,.store 2 (zT 5) (zT 18)⟩] [3,4,5,12,13,14] (zS [d8 19 3,d8 20 4,s8 21 1 5,x7 22 21,z6z 23 22,f8 24 (.mkSlice 82 4 24 [(.int .u8 0),(.bool false),(.int .i64 0),(.int .i64 0)] (zT 23) (zT 23)),z4z 25 2 19 20,s8 26 1 25,⟨none,none,.store 1 (zT 26) (zT 24)⟩] [3,4,5,12,13,14] (.draw [d8 27 3,d8 28 4,z4z 29 2 27 28,s8 30 1 29,x7 31 30,s8 32 1 5,x7 33 32] [f8 34 (.copy 4 (zT 31) (zT 33))] [[],[],[],[],[],[],[]] [3,12,13,14])))) (.ops [p6 35 14 .add (q9 1),d8 14 35] [3,12,13,14])))
def c88:p8:=⟨zS [z5z 2] [0] (zS [d8 6 0,z6z 7 6,f8 8 (.mkSlice 80 2 32 [(.bool false),(.slice none 0 0)] (zT 7) (zT 7)),d8 3 8] [0,3] (zS [d8 9 3,d8 10 0,f8 11 (.copy 2 (zT 9) (zT 10))] [0,3] (.seq (zS [d8 12 0,z6z 13 12,z7 14 0] [3,12,13,14] (.block 0 (.loop [3,12,13,14] bD9))) (zS [d8 36 3,d8 2 36] [2] .ret)))),37,[(2,none)],true⟩
def c89:p8:=⟨zS [z9z 1 80 0,z5z 2] [1] (.seq (zS [s8 3 0 1,x7 4 3] [1,4] (zC 4 (zS [s8 5 1 1,x7 6 5,I2 7 132 6,d8 2 7] [2] .ret) .skip)) (zS [f8 8 (.mkRow 82 4 0 [(.int .u8 0),(.bool false),(.int .i64 0),(.int .i64 0)] []),s8 9 1 1,x7 10 9,y2z 11 82 4 24 8 10,d8 2 11] [2] .ret)),12,[(2,none)],true⟩
def yW:AC:= zS [f8 18 (.nextS (zT 17)),H3 19 18 0] [1,4,17,18,19] (.seq (zC 19 .skip (.exit 0)) (.block 1 (zS [H3 20 18 2,d8 6 20] [1,4,6,17] (zS [d8 21 6] [1,4,17,21] (.block 2 (zS [f8 23 (.bin .eql (zT 21) (.const (.int .i32 100))),d8 22 23] [1,4,17,21,22] (zC 22 (zS [s8 24 1 1,x7 25 24] [1,4,17,25] (zC 25 (.ops [d8 26 4,f8 27 (.mkRow 9 1 1 [(.string ⟨#[]⟩)] [(0,1,(.const (.string ⟨#[43]⟩)))]),y2z 28 9 1 16 26 27,d8 4 28] [1,4,17]) (.ops [d8 29 4,f8 30 (.mkRow 9 1 1 [(.string ⟨#[]⟩)] [(0,1,(.const (.string ⟨#[45]⟩)))]),y2z 31 9 1 16 29 30,d8 4 31] [1,4,17]))) (zS [f8 33 (.bin .eql (zT 21) (.const (.int .i32 110))),d8 32 33] [1,4,17,21,32] (zC 32 (.ops [d8 34 4,s8 35 2 1,x7 36 35,s8 37 3 1,x7 38 37,f8 39 (.callF 135 [(zT 36),(zT 38)]),f8 40 (.mkRow 9 1 1 [(.string ⟨#[]⟩)] [(0,1,(zT 39))]),y2z 41 9 1 16 34 40,d8 4 41] [1,4,17]) (zS [f8 43 (.bin .eql (zT 21) (.const (.int .i32 111))),d8 42 43] [1,4,17,21,42] (zC 42 (.ops [d8 44 4,s8 45 2 1,x7 46 45,f8 47 (.bin .sub (E8 1) (zT 46)),s8 48 4 1,x7 49 48,f8 50 (.callF 135 [(zT 47),(zT 49)]),f8 51 (.mkRow 9 1 1 [(.string ⟨#[]⟩)] [(0,1,(zT 50))]),y2z 52 9 1 16 44 51,d8 4 52] [1,4,17]) (zS [f8 54 (.bin .eql (zT 21) (.const (.int .i32 99))),d8 53 54] [1,4,17,21,53] (zC 53 (.ops [d8 55 4,s8 56 5 1,x7 57 56,I2 58 42 57,f8 59 (.mkRow 9 1 1 [(.string ⟨#[]⟩)] [(0,1,(zT 58))]),y2z 60 9 1 16 55 59,d8 4 60] [1,4,17]) (zS [f8 62 (.bin .eql (zT 21) (.const (.int .i32 114))),d8 61 62] [1,4,17,61] (zC 61 (.ops [d8 63 4,s8 64 6 1,x7 65 64,I2 66 42 65,f8 67 (.mkRow 9 1 1 [(.string ⟨#[]⟩)] [(0,1,(zT 66))]),y2z 68 9 1 16 63 67,d8 4 68] [1,4,17]) .skip)))))))))))))))
def c91:p8:=⟨zS [z9z 1 54 0,f8 2 (.mov (.const (.string ⟨#[]⟩)))] [1] (.seq (.draw [f8 7 (.callF 134 []),s8 8 0 1,x7 9 8,z4z 10 2 7 9,z1z 11 2 10,f8 3 (.alloc 204 [(2,(.string ⟨#[]⟩))])] [⟨none,none,.store 2 (zT 3) (zT 11)⟩] [[],[false],[true,false],[],[],[false,false,false,false,false]] [1,3]) (zS [s8 12 0 3,x7 13 12,f8 14 (.mkRow 9 1 1 [(.string ⟨#[]⟩)] [(0,1,(zT 13))]),d8 4 14] [1,3,4] (.seq (zS [s8 15 1 3,x7 16 15,f8 17 (.rangeS (zT 16))] [1,4,17] (.block 0 (.loop [1,4,17] yW))) (zS [d8 69 4,f8 70 (.callF 136 [(zT 69),(.const (.string ⟨#[32]⟩))]),d8 2 70] [2] .ret)))),71,[(2,none)],true⟩
def c92:p8:=⟨zS [d8 2 0,f8 3 (.nilChk (zT 2)),s8 4 0 3,x7 5 4,f8 6 (.eqNil 0 false (zT 5) (.const (.pointer none)))] [0,6] (zC 6 (.ops [d8 7 0,d8 8 0,f8 9 (.toUns (zT 8)),I2 10 137 9,f8 11 (.fromUns 99 2 (zT 10)),f8 12 (.nilChk (zT 7)),s8 13 0 12,⟨none,none,.store 1 (zT 13) (zT 11)⟩] []) (zS [d8 14 0,f8 15 (.nilChk (zT 14)),s8 16 0 15,x7 17 16,d8 18 0,f8 19 (.eqPtr true (zT 17) (zT 18))] [19] (zC 19 (.bad) .skip))),20,[],false⟩
def c93:p8:=⟨zS [z9z 1 54 0,f8 2 (.mov (.const (.string ⟨#[]⟩)))] [1] (zS [s8 5 0 1,x7 6 5,I2 7 138 6,d8 3 7] [1,3] (zS [f8 4 (.mov (.const (.string ⟨#[32,45]⟩)))] [1,3,4] (.seq (zS [s8 8 1 1,x7 9 8] [1,3,4,9] (zC 9 (.ops [f8 4 (.mov (.const (.string ⟨#[32,43]⟩)))] [1,3,4]) .skip)) (.seq (zS [s8 10 0 1,x7 11 10] [1,3,4,11] (.block 0 (.seq (zS [p6 13 11 .eql (E8 1),d8 12 13] [1,3,4,11,12] (zC 12 .skip (.ops [p6 14 11 .eql (E8 2),d8 12 14] [1,3,4,11,12]))) (zC 12 (zS [d8 15 3,f8 16 (.bin .add (zT 15) (.const (.string ⟨#[32]⟩))),s8 17 5 1,x7 18 17,I2 19 94 18,p6 20 16 .add (zT 19),d8 2 20] [2] .ret) (.seq (zS [p6 22 11 .eql (E8 3),d8 21 22] [1,3,4,11,21] (zC 21 .skip (zS [p6 23 11 .eql (E8 4),d8 21 23] [1,3,4,11,21] (zC 21 .skip (.ops [p6 24 11 .eql (E8 5),d8 21 24] [1,3,4,11,21]))))) (zC 21 (.seq (.draw [d8 25 3,d8 26 4,p6 27 25 .add (zT 26),f8 28 (.bin .add (zT 27) (.const (.string ⟨#[32]⟩))),s8 29 2 1,x7 30 29,s8 31 3 1,x7 32 31,f8 33 (.callF 139 [(zT 30),(zT 32)]),p6 34 28 .add (zT 33),f8 35 (.bin .add (zT 34) (.const (.string ⟨#[32]⟩))),s8 36 5 1,x7 37 36,I2 38 94 37] [p6 39 35 .add (zT 38),d8 2 39] [[],[],[],[],[],[],[],[],[],[],[],[false,false,false,false,false,false,false,false,false,false,false],[true,false,false,false,false,false,false,false,false,false,false,false],[]] [2]) .ret) (zS [p6 41 11 .eql (E8 6),d8 40 41] [1,3,4,11,40] (zC 40 (.seq (.draw [d8 42 3,d8 43 4,p6 44 42 .add (zT 43),f8 45 (.bin .add (zT 44) (.const (.string ⟨#[32]⟩))),s8 46 2 1,x7 47 46,s8 48 3 1,x7 49 48,f8 50 (.callF 139 [(zT 47),(zT 49)]),p6 51 45 .add (zT 50),f8 52 (.bin .add (zT 51) (.const (.string ⟨#[32]⟩))),s8 53 2 1,x7 54 53,f8 55 (.bin .sub (E8 1) (zT 54)),s8 56 4 1,x7 57 56,f8 58 (.callF 139 [(zT 55),(zT 57)]),p6 59 52 .add (zT 58),f8 60 (.bin .add (zT 59) (.const (.string ⟨#[32]⟩))),s8 61 5 1,x7 62 61,
  I2 63 94 62] [p6 64 60 .add (zT 63),d8 2 64] [[],[],[],[],[],[],[],[],[],[],[],[false,false,false,false,false,false,false,false,false,false,false],[true,false,false,false,false,false,false,false,false,false,false,false],[true,true,false,false,false,false,false,false,false,false,false,false,false],[false,false,false,false,false,false,false,false,false,false,false,false,false,false],[true,false,false,false,false,false,false,false,false,false,false,false,false,false,false],[],[],[],[false,false,false,false,false,false,false,false,false,false,false,false,false,false,false,false,false,false,false],[true,false,false,false,false,false,false,false,false,false,false,false,false,false,false,false,false,false,false,false],[]] [2]) .ret) (zS [p6 66 11 .eql (E8 7),d8 65 66] [1,3,11,65] (zC 65 (.seq (.draw [d8 67 3,f8 68 (.bin .add (zT 67) (.const (.string ⟨#[32]⟩))),s8 69 2 1,x7 70 69,s8 71 3 1,x7 72 71,f8 73 (.callF 139 [(zT 70),(zT 72)]),p6 74 68 .add (zT 73),f8 75 (.bin .add (zT 74) (.const (.string ⟨#[32]⟩))),s8 76 2 1,x7 77 76,f8 78 (.bin .sub (E8 1) (zT 77)),s8 79 4 1,x7 80 79,f8 81 (.callF 139 [(zT 78),(zT 80)])] [p6 82 75 .add (zT 81),d8 2 82] [[],[],[],[],[],[],[],[],[],[false,false,false,false,false,false,false,false,false],[true,false,false,false,false,false,false,false,false,false],[true,true,false,false,false,false,false,false,false,false,false],[false,false,false,false,false,false,false,false,false,false,false,false],[true,false,false,false,false,false,false,false,false,false,false,false,false],[]] [2]) .ret) (zS [p6 84 11 .eql (E8 8),d8 83 84] [1,3,83] (zC 83 (zS [d8 85 3,f8 86 (.bin .add (zT 85) (.const (.string ⟨#[32]⟩))),s8 87 6 1,x7 88 87,I2 89 94 88,p6 90 86 .add (zT 89),d8 2 90] [2] .ret) .skip)))))))))))) (zS [d8 91 3,f8 92 (.bin .add (zT 91) (.const (.string ⟨#[32]⟩))),s8 93 2 1,x7 94 93,s8 95 3 1,x7 96 95,f8 97 (.callF 139 [(zT 94),(zT 96)]),p6 98 92 .add (zT 97),d8 2 98] [2] .ret))))),99,[(2,none)],true⟩
def c94:p8:=⟨zS [f8 2 (.mov (.const (.string ⟨#[]⟩)))] [0] (.seq (zS [d8 3 0,p6 4 3 .lss (q9 0)] [0,4] (zC 4 (zS [d8 5 0,f8 6 (.un .neg (zT 5)),I2 7 140 6,f8 8 (.bin .add (.const (.string ⟨#[45]⟩)) (zT 7)),d8 2 8] [2] .ret) .skip)) (zS [d8 9 0,I2 10 140 9,d8 2 10] [2] .ret)),11,[(2,none)],true⟩
def c98:p8:=⟨zS [f8 4 (.mov (.const (.string ⟨#[]⟩))),f8 5 (.mov (.const (.string ⟨#[]⟩))),f8 6 (.mov zf)] [0,1] (.seq (zS [d8 8 0,d8 9 1,f8 10 (.callF 141 [(zT 8),(zT 9)]),d8 7 10] [0,1,7] (zS [d8 11 7,p6 12 11 .geq (q9 0)] [0,1,7,12] (zC 12 (.seq (.draw [d8 13 0,d8 14 7,f8 15 (.slcS (zT 13) none (some (zT 14))),d8 16 0,d8 17 7,d8 18 1,y3z 19 18,p6 20 17 .add (zT 19),f8 21 (.slcS (zT 16) (some (zT 20)) none),d8 4 15] [d8 5 21,f8 6 (.mov zt)] [[],[],[],[],[],[],[],[],[],[]] [4,5,6]) .ret) .skip))) (zS [d8 22 0,d8 4 22,f8 5 (.mov (.const (.string ⟨#[]⟩))),f8 6 (.mov zf)] [4,5,6] .ret)),23,[(4,none),(5,none),(6,none)],true⟩
def c99:p8:=⟨zS [f8 4 (.mov (.const (.string ⟨#[]⟩))),f8 5 (.mov zf)] [0,1] (zS [d8 6 0,d8 7 1,f8 8 (.callF 142 [(zT 6),(zT 7)]),H3 9 8 0,H3 10 8 1,d8 4 9,d8 5 10] [4,5] .ret),11,[(4,none),(5,none)],true⟩
def kI:AC:= zS [f8 33 (.nextS (zT 32)),H3 34 33 0] [0,2,5,8,32,33,34] (.seq (zC 34 .skip (.exit 0)) (.block 1 (zS [H3 35 33 2,d8 10 35] [0,2,5,8,10,32] (zS [f8 11 (.mov (.const (.string ⟨#[]⟩)))] [0,2,5,8,10,32] (zS [d8 37 5,f8 38 (.callF 49 [(zT 37),(.const (.string ⟨#[32]⟩))]),d8 36 38,H3 39 36 0,H3 40 36 1,H3 41 36 2,d8 11 39,d8 5 40] [0,2,5,8,10,11,32] (zS [d8 42 10] [0,2,5,8,11,32,42] (.block 2 (zS [f8 44 (.bin .eql (zT 42) (.const (.int .i32 100))),d8 43 44] [0,2,5,8,11,32,42,43] (zC 43 (.ops [d8 45 11,f8 46 (.bin .eql (zT 45) (.const (.string ⟨#[43]⟩))),s8 47 1 8,⟨none,none,.store 1 (zT 47) (zT 46)⟩] [0,2,5,8,32]) (zS [f8 49 (.bin .eql (zT 42) (.const (.int .i32 110))),d8 48 49] [0,2,5,8,11,32,42,48] (zC 48 (.ops [d8 51 11,I2 52 147 51,d8 50 52,H3 53 50 0,H3 54 50 1,s8 55 2 8,⟨none,none,.store 1 (zT 55) (zT 53)⟩,s8 56 3 8,⟨none,none,.store 1 (zT 56) (zT 54)⟩] [0,2,5,8,32]) (zS [f8 58 (.bin .eql (zT 42) (.const (.int .i32 111))),d8 57 58] [0,2,5,8,11,32,42,57] (zC 57 (.ops [d8 60 11,I2 61 147 60,d8 59 61,H3 62 59 0,H3 63 59 1,s8 64 4 8,⟨none,none,.store 1 (zT 64) (zT 63)⟩] [0,2,5,8,32]) (zS [f8 66 (.bin .eql (zT 42) (.const (.int .i32 99))),d8 65 66] [0,2,5,8,11,32,42,65] (zC 65 (.ops [d8 68 11,I2 69 100 68,d8 67 69,H3 70 67 0,H3 71 67 1,s8 72 5 8,⟨none,none,.store 1 (zT 72) (zT 70)⟩] [0,2,5,8,32]) (zS [f8 74 (.bin .eql (zT 42) (.const (.int .i32 114))),d8 73 74] [0,2,5,8,11,32,73] (zC 73 (.ops [d8 76 11,I2 77 100 76,d8 75 77,H3 78 75 0,H3 79 75 1,s8 80 6 8,⟨none,none,.store 1 (zT 80) (zT 78)⟩] [0,2,5,8,32]) .skip)))))))))))))))))
def bC9:p8:=⟨zS [f8 2 (.alloc 54 [(1,(.int .u8 0)),(1,(.bool false)),(1,(.int .u8 0)),(4,(.int .i64 0))]),z7 3 0] [0,2] (zS [d8 13 0,f8 14 (.callF 49 [(zT 13),(.const (.string ⟨#[32]⟩))]),d8 12 14,H3 15 12 0,H3 16 12 1,H3 17 12 2,f8 4 (.alloc 9 [(1,(.string ⟨#[]⟩))]),⟨none,none,.store 1 (zT 4) (zT 15)⟩,d8 5 16,d8 6 17] [0,2,4,5] (zS [f8 18 (.callF 134 []),f8 19 (.mkFn 146 [] [.tmp 4]),f8 20 (.callF 145 [(zT 18),(zT 19)]),d8 7 20] [0,2,5,7] (.seq (zS [d8 21 7,p6 22 21 .lss (q9 1)] [0,2,5,7,22] (zC 22 (zS [f8 23 (.build [(.int .u8 0),(.bool false),(.int .u8 0),(.int .i64 0),(.int .i64 0),(.int .i64 0),(.int .i64 0)] []),⟨none,none,.store 7 (zT 2) (zT 23)⟩,z7 3 12] [2,3] .ret) .skip)) (zS [d8 24 7,f8 25 (.convI .u8 (zT 24)),f8 26 (.build [(.int .u8 0),(.bool false),(.int .u8 0),(.int .i64 0),(.int .i64 0),(.int .i64 0),(.int .i64 0)] [(0,1,(zT 25))]),f8 8 (.alloc 54 [(1,(.int .u8 0)),(1,(.bool false)),(1,(.int .u8 0)),(4,(.int .i64 0))]),⟨none,none,.store 7 (zT 8) (zT 26)⟩] [0,2,5,7,8] (.seq (zS [f8 27 (.callF 134 []),d8 28 7,z4z 29 2 27 28,s8 30 1 29,x7 31 30,f8 32 (.rangeS (zT 31))] [0,2,5,8,32] (.block 0 (.loop [0,2,5,8,32] kI))) (.seq (zS [z1z 81 7 8,I2 82 63 81,p6 83 82 .neq (q9 0),d8 84 83,D5 85 84 (.load (some 7) (zT 8)),D5 86 84 (.callF 91 [.tmp 85]),z8z 87 84 0,D5 88 84 (.bin .neq (zT 86) (zT 87)),z3z 89 84 88] [2,8,89] (zC 89 (zS [f8 90 (.build [(.int .u8 0),(.bool false),(.int .u8 0),(.int .i64 0),(.int .i64 0),(.int .i64 0),(.int .i64 0)] []),⟨none,none,.store 7 (zT 2) (zT 90)⟩,z7 3 12] [2,3] .ret) .skip)) (zS [z1z 91 7 8,⟨none,none,.store 7 (zT 2) (zT 91)⟩,z7 3 0] [2,3] .ret))))))),92,[(2,(some (some 7))),(3,none)],true⟩
def yU:AC:= .seq (zS [d8 16 6,p6 17 16 .lss (E8 10)] [0,2,4,5,6,17] (zC 17 .skip (.exit 0))) (.seq (.block 1 (.seq (.draw [d8 20 6,I2 21 138 20,d8 22 4,f8 23 (.idxS 1 (zT 22) (q9 0)),x7 24 23] [p6 25 21 .eql (zT 24)] [[],[],[false,false],[true,false,false],[true,true,false,false]] [0,2,4,5,6,25]) (zC 25 (.ops [d8 26 6,s8 27 0 5,⟨none,none,.store 1 (zT 27) (zT 26)⟩] [0,2,4,5,6]) .skip))) (.ops [d8 18 6,p6 19 18 .add (E8 1),d8 6 19] [0,2,4,5,6]))
def R1:p8:=⟨zS [f8 2 (.alloc 54 [(1,(.int .u8 0)),(1,(.bool false)),(1,(.int .u8 0)),(4,(.int .i64 0))]),z7 3 0] [0,2] (.seq (zS [d8 10 0,y3z 11 10,p6 12 11 .gtr (q9 40)] [0,2,12] (zC 12 (zS [f8 13 (.build [(.int .u8 0),(.bool false),(.int .u8 0),(.int .i64 0),(.int .i64 0),(.int .i64 0),(.int .i64 0)] []),⟨none,none,.store 7 (zT 2) (zT 13)⟩,z7 3 12] [2,3] .ret) .skip)) (zS [d8 14 0,f8 15 (.callF 51 [(zT 14),(E8 32)]),d8 4 15] [0,2,4] (zS [f8 5 (.alloc 54 [(1,(.int .u8 0)),(1,(.bool false)),(1,(.int .u8 0)),(4,(.int .i64 0))])] [0,2,4,5] (.seq (zS [f8 6 (.mov (E8 1))] [0,2,4,5,6] (.block 0 (.loop [0,2,4,5,6] yU))) (zS [z7 7 1] [0,2,4,5,7] (.seq (zS [s8 28 0 5,x7 29 28,p6 30 29 .geq (E8 3),d8 31 30,y1z 32 31 0 5,y0z 33 31 32,v6 34 31 (.bin .leq (zT 33) (E8 6)),z2z 35 31 34,d8 36 35,z7z 37 36 4,v6 38 36 (.len false (zT 37)),v6 39 36 (.bin .gtr (zT 38) (q9 1)),z2z 40 36 39] [0,2,4,5,7,40] (zC 40 (zS [d8 41 4,f8 42 (.idxS 1 (zT 41) (q9 1)),x7 43 42,f8 44 (.bin .eql (zT 43) (.const (.string ⟨#[43]⟩))),s8 45 1 5,⟨none,none,.store 1 (zT 45) (zT 44)⟩] [0,2,4,5] (.ops [z7 7 2] [0,2,4,5,7])) .skip)) (.seq (zS [s8 46 0 5,x7 47 46,p6 48 47 .geq (E8 3),d8 49 48,y1z 50 49 0 5,y0z 51 49 50,v6 52 49 (.bin .neq (zT 51) (E8 8)),z2z 53 49 52,d8 54 53,z7z 55 54 4,v6 56 54 (.len false (zT 55)),z7z 57 54 7,v6 58 54 (.bin .gtr (zT 56) (zT 57)),z2z 59 54 58] [0,2,4,5,7,59] (zC 59 (zS [d8 61 4,d8 62 7,z4z 63 1 61 62,x7 64 63,I2 65 148 64,d8 60 65,H3 66 60 0,H3 67 60 1,H3 68 60 2,s8 69 2 5,⟨none,none,.store 1 (zT 69) (zT 66)⟩,s8 70 3 5,⟨none,none,.store 1 (zT 70) (zT 67)⟩] [0,2,4,5,7] (.ops [d8 71 7,p6 72 71 .add (q9 1),
  d8 7 72] [0,2,4,5,7])) .skip)) (.seq (zS [s8 73 0 5,x7 74 73,p6 75 74 .eql (E8 6),d8 76 75,D5 77 76 (.fldA 0 (zT 5)),D5 78 76 (.load none (zT 77)),D5 79 76 (.bin .eql (zT 78) (E8 7)),z3z 80 76 79,d8 81 80,z7z 82 81 4,v6 83 81 (.len false (zT 82)),z7z 84 81 7,v6 85 81 (.bin .gtr (zT 83) (zT 84)),z2z 86 81 85] [0,2,4,5,7,86] (zC 86 (zS [d8 88 4,d8 89 7,z4z 90 1 88 89,x7 91 90,I2 92 148 91,d8 87 92,H3 93 87 0,H3 94 87 1,H3 95 87 2,s8 96 4 5,⟨none,none,.store 1 (zT 96) (zT 94)⟩] [0,2,4,5,7] (.ops [d8 97 7,p6 98 97 .add (q9 1),d8 7 98] [0,2,4,5,7])) .skip)) (.seq (zS [s8 99 0 5,x7 100 99,p6 101 100 .neq (E8 7),d8 102 101,y1z 103 102 0 5,y0z 104 102 103,v6 105 102 (.bin .neq (zT 104) (E8 9)),z2z 106 102 105,d8 107 106,z7z 108 107 4,v6 109 107 (.len false (zT 108)),z7z 110 107 7,v6 111 107 (.bin .gtr (zT 109) (zT 110)),z2z 112 107 111] [0,2,4,5,7,112] (zC 112 (zS [d8 114 4,d8 115 7,z4z 116 1 114 115,x7 117 116,I2 118 149 117,d8 113 118,H3 119 113 0,H3 120 113 1,d8 8 119,d8 9 120] [0,2,5,8] (zS [s8 121 0 5,x7 122 121,p6 123 122 .eql (E8 8)] [0,2,5,8,123] (zC 123 (.ops [d8 124 8,s8 125 6 5,⟨none,none,.store 1 (zT 125) (zT 124)⟩] [0,2,5]) (.ops [d8 126 8,s8 127 5 5,⟨none,none,.store 1 (zT 127) (zT 126)⟩] [0,2,5])))) .skip)) (.seq (zS [z1z 128 7 5,I2 129 25 128,p6 130 129 .neq (q9 0),d8 131 130,D5 132 131 (.load (some 7) (zT 5)),D5 133 131 (.callF 93 [.tmp 132]),z8z 134 131 0,D5 135 131 (.bin .neq (zT 133) (zT 134)),z3z 136 131 135] [2,5,136] (zC 136 (zS [f8 137 (.build [(.int .u8 0),(.bool false),(.int .u8 0),(.int .i64 0),(.int .i64 0),(.int .i64 0),(.int .i64 0)] []),
  ⟨none,none,.store 7 (zT 2) (zT 137)⟩,z7 3 12] [2,3] .ret) .skip)) (zS [z1z 138 7 5,⟨none,none,.store 7 (zT 2) (zT 138)⟩,z7 3 0] [2,3] .ret))))))))))),139,[(2,(some (some 7))),(3,none)],true⟩
def cP4:p8:=⟨zS [f8 2 (.mov zf)] [0] (zS [d8 3 0,f8 4 (.bin .geq (zT 3) (q9 (-100))),d8 5 4,z7z 6 5 0,v6 7 5 (.bin .leq (zT 6) (q9 100)),z2z 8 5 7,d8 2 8] [2] .ret),9,[(2,none)],true⟩
def dA8:p8:=⟨zS [z9z 1 24 0,f8 2 (.mov (.const .nilFunc))] [1] (zS [f8 3 (.mkFn 160 [] [.tmp 1]),d8 2 3] [2] .ret),4,[(2,none)],true⟩
def bD0:p8:=⟨zS [f8 4 (.mov zf)] [0,1] (zS [d8 5 0,d8 6 1,f8 7 (.callF 163 [(zT 5),(zT 6)]),p6 8 7 .geq (q9 0),d8 4 8] [4] .ret),9,[(4,none)],true⟩
def bZ0:p8:=⟨zS [z9z 1 82 0,f8 2 (.mov zf)] [1] (zS [s8 3 0 1,x7 4 3,p6 5 4 .neq (E8 1),d8 6 5,y1z 7 6 0 1,y0z 8 6 7,v6 9 6 (.bin .neq (zT 8) (E8 8)),z2z 10 6 9,d8 2 10] [2] .ret),11,[(2,none)],true⟩
def cP5:p8:=⟨zS [z7 2 0,z7 3 0] [0] (.seq (zS [d8 6 0,I2 7 164 6,p6 8 7 .neq (q9 0)] [0,8] (zC 8 (zS [d8 9 0,I2 10 164 9,z7 2 0,d8 3 10] [2,3] .ret) .skip)) (zS [d8 12 0,I2 13 165 12,d8 11 13,H3 14 11 0,H3 15 11 1,d8 4 14,d8 5 15] [4] (zS [d8 16 4,d8 2 16,z7 3 0] [2,3] .ret))),17,[(2,none),(3,none)],true⟩
def cP6:p8:=⟨zS [z7 2 0,z7 3 0] [0] (.seq (zS [d8 6 0,I2 7 164 6,p6 8 7 .neq (q9 0)] [0,8] (zC 8 (zS [d8 9 0,I2 10 164 9,z7 2 0,d8 3 10] [2,3] .ret) .skip)) (zS [d8 12 0,I2 13 165 12,d8 11 13,H3 14 11 0,H3 15 11 1,d8 4 14,d8 5 15] [5] (zS [d8 16 5,d8 2 16,z7 3 0] [2,3] .ret))),17,[(2,none),(3,none)],true⟩
def aR3:p8:=⟨zS [z7 2 0] [0] (.seq (zS [d8 5 0,z6z 6 5,p6 7 6 .gtr (q9 200)] [0,7] (zC 7 (zS [z7 2 4] [2] .ret) .skip)) (.seq (zS [d8 8 0,f8 9 (.callF 123 [(zT 8),(.func 166)])] [0,9] (zC 9 (zS [z7 2 8] [2] .ret) .skip)) (.seq (zS [d8 11 0,I2 12 168 11,d8 10 12,H3 13 10 0,H3 14 10 1,d8 3 13,d8 4 14] [3,4] (zS [d8 15 3,d8 16 4,f8 17 (.mm true (zT 15) (zT 16)),p6 18 17 .gtr (q9 200)] [18] (zC 18 (zS [z7 2 4] [2] .ret) .skip))) (zS [z7 2 0] [2] .ret)))),19,[(2,none)],true⟩
def dA9:p8:=⟨zS [z9z 1 76 0,f8 2 (.mov (.const .nilFunc))] [1] (zS [f8 3 (.mkFn 169 [] [.tmp 1]),d8 2 3] [2] .ret),4,[(2,none)],false⟩
def cP7:p8:=⟨zS [f8 2 (.alloc 197 [(1,(.string ⟨#[]⟩)),(4,(.int .i64 0)),(1,(.bool false)),(2,(.int .i64 0))]),f8 3 (.mov zf)] [0,2] (zS [f8 8 (.build [(.int .i64 0),(.int .i64 0)] [(0,1,(q9 2)),(1,1,(q9 4))]),f8 9 (.build [(.int .i64 0),(.int .i64 0)] [(0,1,(q9 1)),(1,1,(q9 6))]),f8 4 (.alloc 195 [(2,(.int .i64 0))]),f8 5 (.alloc 195 [(2,(.int .i64 0))]),⟨none,none,.store 2 (zT 4) (zT 8)⟩,⟨none,none,.store 2 (zT 5) (zT 9)⟩] [0,2,4,5] (zS [f8 10 (.build [(.int .i64 0),(.int .i64 0)] [(0,1,(q9 1)),(1,1,(q9 200))]),f8 6 (.alloc 195 [(2,(.int .i64 0))]),⟨none,none,.store 2 (zT 6) (zT 10)⟩] [0,2,4,5,6] (zS [f8 11 (.build [(.int .i64 0),(.int .i64 0)] []),f8 12 (.build [(.int .i64 0),(.int .i64 0)] []),f8 13 (.build [(.string ⟨#[]⟩),(.int .i64 0),(.int .i64 0),(.int .i64 0),(.int .i64 0),(.bool false),(.int .i64 0),(.int .i64 0)] [(0,1,(.const (.string ⟨#[]⟩))),(1,2,(zT 11)),(3,2,(zT 12)),(5,1,zt),(6,1,(q9 1)),(7,1,(q9 1))]),f8 14 (.build [(.int .i64 0),(.int .i64 0)] []),f8 15 (.build [(.int .i64 0),(.int .i64 0)] []),f8 16 (.build [(.string ⟨#[]⟩),(.int .i64 0),(.int .i64 0),(.int .i64 0),(.int .i64 0),(.bool false),(.int .i64 0),(.int .i64 0)] [(0,1,(.const (.string ⟨#[]⟩))),(1,2,(zT 14)),(3,2,(zT 15)),(5,1,zf),(6,1,(q9 0)),(7,1,(q9 1))]),z1z 17 2 4,f8 18 (.build [(.int .i64 0),(.int .i64 0)] []),f8 19 (.build [(.string ⟨#[]⟩),(.int .i64 0),(.int .i64 0),(.int .i64 0),(.int .i64 0),(.bool false),(.int .i64 0),(.int .i64 0)] [(0,1,(.const (.string ⟨#[102]⟩))),(1,2,(zT 17)),(3,2,(zT 18)),(5,1,zt),(6,1,(q9 2)),(7,1,(q9 1))]),z1z 20 2 4,f8 21 (.build [(.int .i64 0),(.int .i64 0)] []),f8 22 (.build [(.string ⟨#[]⟩),(.int .i64 0),(.int .i64 0),(.int .i64 0),(.int .i64 0),(.bool false),(.int .i64 0),(.int .i64 0)] [(0,1,(.const (.string ⟨#[108]⟩))),(1,2,(zT 20)),(3,2,(zT 21)),(5,1,zt),(6,1,(q9 2)),(7,1,(q9 1))]),z1z 23 2 4,f8 24 (.build [(.int .i64 0),(.int .i64 0)] []),f8 25 (.build [(.string ⟨#[]⟩),(.int .i64 0),(.int .i64 0),(.int .i64 0),(.int .i64 0),(.bool false),(.int .i64 0),(.int .i64 0)] [(0,1,(.const (.string ⟨#[109]⟩))),(1,2,(zT 23)),(3,2,(zT 24)),(5,1,zt),(6,1,(q9 1)),(7,1,(q9 2))]),z1z 26 2 5,z1z 27 2 5,f8 28 (.build [(.string ⟨#[]⟩),(.int .i64 0),(.int .i64 0),(.int .i64 0),(.int .i64 0),(.bool false),(.int .i64 0),(.int .i64 0)] [(0,1,(.const (.string ⟨#[120]⟩))),(1,2,(zT 26)),(3,2,(zT 27)),(5,1,zt),(6,1,(q9 3)),(7,1,(q9 3))]),z1z 29 2 5,
  z1z 30 2 5,f8 31 (.build [(.string ⟨#[]⟩),(.int .i64 0),(.int .i64 0),(.int .i64 0),(.int .i64 0),(.bool false),(.int .i64 0),(.int .i64 0)] [(0,1,(.const (.string ⟨#[121]⟩))),(1,2,(zT 29)),(3,2,(zT 30)),(5,1,zt),(6,1,(q9 3)),(7,1,(q9 3))]),f8 32 (.build [(.int .i64 0),(.int .i64 0)] []),f8 33 (.build [(.int .i64 0),(.int .i64 0)] []),f8 34 (.build [(.string ⟨#[]⟩),(.int .i64 0),(.int .i64 0),(.int .i64 0),(.int .i64 0),(.bool false),(.int .i64 0),(.int .i64 0)] [(0,1,(.const (.string ⟨#[115]⟩))),(1,2,(zT 32)),(3,2,(zT 33)),(5,1,zt),(6,1,(q9 1)),(7,1,(q9 1))]),z1z 35 2 6,f8 36 (.build [(.int .i64 0),(.int .i64 0)] []),f8 37 (.build [(.string ⟨#[]⟩),(.int .i64 0),(.int .i64 0),(.int .i64 0),(.int .i64 0),(.bool false),(.int .i64 0),(.int .i64 0)] [(0,1,(.const (.string ⟨#[]⟩))),(1,2,(zT 35)),(3,2,(zT 36)),(5,1,zf),(6,1,(q9 0)),(7,1,(q9 2))]),z1z 38 2 6,f8 39 (.build [(.int .i64 0),(.int .i64 0)] []),f8 40 (.build [(.string ⟨#[]⟩),(.int .i64 0),(.int .i64 0),(.int .i64 0),(.int .i64 0),(.bool false),(.int .i64 0),(.int .i64 0)] [(0,1,(.const (.string ⟨#[111]⟩))),(1,2,(zT 38)),(3,2,(zT 39)),(5,1,zt),(6,1,(q9 2)),(7,1,(q9 0))]),f8 41 (.mkRow 197 8 10 [(.string ⟨#[]⟩),(.int .i64 0),(.int .i64 0),(.int .i64 0),(.int .i64 0),(.bool false),(.int .i64 0),(.int .i64 0)] [(0,8,(zT 13)),(8,8,(zT 16)),(16,8,(zT 19)),(24,8,(zT 22)),(32,8,(zT 25)),(40,8,(zT 28)),(48,8,(zT 31)),(56,8,(zT 34)),(64,8,(zT 37)),(72,8,(zT 40))]),d8 7 41] [0,2,7] (.seq (zS [d8 42 0,p6 43 42 .lss (E8 1),d8 44 43,z8z 45 44 0,D5 46 44 (.convI .i64 (zT 45)),z8z 47 44 7,D5 48 44 (.len false (zT 47)),D5 49 44 (.bin .gtr (zT 46) (zT 48)),z3z 50 44 49] [0,2,7,50] (zC 50 (zS [f8 51 (.build [(.string ⟨#[]⟩),(.int .i64 0),(.int .i64 0),(.int .i64 0),(.int .i64 0),(.bool false),(.int .i64 0),(.int .i64 0)] []),⟨none,none,.store 8 (zT 2) (zT 51)⟩,f8 3 (.mov zf)] [2,3] .ret) .skip)) (zS [d8 52 7,d8 53 0,p6 54 53 .sub (E8 1),z4z 55 8 52 54,z1z 56 8 55,⟨none,none,.store 8 (zT 2) (zT 56)⟩,f8 3 (.mov zt)] [2,3] .ret))))),57,[(2,(some (some 8))),(3,none)],true⟩
def LR:AC:= zS [p6 9 8 .lss (zT 7)] [0,1,7,8,9] (.seq (zC 9 .skip (.exit 0)) (.seq (.block 1 (zS [d8 10 8,d8 5 10] [0,1,5,7,8] (zS [d8 11 1,d8 12 0,d8 13 5,z4z 14 9 12 13,z1z 15 9 14,f8 16 (.callV (zT 11) [.tmp 15])] [0,1,5,7,8,16] (zC 16 (zS [d8 17 5,d8 4 17] [4] .ret) .skip)))) (.ops [p6 18 8 .add (q9 1),d8 8 18] [0,1,7,8])))
def dB0:p8:=⟨zS [z7 4 0] [0,1] (.seq (zS [d8 6 0,z6z 7 6,z7 8 0] [0,1,7,8] (.block 0 (.loop [0,1,7,8] LR))) (zS [f8 4 (.mov (q9 (-1)))] [4] .ret)),19,[(4,none)],true⟩
def YS:AC:= .seq (zS [d8 8 4,p6 9 8 .geq (q9 0)] [0,3,4,9] (zC 9 .skip (.exit 0))) (.seq (.block 1 (.ops [d8 12 3,d8 13 0,d8 14 4,z4z 15 4 13 14,z1z 16 4 15,I2 17 172 16,f8 18 (.mkRow 82 4 1 [(.int .u8 0),(.bool false),(.int .i64 0),(.int .i64 0)] [(0,4,(zT 17))]),y2z 19 82 4 24 12 18,d8 3 19] [0,3,4])) (.ops [d8 10 4,p6 11 10 .sub (q9 1),d8 4 11] [0,3,4]))
def dB1:p8:=⟨zS [z5z 2] [0] (zS [z5z 3] [0,3] (.seq (zS [d8 5 0,z6z 6 5,p6 7 6 .sub (q9 1),d8 4 7] [0,3,4] (.block 0 (.loop [0,3,4] YS))) (zS [d8 20 3,d8 2 20] [2] .ret))),21,[(2,none)],true⟩
def cP8:p8:=⟨zS [z5z 0] [] (zS [f8 1 (.build [(.string ⟨#[]⟩),(.string ⟨#[]⟩)] [(0,1,(.const (.string ⟨#[]⟩))),(1,1,(.const (.string ⟨#[]⟩)))]),f8 2 (.build [(.string ⟨#[]⟩),(.string ⟨#[]⟩)] [(0,1,(.const (.string ⟨#[105,110]⟩))),(1,1,(.const (.string ⟨#[99]⟩)))]),f8 3 (.build [(.string ⟨#[]⟩),(.string ⟨#[]⟩)] [(0,1,(.const (.string ⟨#[111,117,116]⟩))),(1,1,(.const (.string ⟨#[99]⟩)))]),f8 4 (.build [(.string ⟨#[]⟩),(.string ⟨#[]⟩)] [(0,1,(.const (.string ⟨#[107,110,105,116]⟩))),(1,1,(.const (.string ⟨#[100,110,99]⟩)))]),f8 5 (.build [(.string ⟨#[]⟩),(.string ⟨#[]⟩)] [(0,1,(.const (.string ⟨#[116,117,99,107]⟩))),(1,1,(.const (.string ⟨#[100,110,99]⟩)))]),f8 6 (.build [(.string ⟨#[]⟩),(.string ⟨#[]⟩)] [(0,1,(.const (.string ⟨#[109,105,115,115]⟩))),(1,1,(.const (.string ⟨#[100,110,99]⟩)))]),f8 7 (.build [(.string ⟨#[]⟩),(.string ⟨#[]⟩)] [(0,1,(.const (.string ⟨#[115,112,108,105,116]⟩))),(1,1,(.const (.string ⟨#[100,110,111,99]⟩)))]),f8 8 (.build [(.string ⟨#[]⟩),(.string ⟨#[]⟩)] [(0,1,(.const (.string ⟨#[120,102,101,114]⟩))),(1,1,(.const (.string ⟨#[110,111]⟩)))]),f8 9 (.build [(.string ⟨#[]⟩),(.string ⟨#[]⟩)] [(0,1,(.const (.string ⟨#[114,97,99,107]⟩))),(1,1,(.const (.string ⟨#[114]⟩)))]),f8 10 (.build [(.string ⟨#[]⟩),(.string ⟨#[]⟩)] [(0,1,(.const (.string ⟨#[100,114,111,112]⟩))),(1,1,(.const (.string ⟨#[110]⟩)))]),f8 11 (.mkRow 204 2 10 [(.string ⟨#[]⟩),(.string ⟨#[]⟩)] [(0,2,(zT 1)),(2,2,(zT 2)),(4,2,(zT 3)),(6,2,(zT 4)),(8,2,(zT 5)),(10,2,(zT 6)),(12,2,(zT 7)),(14,2,(zT 8)),(16,2,(zT 9)),(18,2,(zT 10))]),d8 0 11] [0] .ret),12,[(0,none)],true⟩
def dB2:p8:=⟨zS [f8 4 (.mov (.const (.string ⟨#[]⟩)))] [0,1] (.seq (.draw [d8 5 0,d8 6 0,p6 7 6 .add (E8 1),f8 8 (.slcS (.const (.string ⟨#[102,98]⟩)) (some (zT 5)) (some (zT 7))),d8 9 1,I2 10 42 9] [p6 11 8 .add (zT 10),d8 4 11] [[],[],[],[],[],[]] [4]) .ret),12,[(4,none)],true⟩
def dB3:p8:=⟨zS [f8 2 (.mov (.const (.string ⟨#[]⟩)))] [0] (zS [f8 4 (.mkRow 9 1 10 [(.string ⟨#[]⟩)] [(0,1,(.const (.string ⟨#[]⟩))),(1,1,(.const (.string ⟨#[105,110]⟩))),(2,1,(.const (.string ⟨#[111,117,116]⟩))),(3,1,(.const (.string ⟨#[107,110,105,116]⟩))),(4,1,(.const (.string ⟨#[116,117,99,107]⟩))),(5,1,(.const (.string ⟨#[109,105,115,115]⟩))),(6,1,(.const (.string ⟨#[115,112,108,105,116]⟩))),(7,1,(.const (.string ⟨#[120,102,101,114]⟩))),(8,1,(.const (.string ⟨#[114,97,99,107]⟩))),(9,1,(.const (.string ⟨#[100,114,111,112]⟩)))]),d8 3 4] [0,3] (.seq (zS [d8 5 0,f8 6 (.convI .i64 (zT 5)),d8 7 3,z6z 8 7,p6 9 6 .lss (zT 8)] [0,3,9] (zC 9 (zS [d8 10 3,d8 11 0,z4z 12 1 10 11,x7 13 12,d8 2 13] [2] .ret) .skip)) (zS [f8 2 (.mov (.const (.string ⟨#[]⟩)))] [2] .ret))),14,[(2,none)],true⟩
def cP9:p8:=⟨zS [f8 4 (.mov (.const (.string ⟨#[]⟩)))] [0,1] (.seq (zS [d8 5 0,p6 6 5 .eql (E8 1)] [1,6] (zC 6 (zS [d8 7 1,I2 8 94 7,f8 9 (.bin .add (.const (.string ⟨#[98]⟩)) (zT 8)),d8 4 9] [4] .ret) .skip)) (zS [d8 10 1,I2 11 94 10,f8 12 (.bin .add (.const (.string ⟨#[102]⟩)) (zT 11)),d8 4 12] [4] .ret)),13,[(4,none)],true⟩
def YT:AC:= .seq (zS [d8 12 0,p6 13 12 .gtr (q9 0)] [0,3,13] (zC 13 .skip (.exit 0))) (.seq (.block 1 (.ops [d8 16 0,p6 17 16 .rem (q9 10),f8 18 (.bin .add (q9 48) (zT 17)),f8 19 (.convI .u8 (zT 18)),f8 20 (.mkRow 5 1 1 [(.int .u8 0)] [(0,1,(zT 19))]),f8 21 (.b2s (zT 20)),d8 22 3,p6 23 21 .add (zT 22),d8 3 23] [0,3])) (.ops [d8 14 0,p6 15 14 .quo (q9 10),d8 0 15] [0,3]))
def dB4:p8:=⟨zS [f8 2 (.mov (.const (.string ⟨#[]⟩)))] [0] (zS [d8 4 0,p6 5 4 .rem (q9 10),f8 6 (.bin .add (q9 48) (zT 5)),f8 7 (.convI .u8 (zT 6)),f8 8 (.mkRow 5 1 1 [(.int .u8 0)] [(0,1,(zT 7))]),f8 9 (.b2s (zT 8)),d8 3 9] [0,3] (.seq (zS [d8 10 0,p6 11 10 .quo (q9 10),d8 0 11] [0,3] (.block 0 (.loop [0,3] YT))) (zS [d8 24 3,d8 2 24] [2] .ret))),25,[(2,none)],true⟩
def cQ1:AC:= .seq (zS [d8 57 8,d8 58 9,p6 59 57 .lss (zT 58)] [0,1,5,6,7,8,9,10,59] (zC 59 .skip (.exit 1))) (.block 2 (.seq (zS [d8 60 0,d8 61 8,f8 62 (.idxStr (zT 60) (zT 61)),d8 63 6,p6 64 62 .neq (zT 63)] [0,1,5,6,7,8,9,10,64] (zC 64 (zS [d8 65 0,d8 66 8,p6 67 66 .add (q9 1),d8 68 9,f8 69 (.slcS (zT 65) (some (zT 67)) (some (zT 68))),d8 70 6,f8 71 (.callF 178 [(zT 69),(zT 70)]),d8 11 71] [0,1,5,6,7,8,9,10,11] (.seq (zS [d8 72 11,p6 73 72 .lss (q9 0)] [0,1,5,6,7,8,9,10,11,73] (zC 73 (zS [f8 4 (.mov (q9 (-1)))] [4] .ret) .skip)) (.ops [d8 74 8,d8 75 11,p6 76 75 .add (q9 1),p6 77 74 .add (zT 76),d8 8 77] [0,1,5,6,7,8,9,10]))) .skip)) (.seq (zS [d8 78 0,d8 79 8,p6 80 79 .add (q9 1),f8 81 (.idxStr (zT 78) (zT 80)),d8 82 7,p6 83 81 .eql (zT 82),d8 84 83,z7z 85 84 0,z7z 86 84 8,z7z 87 84 8,z7z 88 84 5,v6 89 84 (.bin .add (zT 87) (zT 88)),v6 90 84 (.slcS (zT 85) (some (zT 86)) (some (zT 89))),z7z 91 84 1,v6 92 84 (.bin .eql (zT 90) (zT 91)),z2z 93 84 92] [0,1,5,6,7,8,9,10,93] (zC 93 (zS [d8 94 8,d8 4 94] [4] .ret) .skip)) (zS [d8 95 8,p6 96 95 .add (q9 1),d8 8 96] [0,1,5,6,7,8,9,10] (zS [d8 97 10,p6 98 97 .add (q9 1),d8 10 98] [0,1,5,6,7,8,9,10] (zS [d8 99 5,f8 100 (.load none (.global 0)),p6 101 99 .leq (zT 100),d8 102 101,z7z 103 102 10,z7z 104 102 8,v6 105 102 (.callF 180 [.tmp 104]),v6 106 102 (.bin .gtr (zT 103) (zT 105)),z2z 107 102 106] [0,1,5,6,7,8,9,10,107] (zC 107 (zS [d8 108 0,d8 109 8,f8 110 (.slcS (zT 108) (some (zT 109)) none),d8 111 1,f8 112 (.callF 179 [(zT 110),(zT 111)]),d8 12 112] [8,12] (.seq (zS [d8 113 12,p6 114 113 .geq (q9 0)] [8,12,114] (zC 114 (zS [d8 115 12,d8 116 8,p6 117 115 .add (zT 116),
  d8 4 117] [4] .ret) .skip)) (zS [f8 4 (.mov (q9 (-1)))] [4] .ret))) (zS [d8 118 5,f8 119 (.load none (.global 0)),p6 120 118 .gtr (zT 119),d8 121 120,z7z 122 121 10,z7z 123 121 8,v6 124 121 (.bin .shr (zT 123) (.const (.int .u64 4))),v6 125 121 (.bin .add (q9 4) (zT 124)),v6 126 121 (.bin .geq (zT 122) (zT 125)),z2z 127 121 126,d8 128 127,z7z 129 128 8,z7z 130 128 9,v6 131 128 (.bin .lss (zT 129) (zT 130)),z2z 132 128 131] [0,1,5,6,7,8,9,10,132] (zC 132 (zS [d8 133 0,d8 134 8,f8 135 (.slcS (zT 133) (some (zT 134)) none),d8 136 1,f8 137 (.callF 181 [(zT 135),(zT 136)]),d8 13 137] [8,13] (.seq (zS [d8 138 13,p6 139 138 .lss (q9 0)] [8,13,139] (zC 139 (zS [f8 4 (.mov (q9 (-1)))] [4] .ret) .skip)) (zS [d8 140 8,d8 141 13,p6 142 140 .add (zT 141),d8 4 142] [4] .ret))) .skip)))))))))
def cQ0:p8:=⟨zS [z7 4 0] [0,1] (zS [d8 14 1,y3z 15 14,d8 5 15] [0,1,5] (.seq (.block 0 (zS [d8 17 5,p6 18 17 .eql (q9 0),d8 19 18,z8z 20 19 1,z8z 21 19 0,D5 22 19 (.bin .eql (zT 20) (zT 21)),z3z 23 19 22,d8 16 23] [0,1,5,16] (zC 16 (zS [z7 4 0] [4] .ret) (zS [d8 25 5,p6 26 25 .eql (q9 1),d8 24 26] [0,1,5,24] (zC 24 (zS [d8 27 0,d8 28 1,f8 29 (.idxStr (zT 28) (q9 0)),f8 30 (.callF 178 [(zT 27),(zT 29)]),d8 4 30] [4] .ret) (zS [d8 32 5,d8 33 0,y3z 34 33,p6 35 32 .geq (zT 34),d8 31 35] [0,1,5,31] (zC 31 (zS [f8 4 (.mov (q9 (-1)))] [4] .ret) (zS [d8 37 5,f8 38 (.load none (.global 0)),p6 39 37 .leq (zT 38),d8 40 39,z7z 41 40 0,v6 42 40 (.len true (zT 41)),v6 43 40 (.bin .leq (zT 42) (q9 64)),z2z 44 40 43,d8 36 44] [0,1,5,36] (zC 36 (zS [d8 45 0,d8 46 1,f8 47 (.callF 179 [(zT 45),(zT 46)]),d8 4 47] [4] .ret) .skip))))))))) (zS [d8 48 1,f8 49 (.idxStr (zT 48) (q9 0)),d8 6 49] [0,1,5,6] (zS [d8 50 1,f8 51 (.idxStr (zT 50) (q9 1)),d8 7 51] [0,1,5,6,7] (zS [z7 8 0] [0,1,5,6,7,8] (zS [d8 52 0,y3z 53 52,d8 54 5,p6 55 53 .sub (zT 54),p6 56 55 .add (q9 1),d8 9 56] [0,1,5,6,7,8,9] (zS [z7 10 0] [0,1,5,6,7,8,9,10] (.seq (.block 1 (.loop [0,1,5,6,7,8,9,10] cQ1)) (zS [f8 4 (.mov (q9 (-1)))] [4] .ret))))))))),143,[(4,none)],true⟩
def cQ2:p8:=⟨zS [f8 4 (.mov (.const (.string ⟨#[]⟩))),f8 5 (.mov zf)] [0,1] (.seq (zS [d8 6 0,d8 7 1,f8 8 (.callF 182 [(zT 6),(zT 7)]),f8 9 (.un .not (zT 8))] [0,1,9] (zC 9 (zS [d8 10 0,d8 4 10,f8 5 (.mov zf)] [4,5] .ret) .skip)) (zS [d8 11 0,d8 12 1,y3z 13 12,f8 14 (.slcS (zT 11) (some (zT 13)) none),d8 4 14,f8 5 (.mov zt)] [4,5] .ret)),15,[(4,none),(5,none)],true⟩
def LS:AC:= zS [p6 9 8 .lss (zT 7)] [0,1,7,8,9] (.seq (zC 9 .skip (.exit 0)) (.seq (.block 1 (zS [d8 10 8,d8 5 10] [0,1,5,7,8] (zS [d8 11 1,d8 12 0,d8 13 5,z4z 14 2 12 13,z1z 15 2 14,f8 16 (.callV (zT 11) [.tmp 15])] [0,1,5,7,8,16] (zC 16 (zS [d8 17 5,d8 4 17] [4] .ret) .skip)))) (.ops [p6 18 8 .add (q9 1),d8 8 18] [0,1,7,8])))
def cQ3:p8:=⟨zS [z7 4 0] [0,1] (.seq (zS [d8 6 0,z6z 7 6,z7 8 0] [0,1,7,8] (.block 0 (.loop [0,1,7,8] LS))) (zS [f8 4 (.mov (q9 (-1)))] [4] .ret)),19,[(4,none)],true⟩
def dB5:p8:=⟨zS [z9z 2 204 0,f8 3 (.mov zf)] [1,2] (zS [s8 4 0 2,x7 5 4,x7 6 1,p6 7 5 .eql (zT 6),d8 3 7] [3] .ret),8,[(3,none)],true⟩
def cQ4:p8:=⟨zS [f8 2 (.mov (E8 0)),z7 3 0] [0,2] (zS [d8 7 0,f8 8 (.callF 99 [(zT 7),(.const (.string ⟨#[98]⟩))]),d8 6 8,H3 9 6 0,H3 10 6 1,d8 4 9,d8 5 10] [0,2,4,5] (.seq (zS [d8 11 5] [0,2,4,11] (zC 11 (.ops [f8 2 (.mov (E8 1))] [2,4]) (.ops [d8 12 0,f8 13 (.callF 188 [(zT 12),(.const (.string ⟨#[102]⟩))]),d8 4 13] [2,4]))) (zS [d8 15 4,I2 16 100 15,d8 14 16,H3 17 14 0,H3 18 14 1,d8 3 17] [2,3] (zS [d8 19 2,d8 20 3,d8 2 19,d8 3 20] [2,3] .ret)))),21,[(2,none),(3,none)],true⟩
def bD2:p8:=⟨zS [f8 2 (.mov (E8 0)),z7 3 0,f8 4 (.mov zf)] [0] (.seq (zS [d8 7 0,y3z 8 7,p6 9 8 .lss (q9 2),d8 10 9,z8z 11 10 0,D5 12 10 (.idxStr (zT 11) (q9 0)),D5 13 10 (.bin .neq (zT 12) (E8 102)),z8z 14 10 13,z7z 15 14 0,v6 16 14 (.idxStr (zT 15) (q9 0)),v6 17 14 (.bin .neq (zT 16) (E8 98)),D5 18 10 (.pick (zT 14) (zT 17) zf),z3z 19 10 18] [0,19] (zC 19 (zS [f8 2 (.mov (E8 0)),z7 3 0,f8 4 (.mov zf)] [2,3,4] .ret) .skip)) (zS [d8 21 0,f8 22 (.slcS (zT 21) (some (q9 1)) none),I2 23 149 22,d8 20 23,H3 24 20 0,H3 25 20 1,d8 5 24,d8 6 25] [0,5,6] (.seq (zS [d8 26 0,f8 27 (.idxStr (zT 26) (q9 0)),p6 28 27 .eql (E8 98)] [5,6,28] (zC 28 (zS [d8 29 5,d8 30 6,f8 2 (.mov (E8 1)),d8 3 29,d8 4 30] [2,3,4] .ret) .skip)) (zS [d8 31 5,d8 32 6,f8 2 (.mov (E8 0)),d8 3 31,d8 4 32] [2,3,4] .ret)))),33,[(2,none),(3,none),(4,none)],true⟩
def bZ1:p8:=⟨zS [z7 2 0,f8 3 (.mov zf)] [0] (.seq (zS [d8 6 0,y3z 7 6,p6 8 7 .gtr (q9 0),d8 9 8,z7z 10 9 0,v6 11 9 (.idxStr (zT 10) (q9 0)),v6 12 9 (.bin .eql (zT 11) (E8 45)),z2z 13 9 12] [0,13] (zC 13 (zS [d8 15 0,f8 16 (.slcS (zT 15) (some (q9 1)) none),I2 17 189 16,d8 14 17,H3 18 14 0,H3 19 14 1,d8 4 18,d8 5 19] [4,5] (zS [d8 20 4,f8 21 (.un .neg (zT 20)),d8 22 5,d8 23 22,z7z 24 23 4,v6 25 23 (.bin .gtr (zT 24) (q9 0)),z2z 26 23 25,d8 2 21,d8 3 26] [2,3] .ret)) .skip)) (zS [d8 27 0,I2 28 189 27,H3 29 28 0,H3 30 28 1,d8 2 29,d8 3 30] [2,3] .ret)),31,[(2,none),(3,none)],true⟩
def iI:AC:= zS [p6 15 14 .lss (zT 13)] [0,3,12,13,14,15] (.seq (zC 15 .skip (.exit 0)) (.seq (.block 1 (zS [d8 16 14,z4z 17 2 12 14,z1z 18 2 17,f8 5 (.alloc 80 [(1,(.bool false)),(1,(.slice none 0 0))]),d8 4 16,⟨none,none,.store 2 (zT 5) (zT 18)⟩] [0,3,4,5,12,13,14] (zS [d8 19 3,f8 20 (.build [(.int .i64 0),(.int .i64 0),(.int .i64 0)] [(0,1,(zT 19))]),f8 6 (.alloc 186 [(3,(.int .i64 0))]),⟨none,none,.store 3 (zT 6) (zT 20)⟩] [0,3,4,5,6,12,13,14] (zS [s8 22 1 5,x7 23 22,I2 24 161 23,d8 21 24,H3 25 21 0,H3 26 21 1,d8 7 25,d8 8 26] [0,3,4,5,6,7,8,12,13,14] (.seq (.block 2 (zS [d8 35 8,p6 36 35 .neq (q9 0),d8 34 36] [0,3,4,5,6,7,8,12,13,14,34] (zC 34 (.ops [d8 37 8,s8 38 2 6,⟨none,none,.store 1 (zT 38) (zT 37)⟩] [0,4,6,12,13,14]) (zS [d8 40 7,d8 41 3,p6 42 40 .neq (zT 41),d8 39 42] [0,4,5,6,12,13,14,39] (zC 39 (.ops [s8 43 2 6,⟨none,none,.store 1 (zT 43) (q9 26)⟩] [0,4,6,12,13,14]) (.ops [s8 28 1 5,x7 29 28,I2 30 162 29,d8 27 30,H3 31 27 0,H3 32 27 1,s8 33 1 6,⟨none,none,.store 1 (zT 33) (zT 31)⟩] [0,4,6,12,13,14])))))) (.seq (zS [d8 44 0,d8 45 4,z1z 46 3 6,f8 47 (.callV (zT 44) [(zT 45),(zT 46)]),f8 48 (.un .not (zT 47)),d8 49 48,D5 50 49 (.fldA 2 (zT 6)),D5 51 49 (.load none (zT 50)),D5 52 49 (.bin .neq (zT 51) (q9 0)),z3z 53 49 52] [0,6,12,13,14,53] (zC 53 .ret .skip)) (.ops [s8 54 1 6,x7 55 54,d8 3 55] [0,3,12,13,14]))))))) (.ops [p6 56 14 .add (q9 1),d8 14 56] [0,3,12,13,14])))
def cQ5:p8:=⟨zS [s8 9 0 1,x7 10 9,d8 3 10] [0,1,3] (zS [s8 11 1 1,x7 12 11,z6z 13 12,z7 14 0] [0,3,12,13,14] (.block 0 (.loop [0,3,12,13,14] iI))),57,[],true⟩
def cQ6:p8:=⟨zS [z7 2 0,z7 3 0] [0] (.seq (zS [d8 7 0,I2 8 127 7,d8 4 8] [0,4] (zS [d8 9 4,p6 10 9 .neq (q9 0)] [0,4,10] (zC 10 (zS [d8 11 4,z7 2 0,d8 3 11] [2,3] .ret) .skip))) (zS [d8 13 0,I2 14 168 13,d8 12 14,H3 15 12 0,H3 16 12 1,d8 5 15,d8 6 16] [5] (zS [d8 17 5,d8 2 17,z7 3 0] [2,3] .ret))),18,[(2,none),(3,none)],true⟩
def cQ7:p8:=⟨zS [z7 2 0,z7 3 0] [0] (.seq (zS [d8 7 0,I2 8 127 7,d8 4 8] [0,4] (zS [d8 9 4,p6 10 9 .neq (q9 0)] [0,4,10] (zC 10 (zS [d8 11 4,z7 2 0,d8 3 11] [2,3] .ret) .skip))) (zS [d8 13 0,I2 14 168 13,d8 12 14,H3 15 12 0,H3 16 12 1,d8 5 15,d8 6 16] [6] (zS [d8 17 6,d8 2 17,z7 3 0] [2,3] .ret))),18,[(2,none),(3,none)],true⟩
def oR:AC:= zS [p6 9 8 .lss (zT 7)] [0,1,7,8,9] (.seq (zC 9 .skip (.exit 0)) (.seq (.block 1 (zS [d8 10 8,d8 5 10] [0,1,5,7,8] (zS [d8 11 1,d8 12 0,d8 13 5,z4z 14 4 12 13,z1z 15 4 14,f8 16 (.callV (zT 11) [.tmp 15])] [0,1,5,7,8,16] (zC 16 (zS [d8 17 5,d8 4 17] [4] .ret) .skip)))) (.ops [p6 18 8 .add (q9 1),d8 8 18] [0,1,7,8])))
def cQ8:p8:=⟨zS [z7 4 0] [0,1] (.seq (zS [d8 6 0,z6z 7 6,z7 8 0] [0,1,7,8] (.block 0 (.loop [0,1,7,8] oR))) (zS [f8 4 (.mov (q9 (-1)))] [4] .ret)),19,[(4,none)],true⟩
def yV:AC:= .seq (zS [d8 9 3,d8 10 0,z6z 11 10,p6 12 9 .lss (zT 11)] [0,3,12] (zC 12 .skip (.exit 0))) (.seq (.block 1 (zS [d8 15 0,d8 16 3,z4z 17 4 15 16,z1z 18 4 17,I2 19 199 18,p6 20 19 .neq (q9 0)] [0,3,20] (zC 20 (zS [z7 2 8] [2] .ret) .skip))) (.ops [d8 13 3,p6 14 13 .add (q9 1),d8 3 14] [0,3]))
def cQ9:p8:=⟨zS [z7 2 0] [0] (.seq (zS [d8 6 0,z6z 7 6,p6 8 7 .gtr (q9 200)] [0,8] (zC 8 (zS [z7 2 4] [2] .ret) .skip)) (.seq (zS [z7 3 0] [0,3] (.block 0 (.loop [0,3] yV))) (zS [d8 22 0,I2 23 165 22,d8 21 23,H3 24 21 0,H3 25 21 1,d8 4 24,d8 5 25] [4,5] (.seq (zS [d8 26 4,p6 27 26 .gtr (q9 200),d8 28 27,z8z 29 28 5,D5 30 28 (.bin .gtr (zT 29) (q9 200)),z3z 31 28 30] [31] (zC 31 (zS [z7 2 4] [2] .ret) .skip)) (zS [z7 2 0] [2] .ret))))),32,[(2,none)],true⟩
def YU:AC:= .seq (zS [d8 7 6,d8 8 0,z6z 9 8,p6 10 7 .lss (zT 9)] [0,4,5,6,10] (zC 10 .skip (.exit 0))) (.seq (.block 1 (zS [d8 13 4,d8 14 0,d8 15 6,z4z 16 4 14 15,z1z 17 4 16,I2 18 200 17,p6 19 13 .add (zT 18),d8 4 19] [0,4,5,6] (.ops [d8 20 5,d8 21 0,d8 22 6,z4z 23 4 21 22,z1z 24 4 23,I2 25 201 24,p6 26 20 .add (zT 25),d8 5 26] [0,4,5,6]))) (.ops [d8 11 6,p6 12 11 .add (q9 1),d8 6 12] [0,4,5,6]))
def dB7:p8:=⟨zS [z7 2 0,z7 3 0] [0] (zS [z7 4 0,z7 5 0] [0,4,5] (.seq (zS [z7 6 0] [0,4,5,6] (.block 0 (.loop [0,4,5,6] YU))) (zS [d8 27 4,d8 28 5,d8 2 27,d8 3 28] [2,3] .ret))),29,[(2,none),(3,none)],true⟩
def cR0:p8:=⟨zS [z9z 1 82 0,f8 2 (.mov zf)] [1] (zS [z1z 3 4 1,I2 4 167 3,p6 5 4 .neq (q9 0),d8 2 5] [2] .ret),6,[(2,none)],true⟩
def bZ2:p8:=⟨zS [z9z 1 82 0,z7 2 0] [1] (zS [s8 6 0 1,x7 7 6,I2 8 129 7,d8 5 8,H3 9 5 0,H3 10 5 1,f8 3 (.alloc 197 [(1,(.string ⟨#[]⟩)),(4,(.int .i64 0)),(1,(.bool false)),(2,(.int .i64 0))]),⟨none,none,.store 8 (zT 3) (zT 9)⟩,d8 4 10] [1,3,4] (.seq (zS [d8 11 4,f8 12 (.un .not (zT 11)),d8 13 12,D5 14 13 (.fldA 2 (zT 1)),D5 15 13 (.load none (zT 14)),D5 16 13 (.fldA 1 (zT 3)),D5 17 13 (.load (some 2) (zT 16)),D5 18 13 (.callF 202 [(zT 15),(zT 17)]),D5 19 13 (.un .not (zT 18)),z3z 20 13 19,d8 21 20,D5 22 21 (.fldA 3 (zT 1)),D5 23 21 (.load none (zT 22)),D5 24 21 (.fldA 3 (zT 3)),D5 25 21 (.load (some 2) (zT 24)),D5 26 21 (.callF 202 [(zT 23),(zT 25)]),D5 27 21 (.un .not (zT 26)),z3z 28 21 27,d8 29 28,D5 30 29 (.fldA 1 (zT 1)),D5 31 29 (.load none (zT 30)),z8z 32 29 31,y1z 33 32 5 3,y0z 34 32 33,v6 35 32 (.un .not (zT 34)),D5 36 29 (.pick (zT 32) (zT 35) zf),z3z 37 29 36] [37] (zC 37 (zS [z7 2 8] [2] .ret) .skip)) (zS [z7 2 0] [2] .ret))),38,[(2,none)],true⟩
def YV:AC:= zS [p6 11 10 .lss (zT 9)] [2,3,8,9,10,11] (.seq (zC 11 .skip (.exit 0)) (.seq (.block 1 (zS [z4z 12 4 8 10,z1z 13 4 12,f8 5 (.alloc 82 [(1,(.int .u8 0)),(1,(.bool false)),(2,(.int .i64 0))]),⟨none,none,.store 4 (zT 5) (zT 13)⟩] [2,3,5,8,9,10] (zS [s8 15 0 5,x7 16 15,I2 17 129 16,d8 14 17,H3 18 14 0,H3 19 14 1,f8 6 (.alloc 197 [(1,(.string ⟨#[]⟩)),(4,(.int .i64 0)),(1,(.bool false)),(2,(.int .i64 0))]),⟨none,none,.store 8 (zT 6) (zT 18)⟩,d8 7 19] [2,3,5,6,8,9,10] (zS [d8 20 2,z1z 21 4 5,s8 22 6 6,x7 23 22,f8 24 (.callF 203 [(zT 21),(zT 23)]),p6 25 20 .add (zT 24),d8 2 25] [2,3,5,6,8,9,10] (.ops [d8 26 3,z1z 27 4 5,s8 28 7 6,x7 29 28,f8 30 (.callF 203 [(zT 27),(zT 29)]),p6 31 26 .add (zT 30),d8 3 31] [2,3,8,9,10]))))) (.ops [p6 32 10 .add (q9 1),d8 10 32] [2,3,8,9,10])))
def cR1:p8:=⟨zS [z7 2 0,z7 3 0] [0,2,3] (.seq (zS [d8 8 0,z6z 9 8,z7 10 0] [2,3,8,9,10] (.block 0 (.loop [2,3,8,9,10] YV))) (zS [d8 33 2,d8 34 3,d8 2 33,d8 3 34] [2,3] .ret)),35,[(2,none),(3,none)],true⟩
def YW:AC:= .seq (zS [d8 7 3,p6 8 7 .geq (q9 0)] [0,1,3,8] (zC 8 .skip (.exit 0))) (.seq (.block 1 (zS [d8 11 0,d8 12 3,x7 13 1,d8 14 3,z4z 15 4 13 14,z1z 16 4 15,f8 17 (.callV (zT 11) [(zT 12),(zT 16)]),f8 18 (.un .not (zT 17))] [0,1,3,18] (zC 18 .ret .skip))) (.ops [d8 9 3,p6 10 9 .sub (q9 1),d8 3 10] [0,1,3]))
def dB8:p8:=⟨zS [x7 4 1,z6z 5 4,p6 6 5 .sub (q9 1),d8 3 6] [0,1,3] (.block 0 (.loop [0,1,3] YW)),19,[],false⟩
def aR4:p8:=⟨zS [z9z 1 82 0,f8 2 (.alloc 82 [(1,(.int .u8 0)),(1,(.bool false)),(2,(.int .i64 0))])] [1,2] (.seq (zS [s8 3 0 1,x7 4 3,p6 5 4 .neq (E8 2),d8 6 5,y1z 7 6 0 1,y0z 8 6 7,v6 9 6 (.bin .neq (zT 8) (E8 9)),z2z 10 6 9] [1,2,10] (zC 10 (.ops [s8 11 1 1,x7 12 11,f8 13 (.un .not (zT 12)),s8 14 1 1,⟨none,none,.store 1 (zT 14) (zT 13)⟩] [1,2]) .skip)) (.seq (zS [s8 15 0 1,x7 16 15,p6 17 16 .eql (E8 6),d8 18 17,D5 19 18 (.fldA 0 (zT 1)),D5 20 18 (.load none (zT 19)),D5 21 18 (.bin .eql (zT 20) (E8 7)),z3z 22 18 21] [1,2,22] (zC 22 (.ops [s8 23 3 1,x7 24 23,s8 25 2 1,x7 26 25,s8 27 2 1,⟨none,none,.store 1 (zT 27) (zT 24)⟩,s8 28 3 1,⟨none,none,.store 1 (zT 28) (zT 26)⟩] [1,2]) .skip)) (zS [z1z 29 4 1,⟨none,none,.store 4 (zT 2) (zT 29)⟩] [2] .ret))),30,[(2,(some (some 4)))],true⟩
def dB9:p8:=⟨zS [z7 4 0] [0,1] (zS [d8 5 0,d8 6 1,f8 7 (.callF 211 [(zT 5),(zT 6)]),d8 4 7] [4] .ret),8,[(4,none)],true⟩
def bZ3:p8:=⟨zS [f8 4 (.mov zf)] [0,1] (zS [d8 5 0,y3z 6 5,d8 7 1,y3z 8 7,p6 9 6 .geq (zT 8),d8 10 9,z7z 11 10 0,z7z 12 10 1,v6 13 10 (.len true (zT 12)),v6 14 10 (.slcS (zT 11) none (some (zT 13))),z7z 15 10 1,v6 16 10 (.bin .eql (zT 14) (zT 15)),z2z 17 10 16,d8 4 17] [4] .ret),18,[(4,none)],true⟩
def dC0:p8:=⟨zS [f8 4 (.mov (.const (.string ⟨#[]⟩)))] [0,1] (zS [d8 5 0,d8 6 1,f8 7 (.callF 216 [(zT 5),(zT 6)]),d8 4 7] [4] .ret),8,[(4,none)],true⟩
def LT:AC:= .seq (zS [d8 24 5,d8 25 0,y3z 26 25,p6 27 24 .lss (zT 26)] [0,4,5,27] (zC 27 .skip (.exit 0))) (.seq (.block 1 (.seq (zS [d8 30 0,d8 31 5,f8 32 (.idxStr (zT 30) (zT 31)),p6 33 32 .lss (E8 48),d8 34 33,z8z 35 34 0,z8z 36 34 5,D5 37 34 (.idxStr (zT 35) (zT 36)),D5 38 34 (.bin .gtr (zT 37) (E8 57)),z3z 39 34 38] [0,4,5,39] (zC 39 (zS [z7 2 0,f8 3 (.mov zf)] [2,3] .ret) .skip)) (.ops [d8 40 4,f8 41 (.bin .mul (q9 10) (zT 40)),d8 42 0,d8 43 5,f8 44 (.idxStr (zT 42) (zT 43)),p6 45 44 .sub (E8 48),f8 46 (.convI .i64 (zT 45)),p6 47 41 .add (zT 46),d8 4 47] [0,4,5]))) (.ops [d8 28 5,p6 29 28 .add (q9 1),d8 5 29] [0,4,5]))
def bZ4:p8:=⟨zS [z7 2 0,f8 3 (.mov zf)] [0] (.seq (zS [d8 6 0,y3z 7 6,p6 8 7 .eql (q9 0),d8 9 8,z8z 10 9 0,D5 11 9 (.len true (zT 10)),D5 12 9 (.bin .gtr (zT 11) (q9 4)),z3z 13 9 12,d8 14 13,z8z 15 14 0,D5 16 14 (.len true (zT 15)),D5 17 14 (.bin .gtr (zT 16) (q9 1)),z8z 18 14 17,z7z 19 18 0,v6 20 18 (.idxStr (zT 19) (q9 0)),v6 21 18 (.bin .eql (zT 20) (E8 48)),D5 22 14 (.pick (zT 18) (zT 21) zf),z3z 23 14 22] [0,23] (zC 23 (zS [z7 2 0,f8 3 (.mov zf)] [2,3] .ret) .skip)) (zS [z7 4 0] [0,4] (.seq (zS [z7 5 0] [0,4,5] (.block 0 (.loop [0,4,5] LT))) (zS [d8 48 4,d8 2 48,f8 3 (.mov zt)] [2,3] .ret)))),49,[(2,none),(3,none)],true⟩
def dC1:p8:=⟨zS [z9z 1 82 0,z7 2 0] [1] (zS [s8 5 2 1,x7 6 5,p6 7 6 .eql (q9 0),d8 8 7,y1z 9 8 3 1,y0z 10 8 9,v6 11 8 (.bin .eql (zT 10) (q9 0)),z2z 12 8 11,d8 3 12] [1,3] (zS [f8 4 (.mov zf)] [1,3,4] (.seq (zS [s8 13 0 1,x7 14 13] [1,3,4,14] (.block 0 (.seq (zS [p6 16 14 .eql (E8 1),d8 15 16] [1,3,4,14,15] (zC 15 .skip (.ops [p6 17 14 .eql (E8 8),d8 15 17] [1,3,4,14,15]))) (zC 15 (.ops [d8 18 3,d8 4 18] [4]) (zS [p6 20 14 .eql (E8 2),d8 19 20] [1,3,4,14,19] (zC 19 (.ops [d8 21 3,d8 22 21,y1z 23 22 1 1,y0z 24 22 23,v6 25 22 (.un .not (zT 24)),z2z 26 22 25,d8 4 26] [4]) (.seq (zS [p6 28 14 .eql (E8 3),d8 27 28] [1,4,14,27] (zC 27 .skip (zS [p6 29 14 .eql (E8 4),d8 27 29] [1,4,14,27] (zC 27 .skip (.ops [p6 30 14 .eql (E8 5),d8 27 30] [1,4,14,27]))))) (zC 27 (.ops [s8 31 3 1,x7 32 31,p6 33 32 .eql (q9 0),d8 34 33,y1z 35 34 2 1,y0z 36 34 35,v6 37 34 (.bin .geq (zT 36) (q9 2)),z2z 38 34 37,d8 39 38,y1z 40 39 2 1,y0z 41 39 40,v6 42 39 (.bin .leq (zT 41) (q9 4)),z2z 43 39 42,d8 4 43] [4]) (.seq (zS [p6 45 14 .eql (E8 6),d8 44 45] [1,4,14,44] (zC 44 .skip (.ops [p6 46 14 .eql (E8 7),d8 44 46] [1,4,14,44]))) (zC 44 (.ops [s8 47 2 1,x7 48 47,p6 49 48 .geq (q9 1),d8 50 49,y1z 51 50 2 1,y0z 52 50 51,v6 53 50 (.bin .leq (zT 52) (q9 6)),z2z 54 50 53,d8 55 54,y1z 56 55 3 1,y0z 57 55 56,v6 58 55 (.bin .geq (zT 57) (q9 1)),
  z2z 59 55 58,d8 60 59,y1z 61 60 3 1,y0z 62 60 61,v6 63 60 (.bin .leq (zT 62) (q9 6)),z2z 64 60 63,d8 4 64] [4]) (zS [p6 66 14 .eql (E8 9),d8 65 66] [1,4,14,65] (zC 65 (.ops [s8 67 3 1,x7 68 67,p6 69 68 .eql (q9 0),d8 70 69,y1z 71 70 1 1,y0z 72 70 71,v6 73 70 (.un .not (zT 72)),z2z 74 70 73,d8 75 74,y1z 76 75 2 1,y0z 77 75 76,v6 78 75 (.bin .geq (zT 77) (q9 1)),z2z 79 75 78,d8 80 79,y1z 81 80 2 1,y0z 82 80 81,v6 83 80 (.bin .leq (zT 82) (q9 200)),z2z 84 80 83,d8 4 84] [4]) (zS [p6 86 14 .eql (E8 10),d8 85 86] [1,4,85] (zC 85 (.ops [s8 87 3 1,x7 88 87,p6 89 88 .eql (q9 0),d8 90 89,y1z 91 90 2 1,y0z 92 90 91,v6 93 90 (.bin .geq (zT 92) (q9 1)),z2z 94 90 93,d8 95 94,y1z 96 95 2 1,y0z 97 95 96,v6 98 95 (.bin .leq (zT 97) (q9 200)),z2z 99 95 98,d8 4 99] [4]) .skip)))))))))))))) (.seq (zS [d8 100 4,f8 101 (.un .not (zT 100))] [101] (zC 101 (zS [z7 2 8] [2] .ret) .skip)) (zS [z7 2 0] [2] .ret))))),102,[(2,none)],true⟩
def dC2:p8:=⟨zS [z9z 1 82 0,z7 2 0] [1] (.seq (zS [s8 3 0 1,x7 4 3] [1,4] (.block 0 (.seq (zS [p6 6 4 .eql (E8 2),d8 5 6] [1,4,5] (zC 5 .skip (.ops [p6 7 4 .eql (E8 9),d8 5 7] [1,4,5]))) (zC 5 (zS [z7 2 0] [2] .ret) (.seq (zS [p6 9 4 .eql (E8 3),d8 8 9] [1,4,8] (zC 8 .skip (zS [p6 10 4 .eql (E8 4),d8 8 10] [1,4,8] (zC 8 .skip (.ops [p6 11 4 .eql (E8 10),d8 8 11] [1,4,8]))))) (zC 8 (zS [s8 12 2 1,x7 13 12,d8 2 13] [2] .ret) (.seq (zS [p6 15 4 .eql (E8 6),d8 14 15] [1,4,14] (zC 14 .skip (.ops [p6 16 4 .eql (E8 7),d8 14 16] [1,14]))) (zC 14 (zS [s8 17 2 1,x7 18 17,s8 19 3 1,x7 20 19,p6 21 18 .add (zT 20),d8 2 21] [2] .ret) .skip)))))))) (zS [z7 2 1] [2] .ret)),22,[(2,none)],true⟩
def dC3:p8:=⟨zS [z9z 1 82 0,z7 2 0] [1] (.seq (zS [s8 3 0 1,x7 4 3] [1,4] (.block 0 (zS [p6 6 4 .eql (E8 10),d8 5 6] [1,4,5] (zC 5 (zS [z7 2 0] [2] .ret) (.seq (zS [p6 8 4 .eql (E8 5),d8 7 8] [1,4,7] (zC 7 .skip (.ops [p6 9 4 .eql (E8 9),d8 7 9] [1,4,7]))) (zC 7 (zS [s8 10 2 1,x7 11 10,d8 2 11] [2] .ret) (.seq (zS [p6 13 4 .eql (E8 6),d8 12 13] [1,4,12] (zC 12 .skip (.ops [p6 14 4 .eql (E8 7),d8 12 14] [1,12]))) (zC 12 (zS [s8 15 2 1,x7 16 15,s8 17 3 1,x7 18 17,p6 19 16 .add (zT 18),d8 2 19] [2] .ret) .skip)))))))) (zS [z7 2 1] [2] .ret)),20,[(2,none)],true⟩
def bZ5:p8:=⟨zS [z9z 3 195 1,f8 4 (.mov zf)] [0,3] (zS [d8 5 0,f8 6 (.idxA 2 1 (zT 3) (q9 0)),x7 7 6,p6 8 5 .geq (zT 7),d8 9 8,z7z 10 9 0,v6 11 9 (.idxA 2 1 (zT 3) (q9 1)),y0z 12 9 11,v6 13 9 (.bin .leq (zT 10) (zT 12)),z2z 14 9 13,d8 4 14] [4] .ret),15,[(4,none)],true⟩
def dC4:p8:=⟨zS [z9z 2 82 0,z7 4 0] [1,2] (zS [s8 5 2 2,x7 6 5,s8 7 2 2,x7 8 7,s8 9 3 2,x7 10 9,p6 11 8 .add (zT 10),f8 12 (.build [(.int .i64 0),(.int .i64 0),(.int .i64 0),(.int .i64 0)] [(0,1,(q9 0)),(1,1,(q9 1)),(2,1,(zT 6)),(3,1,(zT 11))]),d8 13 1,f8 14 (.idxV 4 1 none (zT 12) (zT 13)),d8 4 14] [4] .ret),15,[(4,none)],true⟩
def cR2:p8:=⟨zS [f8 4 (.mov (.const (.string ⟨#[]⟩)))] [0,1] (.seq (zS [d8 5 0,d8 6 1,f8 7 (.callF 182 [(zT 5),(zT 6)])] [0,1,7] (zC 7 (zS [d8 8 0,d8 9 1,y3z 10 9,f8 11 (.slcS (zT 8) (some (zT 10)) none),d8 4 11] [4] .ret) .skip)) (zS [d8 12 0,d8 4 12] [4] .ret)),13,[(4,none)],true⟩
def fns:FuncId->Option p8
 |3=>some c3
 |9=>some c9
 |10=>some c10
 |11=>some c11
 |12=>some c12
 |13=>some c13
 |14=>some c14
 |15=>some c15
 |16=>some c16
 |17=>some c17
 |21=>some c21
 |25=>some EP
 |30=>some c30
 |32=>some c32
 |35=>some c35
 |38=>some c38
 |39=>some c39
 |40=>some c40
 |41=>some c41
 |43=>some c43
 |44=>some c44
 |45=>some c45
 |46=>some c46
 |47=>some c47
 |48=>some c48
 |49=>some c49
 |50=>some c50
 |51=>some c51
 |52=>some c52
 |54=>some c54
 |55=>some c55
 |57=>some c57
 |63=>some xM
 |76=>some c76
 |77=>some c77
 |78=>some c78
 |79=>some c79
 |80=>some c80
 |81=>some c81
 |82=>some c82
 |83=>some c83
 |84=>some c84
 |85=>some c85
 |87=>some c87
 |88=>some c88
 |89=>some c89
 |91=>some c91
 |92=>some c92
 |93=>some c93
 |94=>some c94
 |98=>some c98
 |99=>some c99
 |101=>some bC9
 |102=>some R1
 |103=>some cP4
 |122=>some dA8
 |123=>some bD0
 |124=>some bZ0
 |125=>some cP5
 |126=>some cP6
 |127=>some aR3
 |128=>some dA9
 |129=>some cP7
 |130=>some dB0
 |132=>some dB1
 |134=>some cP8
 |135=>some dB2
 |138=>some dB3
 |139=>some cP9
 |140=>some dB4
 |141=>some cQ0
 |142=>some cQ2
 |145=>some cQ3
 |146=>some dB5
 |147=>some cQ4
 |148=>some bD2
 |149=>some bZ1
 |160=>some cQ5
 |161=>some cQ6
 |162=>some cQ7
 |163=>some cQ8
 |164=>some cQ9
 |165=>some dB7
 |166=>some cR0
 |167=>some bZ2
 |168=>some cR1
 |169=>some dB8
 |172=>some aR4
 |178=>some dB9
 |182=>some bZ3
 |188=>some dC0
 |189=>some bZ4
 |199=>some dC1
 |200=>some dC2
 |201=>some dC3
 |202=>some bZ5
 |203=>some dC4
 |216=>some cR2
 |_=>none
theorem zK {P:Program} {f:FuncId} {c:p8} {fn b} (h1:P.funcs[f]?=some fn) (h2:fn.body=some b:=by exact rfl) (h3:(fn.name=="runtime.NumGoroutine")=false:=by kernel_rfl) (h4:fn.ntmps=c.n:=by exact rfl) (h5:I7 P c.n b c.code=some c.code:=by kernel_rfl) (h6:W5 P fn.results.toList=some c.res:=by kernel_rfl):yC P f c:=.code ⟨fn,b,c.code,h1,h2,h3,h4,h5,h6⟩
theorem cS4:LE Tryz.prog fns:=by
 intro f af h
 unfold fns at h
 split at h
 ·cases h;exact zK Tryz.func3
 ·cases h;exact zK Tryz.func9
 ·cases h;exact zK Tryz.func10
 ·cases h;exact zK Tryz.func11
 ·cases h;exact zK Tryz.func12
 ·cases h;exact zK Tryz.func13
 ·cases h;exact zK Tryz.func14
 ·cases h;exact zK Tryz.func15
 ·cases h;exact zK Tryz.func16
 ·cases h;exact zK Tryz.func17
 ·cases h;exact zK Tryz.func21
 ·cases h;exact zK Tryz.func25
 ·cases h;exact zK Tryz.func30
 ·cases h;exact zK Tryz.func32
 ·cases h;exact zK Tryz.func35
 ·cases h;exact zK Tryz.func38
 ·cases h;exact zK Tryz.func39
 ·cases h;exact zK Tryz.func40
 ·cases h;exact zK Tryz.func41
 ·cases h;exact zK Tryz.func43
 ·cases h;exact zK Tryz.func44
 ·cases h;exact zK Tryz.func45
 ·cases h;exact zK Tryz.func46
 ·cases h;exact zK Tryz.func47
 ·cases h;exact zK Tryz.func48
 ·cases h;exact zK Tryz.func49
 ·cases h;exact zK Tryz.func50
 ·cases h;exact zK Tryz.func51
 ·cases h;exact zK Tryz.func52
 ·cases h;exact zK Tryz.func54
 ·cases h;exact zK Tryz.func55
 ·cases h;exact zK Tryz.func57
 ·cases h;exact zK Tryz.func63
 ·cases h;exact zK Tryz.func76
 ·cases h;exact zK Tryz.func77
 ·cases h;exact zK Tryz.func78
 ·cases h;exact zK Tryz.func79
 ·cases h;exact zK Tryz.func80
 ·cases h;exact zK Tryz.func81
 ·cases h;exact zK Tryz.func82
 ·cases h;exact zK Tryz.func83
 ·cases h;exact zK Tryz.func84
 ·cases h;exact zK Tryz.func85
 ·cases h;exact zK Tryz.func87
 ·cases h;exact zK Tryz.func88
 ·cases h;exact zK Tryz.func89
 ·cases h;exact zK Tryz.func91
 ·cases h;exact zK Tryz.func92
 ·cases h;exact zK Tryz.func93
 ·cases h;exact zK Tryz.func94
 ·cases h;exact zK Tryz.func98
 ·cases h;exact zK Tryz.func99
 ·cases h;exact zK Tryz.func101
 ·cases h;exact zK Tryz.func102
 ·cases h;exact zK Tryz.func103
 ·cases h;exact zK Tryz.func122
 ·cases h;exact zK Tryz.func123
 ·cases h;exact zK Tryz.func124
 ·cases h;exact zK Tryz.func125
 ·cases h;exact zK Tryz.func126
 ·cases h;exact zK Tryz.func127
 ·cases h;exact zK Tryz.func128
 ·cases h;exact zK Tryz.func129
 ·cases h;exact zK Tryz.func130
 ·cases h;exact zK Tryz.func132
 ·cases h;exact zK Tryz.func134
 ·cases h;exact zK Tryz.func135
 ·cases h;exact zK Tryz.func138
 ·cases h;exact zK Tryz.func139
 ·cases h;exact zK Tryz.func140
 ·cases h;exact zK Tryz.func141
 ·cases h;exact zK Tryz.func142
 ·cases h;exact zK Tryz.func145
 ·cases h;exact zK Tryz.func146
 ·cases h;exact zK Tryz.func147
 ·cases h;exact zK Tryz.func148
 ·cases h;exact zK Tryz.func149
 ·cases h;exact zK Tryz.func160
 ·cases h;exact zK Tryz.func161
 ·cases h;exact zK Tryz.func162
 ·cases h;exact zK Tryz.func163
 ·cases h;exact zK Tryz.func164
 ·cases h;exact zK Tryz.func165
 ·cases h;exact zK Tryz.func166
 ·cases h;exact zK Tryz.func167
 ·cases h;exact zK Tryz.func168
 ·cases h;exact zK Tryz.func169
 ·cases h;exact zK Tryz.func172
 ·cases h;exact zK Tryz.func178
 ·cases h;exact zK Tryz.func182
 ·cases h;exact zK Tryz.func188
 ·cases h;exact zK Tryz.func189
 ·cases h;exact zK Tryz.func199
 ·cases h;exact zK Tryz.func200
 ·cases h;exact zK Tryz.func201
 ·cases h;exact zK Tryz.func202
 ·cases h;exact zK Tryz.func203
 ·cases h;exact zK Tryz.func216
 ·cases h
end Go.Proofs.YtgohenjcanfolaaGreatDoor
namespace Go.Proofs
open Go.Shelf
set_option linter.unusedSimpArgs false
def Tryz.lays156_ren:Go.Shelf.Ren:=⟨fun|156=>136|165=>177|166=>44|169=>46|240=>92|241=>210|276=>137|277=>225|n=>n,fun|31=>115|9=>9|3=>3|4=>4|0=>0|20=>20|72=>99|76=>105|70=>96|37=>97|75=>104|127=>158|164=>209|5=>5|80=>108|n=>n,fun|n=>n⟩
theorem Tryz.lays156:Go.Proofs.Lays.n156 Tryz.prog Tryz.lays156_ren:={
 mixed:=by kernel_rfl
 f156:=Tryz.func136.trans (congrArg some (by kernel_rfl))
 f165:=Tryz.func177.trans (congrArg some (by kernel_rfl))
 f166:=Tryz.func44.trans (congrArg some (by kernel_rfl))
 f169:=Tryz.func46.trans (congrArg some (by kernel_rfl))
 f240:=Tryz.func92.trans (congrArg some (by kernel_rfl))
 f241:=Tryz.func210.trans (congrArg some (by kernel_rfl))
 f276:=Tryz.func137.trans (congrArg some (by kernel_rfl))
 f277:=Tryz.func225.trans (congrArg some (by kernel_rfl))
 t0:=Tryz.underlying0
 a0:=Tryz.isAgg0
 z0:=Tryz.sizeOf0
 v0:=Tryz.zeroValue0
 t3:=Tryz.underlying3
 a3:=Tryz.isAgg3
 z3:=Tryz.sizeOf3
 v3:=Tryz.zeroValue3
 t4:=Tryz.underlying4
 a4:=Tryz.isAgg4
 z4:=Tryz.sizeOf4
 v4:=Tryz.zeroValue4
 t9:=Tryz.underlying9
 a9:=Tryz.isAgg9
 z9:=Tryz.sizeOf9
 v9:=Tryz.zeroValue9
 t20:=Tryz.underlying20
 a20:=Tryz.isAgg20
 z20:=Tryz.sizeOf20
 v20:=Tryz.zeroValue20
 t31:=Tryz.underlying115
 a31:=Tryz.isAgg115
 z31:=Tryz.sizeOf115
 v31:=Tryz.zeroValue115
 t37:=Tryz.underlying97
 a37:=Tryz.isAgg97
 z37:=Tryz.sizeOf97
 v37:=Tryz.zeroValue97
 t70:=Tryz.underlying96
 a70:=Tryz.isAgg96
 z70:=Tryz.sizeOf96
 v70:=Tryz.zeroValue96
 t72:=Tryz.underlying99
 a72:=Tryz.isAgg99
 z72:=Tryz.sizeOf99
 v72:=Tryz.zeroValue99
 t75:=Tryz.underlying104
 a75:=Tryz.isAgg104
 z75:=Tryz.sizeOf104
 v75:=Tryz.zeroValue104
 t76:=Tryz.underlying105
 a76:=Tryz.isAgg105
 z76:=Tryz.sizeOf105
 v76:=Tryz.zeroValue105
 t127:=Tryz.underlying158
 a127:=Tryz.isAgg158
 z127:=Tryz.sizeOf158
 v127:=Tryz.zeroValue158
 t164:=Tryz.underlying209
 a164:=Tryz.isAgg209
 z164:=Tryz.sizeOf209
 v164:=Tryz.zeroValue209}
theorem Tryz.Builder_Extra_156:Builder.Extra Tryz.prog Tryz.lays156_ren:={
 sizeBuilder:=by kernel_rfl
 liesBuilder:=by kernel_rfl
 t5:=Tryz.underlying5
 a5:=Tryz.isAgg5
 z5:=Tryz.sizeOf5
 v5:=Tryz.zeroValue5
 infoByte:=by kernel_rfl
 cellsByte:=by kernel_rfl
 sizeByte:=by kernel_rfl
 neB5:=by decide}
open Go.RowKit in
theorem Tryz.strings_Join_none (a:Option Addr) (c:Nat) (sep:ByteArray) (w:World):
  Calls Tryz.prog 136 #[.slice a 0 c,.string sep] w fun e w'=>e= .returned (.string ⟨#[]⟩)/\w'=w:=Any.strings_Join_none Tryz.lays156 Tryz.Builder_Extra_156 a c sep w
open Go.RowKit in
theorem Tryz.strings_Join (bk o c:Nat) (xs:List ByteArray) (sep:ByteArray) (w:World) (hcells:∀ (j:Nat) x,xs[j]? =some x->w.cell? ⟨bk,o+j,none⟩=some (.string x)) (hbk:bk<w.heap.size) (hN:xs.length<=140737488355328) (hcap:xs.length<=c) (hlen:(Lib.join (xs.map (·.data.toList)) sep.data.toList).length<=140737488355328):
  Calls Tryz.prog 136 #[.slice (some ⟨bk,o,none⟩) xs.length c,.string sep] w fun e w'=>e= .returned (.string ⟨(Lib.join (xs.map (·.data.toList)) sep.data.toList).toArray⟩)/\Below w.heap.size w w':=Any.strings_Join Tryz.lays156 Tryz.Builder_Extra_156 bk o c xs sep w hcells hbk hN hcap hlen
def Tryz.laysM171_ren:Go.Shelf.Ren:=⟨fun|171=>42|243=>90|246=>133|283=>173|284=>174|285=>175|286=>176|129=>206|317=>205|318=>207|319=>208|320=>209|337=>223|338=>224|n=>n,fun|3=>3|9=>9|2=>2|4=>4|171=>240|0=>0|53=>241|37=>97|5=>5|173=>244|212=>270|51=>271|20=>20|213=>272|46=>248|232=>303|233=>304|n=>n,fun|17=>1|18=>4|19=>5|n=>n⟩
theorem Tryz.laysM171:Go.Proofs.LaysM.n171 Tryz.prog Tryz.laysM171_ren:={
 mixed:=by kernel_rfl
 f129:=Tryz.func206.trans (congrArg some (by kernel_rfl))
 f171:=Tryz.func42.trans (congrArg some (by kernel_rfl))
 f243:=Tryz.func90.trans (congrArg some (by kernel_rfl))
 f246:=Tryz.func133.trans (congrArg some (by kernel_rfl))
 f283:=Tryz.func173.trans (congrArg some (by kernel_rfl))
 f284:=Tryz.func174.trans (congrArg some (by kernel_rfl))
 f285:=Tryz.func175.trans (congrArg some (by kernel_rfl))
 f286:=Tryz.func176.trans (congrArg some (by kernel_rfl))
 f317:=Tryz.func205.trans (congrArg some (by kernel_rfl))
 f318:=Tryz.func207.trans (congrArg some (by kernel_rfl))
 f319:=Tryz.func208.trans (congrArg some (by kernel_rfl))
 f320:=Tryz.func209.trans (congrArg some (by kernel_rfl))
 f337:=Tryz.func223.trans (congrArg some (by kernel_rfl))
 f338:=Tryz.func224.trans (congrArg some (by kernel_rfl))
 t0:=Tryz.underlying0
 a0:=Tryz.isAgg0
 z0:=Tryz.sizeOf0
 v0:=Tryz.zeroValue0
 t2:=Tryz.underlying2
 a2:=Tryz.isAgg2
 z2:=Tryz.sizeOf2
 v2:=Tryz.zeroValue2
 t3:=Tryz.underlying3
 a3:=Tryz.isAgg3
 z3:=Tryz.sizeOf3
 v3:=Tryz.zeroValue3
 t4:=Tryz.underlying4
 a4:=Tryz.isAgg4
 z4:=Tryz.sizeOf4
 v4:=Tryz.zeroValue4
 t5:=Tryz.underlying5
 a5:=Tryz.isAgg5
 z5:=Tryz.sizeOf5
 v5:=Tryz.zeroValue5
 t9:=Tryz.underlying9
 a9:=Tryz.isAgg9
 z9:=Tryz.sizeOf9
 v9:=Tryz.zeroValue9
 t20:=Tryz.underlying20
 a20:=Tryz.isAgg20
 z20:=Tryz.sizeOf20
 v20:=Tryz.zeroValue20
 t37:=Tryz.underlying97
 a37:=Tryz.isAgg97
 z37:=Tryz.sizeOf97
 v37:=Tryz.zeroValue97
 t46:=Tryz.underlying248
 a46:=Tryz.isAgg248
 z46:=Tryz.sizeOf248
 v46:=Tryz.zeroValue248
 t51:=Tryz.underlying271
 a51:=Tryz.isAgg271
 z51:=Tryz.sizeOf271
 v51:=Tryz.zeroValue271
 t53:=Tryz.underlying241
 a53:=Tryz.isAgg241
 z53:=Tryz.sizeOf241
 v53:=Tryz.zeroValue241
 t171:=Tryz.underlying240
 a171:=Tryz.isAgg240
 z171:=Tryz.sizeOf240
 v171:=Tryz.zeroValue240
 t173:=Tryz.underlying244
 a173:=Tryz.isAgg244
 z173:=Tryz.sizeOf244
 v173:=Tryz.zeroValue244
 t212:=Tryz.underlying270
 a212:=Tryz.isAgg270
 z212:=Tryz.sizeOf270
 v212:=Tryz.zeroValue270
 t213:=Tryz.underlying272
 a213:=Tryz.isAgg272
 z213:=Tryz.sizeOf272
 t232:=Tryz.underlying303
 a232:=Tryz.isAgg303
 z232:=Tryz.sizeOf303
 v232:=Tryz.zeroValue303
 t233:=Tryz.underlying304
 a233:=Tryz.isAgg304
 z233:=Tryz.sizeOf304
 v233:=Tryz.zeroValue304
 g17:=by kernel_rfl
 g18:=by kernel_rfl
 g19:=by kernel_rfl
 i0:=by kernel_rfl
 i2:=by kernel_rfl
 i3:=by kernel_rfl
 i4:=by kernel_rfl
 i5:=by kernel_rfl
 i9:=by kernel_rfl
 i20:=by kernel_rfl
 i37:=by kernel_rfl
 i46:=by kernel_rfl
 i51:=by kernel_rfl
 i53:=by kernel_rfl
 i171:=by kernel_rfl
 i173:=by kernel_rfl
 i212:=by kernel_rfl
 i232:=by kernel_rfl
 i233:=by kernel_rfl
 m17:=by kernel_rfl
 m18:=by kernel_rfl
 m19:=by kernel_rfl}
open Go.RowKit Go.Sort Go.Lib in
theorem Tryz.strconv_Itoa (n:Int) (h0: -9223372036854775808<=n) (h1:n<=9223372036854775807) (w:World) (htab:Lib.TabIs Tryz.prog w "internal/strconv.uint64pow10" .u64 Lib.pow10Tab):
  Calls Tryz.prog 42 #[.int .i64 n] w fun e w'=>e= .returned (.string ⟨(Lib.itoa n).toArray⟩)/\∃ k os,w'=grow (w.drewN k) os:=Any.strconv_Itoa Tryz.laysM171 n h0 h1 w htab
def Tryz.laysC172_ren:Go.Shelf.Ren:=⟨fun|172=>100|244=>143|245=>144|247=>183|279=>184|280=>185|281=>186|282=>187|287=>213|316=>214|171=>42|205=>215|321=>226|322=>227|243=>90|246=>133|283=>173|284=>174|285=>175|286=>176|129=>206|317=>205|318=>207|319=>208|320=>209|337=>223|338=>224|n=>n,fun|9=>9|3=>3|75=>104|76=>105|4=>4|5=>5|167=>250|37=>97|0=>0|85=>251|2=>2|168=>253|53=>241|175=>276|46=>248|210=>280|127=>158|145=>293|143=>291|21=>21|171=>240|173=>244|212=>270|51=>271|20=>20|213=>272|232=>303|233=>304|80=>108|n=>n,fun|15=>2|16=>3|17=>1|18=>4|19=>5|n=>n⟩
theorem Tryz.laysC172:Go.Proofs.LaysC.n172 Tryz.prog Tryz.laysC172_ren:={
 mixed:=by kernel_rfl
 f129:=Tryz.func206.trans (congrArg some (by kernel_rfl))
 f171:=Tryz.func42.trans (congrArg some (by kernel_rfl))
 f172:=Tryz.func100.trans (congrArg some (by kernel_rfl))
 f205:=Tryz.func215.trans (congrArg some (by kernel_rfl))
 f243:=Tryz.func90.trans (congrArg some (by kernel_rfl))
 f244:=Tryz.func143.trans (congrArg some (by kernel_rfl))
 f245:=Tryz.func144.trans (congrArg some (by kernel_rfl))
 f246:=Tryz.func133.trans (congrArg some (by kernel_rfl))
 f247:=Tryz.func183.trans (congrArg some (by kernel_rfl))
 f279:=Tryz.func184.trans (congrArg some (by kernel_rfl))
 f280:=Tryz.func185.trans (congrArg some (by kernel_rfl))
 f281:=Tryz.func186.trans (congrArg some (by kernel_rfl))
 f282:=Tryz.func187.trans (congrArg some (by kernel_rfl))
 f283:=Tryz.func173.trans (congrArg some (by kernel_rfl))
 f284:=Tryz.func174.trans (congrArg some (by kernel_rfl))
 f285:=Tryz.func175.trans (congrArg some (by kernel_rfl))
 f286:=Tryz.func176.trans (congrArg some (by kernel_rfl))
 f287:=Tryz.func213.trans (congrArg some (by kernel_rfl))
 f316:=Tryz.func214.trans (congrArg some (by kernel_rfl))
 f317:=Tryz.func205.trans (congrArg some (by kernel_rfl))
 f318:=Tryz.func207.trans (congrArg some (by kernel_rfl))
 f319:=Tryz.func208.trans (congrArg some (by kernel_rfl))
 f320:=Tryz.func209.trans (congrArg some (by kernel_rfl))
 f321:=Tryz.func226.trans (congrArg some (by kernel_rfl))
 f322:=Tryz.func227.trans (congrArg some (by kernel_rfl))
 f337:=Tryz.func223.trans (congrArg some (by kernel_rfl))
 f338:=Tryz.func224.trans (congrArg some (by kernel_rfl))
 t0:=Tryz.underlying0
 a0:=Tryz.isAgg0
 z0:=Tryz.sizeOf0
 v0:=Tryz.zeroValue0
 t2:=Tryz.underlying2
 a2:=Tryz.isAgg2
 z2:=Tryz.sizeOf2
 v2:=Tryz.zeroValue2
 t3:=Tryz.underlying3
 a3:=Tryz.isAgg3
 z3:=Tryz.sizeOf3
 v3:=Tryz.zeroValue3
 t4:=Tryz.underlying4
 a4:=Tryz.isAgg4
 z4:=Tryz.sizeOf4
 v4:=Tryz.zeroValue4
 t5:=Tryz.underlying5
 a5:=Tryz.isAgg5
 z5:=Tryz.sizeOf5
 v5:=Tryz.zeroValue5
 t9:=Tryz.underlying9
 a9:=Tryz.isAgg9
 z9:=Tryz.sizeOf9
 v9:=Tryz.zeroValue9
 t20:=Tryz.underlying20
 a20:=Tryz.isAgg20
 z20:=Tryz.sizeOf20
 v20:=Tryz.zeroValue20
 t21:=Tryz.underlying21
 a21:=Tryz.isAgg21
 z21:=Tryz.sizeOf21
 v21:=Tryz.zeroValue21
 t37:=Tryz.underlying97
 a37:=Tryz.isAgg97
 z37:=Tryz.sizeOf97
 v37:=Tryz.zeroValue97
 t46:=Tryz.underlying248
 a46:=Tryz.isAgg248
 z46:=Tryz.sizeOf248
 v46:=Tryz.zeroValue248
 t51:=Tryz.underlying271
 a51:=Tryz.isAgg271
 z51:=Tryz.sizeOf271
 v51:=Tryz.zeroValue271
 t53:=Tryz.underlying241
 a53:=Tryz.isAgg241
 z53:=Tryz.sizeOf241
 v53:=Tryz.zeroValue241
 t75:=Tryz.underlying104
 a75:=Tryz.isAgg104
 z75:=Tryz.sizeOf104
 v75:=Tryz.zeroValue104
 t76:=Tryz.underlying105
 a76:=Tryz.isAgg105
 z76:=Tryz.sizeOf105
 v76:=Tryz.zeroValue105
 t85:=Tryz.underlying251
 a85:=Tryz.isAgg251
 z85:=Tryz.sizeOf251
 v85:=Tryz.zeroValue251
 t127:=Tryz.underlying158
 a127:=Tryz.isAgg158
 z127:=Tryz.sizeOf158
 v127:=Tryz.zeroValue158
 t143:=Tryz.underlying291
 a143:=Tryz.isAgg291
 z143:=Tryz.sizeOf291
 v143:=Tryz.zeroValue291
 t145:=Tryz.underlying293
 a145:=Tryz.isAgg293
 z145:=Tryz.sizeOf293
 v145:=Tryz.zeroValue293
 t167:=Tryz.underlying250
 a167:=Tryz.isAgg250
 z167:=Tryz.sizeOf250
 v167:=Tryz.zeroValue250
 t168:=Tryz.underlying253
 a168:=Tryz.isAgg253
 z168:=Tryz.sizeOf253
 v168:=Tryz.zeroValue253
 t171:=Tryz.underlying240
 a171:=Tryz.isAgg240
 z171:=Tryz.sizeOf240
 v171:=Tryz.zeroValue240
 t173:=Tryz.underlying244
 a173:=Tryz.isAgg244
 z173:=Tryz.sizeOf244
 v173:=Tryz.zeroValue244
 t175:=Tryz.underlying276
 a175:=Tryz.isAgg276
 z175:=Tryz.sizeOf276
 v175:=Tryz.zeroValue276
 t210:=Tryz.underlying280
 a210:=Tryz.isAgg280
 z210:=Tryz.sizeOf280
 v210:=Tryz.zeroValue280
 t212:=Tryz.underlying270
 a212:=Tryz.isAgg270
 z212:=Tryz.sizeOf270
 v212:=Tryz.zeroValue270
 t213:=Tryz.underlying272
 a213:=Tryz.isAgg272
 z213:=Tryz.sizeOf272
 t232:=Tryz.underlying303
 a232:=Tryz.isAgg303
 z232:=Tryz.sizeOf303
 v232:=Tryz.zeroValue303
 t233:=Tryz.underlying304
 a233:=Tryz.isAgg304
 z233:=Tryz.sizeOf304
 v233:=Tryz.zeroValue304
 g15:=by kernel_rfl
 g16:=by kernel_rfl
 g17:=by kernel_rfl
 g18:=by kernel_rfl
 g19:=by kernel_rfl
 t80:=Tryz.underlying108
 a80:=Tryz.isAgg108
 z80:=Tryz.sizeOf108
 v80:=Tryz.zeroValue108
 i0:=by kernel_rfl
 i2:=by kernel_rfl
 i3:=by kernel_rfl
 i4:=by kernel_rfl
 i5:=by kernel_rfl
 i9:=by kernel_rfl
 i20:=by kernel_rfl
 i21:=by kernel_rfl
 i37:=by kernel_rfl
 i46:=by kernel_rfl
 i51:=by kernel_rfl
 i53:=by kernel_rfl
 i75:=by kernel_rfl
 i76:=by kernel_rfl
 i80:=by kernel_rfl
 i85:=by kernel_rfl
 i127:=by kernel_rfl
 i143:=by kernel_rfl
 i145:=by kernel_rfl
 i167:=by kernel_rfl
 i168:=by kernel_rfl
 i171:=by kernel_rfl
 i173:=by kernel_rfl
 i175:=by kernel_rfl
 i210:=by kernel_rfl
 i212:=by kernel_rfl
 i232:=by kernel_rfl
 i233:=by kernel_rfl
 m15:=by kernel_rfl
 m16:=by kernel_rfl
 m17:=by kernel_rfl
 m18:=by kernel_rfl
 m19:=by kernel_rfl
 c0:=by kernel_rfl
 c2:=by kernel_rfl
 c3:=by kernel_rfl
 c4:=by kernel_rfl
 c5:=by kernel_rfl
 c9:=by kernel_rfl
 c20:=by kernel_rfl
 c21:=by kernel_rfl
 c37:=by kernel_rfl
 c46:=by kernel_rfl
 c51:=by kernel_rfl
 c53:=by kernel_rfl
 c75:=by kernel_rfl
 c76:=by kernel_rfl
 c80:=by kernel_rfl
 c85:=by kernel_rfl
 c127:=by kernel_rfl
 c143:=by kernel_rfl
 c145:=by kernel_rfl
 c167:=by kernel_rfl
 c168:=by kernel_rfl
 c171:=by kernel_rfl
 c173:=by kernel_rfl
 c175:=by kernel_rfl
 c210:=by kernel_rfl
 c212:=by kernel_rfl
 c213:=by kernel_rfl
 c232:=by kernel_rfl
 c233:=by kernel_rfl}
open Go.RowKit in
theorem Tryz.strconv_Atoi_ok (s:ByteArray) (hmax:s.size<=9223372036854775806) (v:Int) (h:Lib.atoiAll s.data.toList= .ok v) (w:World):
  Calls Tryz.prog 100 #[.string s] w fun e w'=>e= .returned (.tuple #[.int .i64 v,.nilIface])/\(w'=w\/∃ t,w'=Lib.bytesWorld w 5 t):=Any.strconv_Atoi_ok Tryz.laysC172 s hmax v h w
open Go.RowKit in
theorem Tryz.strconv_Atoi_syntax_var (s:ByteArray) (hlim:s.size<=281474976710656) (h:Lib.atoiAll s.data.toList=Lib.atoiAll []) (tp:TypeId) (p:Value) (w:World) (hvar:w.var? Tryz.prog "strconv.ErrSyntax"=some #[.iface tp p]):
  Calls Tryz.prog 100 #[.string s] w fun e w'=>∃ N,e= .returned (.tuple #[.int .i64 0,.iface 253 (.pointer (some ⟨N,0,none⟩))])/\w.heap.size<=N/\w'.heap[N]? =some (.cells #[.string ⟨#[65,116,111,105]⟩,.string s,.iface tp p] 280 (0,0))/\Below w.heap.size w w':=Any.strconv_Atoi_syntax_var Tryz.laysC172 s hlim h tp p w hvar
open Go.RowKit in
theorem Tryz.strconv_Atoi_range_var (s:ByteArray) (hlim:s.size<=281474976710656) (h:Lib.atoiAll s.data.toList= .range) (tp:TypeId) (p:Value) (w:World) (hvar:w.var? Tryz.prog "strconv.ErrRange"=some #[.iface tp p]):
  Calls Tryz.prog 100 #[.string s] w fun e w'=>∃ N,e= .returned (.tuple #[.int .i64 (Lib.atoiSat s.data.toList),.iface 253 (.pointer (some ⟨N,0,none⟩))])/\w.heap.size<=N/\w'.heap[N]? =some (.cells #[.string ⟨#[65,116,111,105]⟩,.string s,.iface tp p] 280 (0,0))/\Below w.heap.size w w':=Any.strconv_Atoi_range_var Tryz.laysC172 s hlim h tp p w hvar
end Go.Proofs
namespace Go.Proofs.YtgohenjcanfolaaGreatDoor
open Go Go.Itp
open Go.RowKit (Below)
set_option linter.unusedVariables false
set_option maxRecDepth 100000
set_option linter.unusedSimpArgs false
theorem own:ownKnob Tryz.prog.godebug=none:=by kernel_rfl
theorem mixed:Tryz.prog.follows .mixedOrders=true:=by kernel_rfl
def aA5:List (FuncId × PF × TypeId):= [(137,.same,0),(211,.indexByte,0),(96,.count,0)]
theorem aV5:xZ Tryz.prog aA5:=
 ⟨⟨⟨Tryz.f137,Tryz.func137,by kernel_rfl,by kernel_rfl,by kernel_rfl,rfl⟩⟩,⟨⟨Tryz.f211,Tryz.func211,by kernel_rfl,by kernel_rfl,by kernel_rfl,rfl⟩⟩,⟨⟨Tryz.f96,Tryz.func96,by kernel_rfl,by kernel_rfl,by kernel_rfl,rfl⟩⟩,trivial⟩
noncomputable abbrev PR (w:World):FuncId->List Value->St->Option (Value × List A0):=
 cJ (rP aA5) (cJ (TC 42) (cJ (HY (J2 w) 136)
  (vJ 100 253 280 (X1 Tryz.prog w "strconv.ErrSyntax") (X1 Tryz.prog w "strconv.ErrRange"))))
noncomputable abbrev EN (w:World) (n:Nat):G3:=t8 (J2 w) B6 fns (PR w) n
abbrev Tab (w:World):Prop:=Lib.TabIs Tryz.prog w "internal/strconv.uint64pow10" .u64 Lib.pow10Tab
theorem bO3 (W:World) (ht:Tab W):X2 Tryz.prog (PR W) W:=
 uD (BT aA5 aV5 W) (uD
  (bK6 ⟨Tryz.f42,_,Tryz.func42,rfl,by kernel_rfl⟩ ht Tryz.strconv_Itoa) (uD
  (bK8 ⟨Tryz.f136,_,Tryz.func136,rfl,by kernel_rfl⟩ (TS W) Tryz.strings_Join_none Tryz.strings_Join)
  (bB7 (u8:=5) ⟨Tryz.f100,_,Tryz.func100,rfl,by kernel_rfl⟩ Tryz.strconv_Atoi_ok Tryz.strconv_Atoi_syntax_var Tryz.strconv_Atoi_range_var)))
theorem cT2 {W:World} (ht:Tab W) {f:FuncId} {af:p8} (hf:fns f=some af) {xs:List Value} (h2:B8 0 xs= []) (n:Nat) {v:Value} {s':St} (hb:body (EN W n) af xs St.empty=some (v,s')) (hv:x9 0 v= []):
  Calls Tryz.prog f xs.toArray W fun e w'=>e= .returned v/\Below W.heap.size W w':=
 cT1 mixed cS4 (TS W) (bO3 W ht) hf h2 n hb hv
theorem ND (w:World) (n:Nat) (st:n9) (k:Int) (h0: -9223372036854775808<=k) (h1:k<=9223372036854775807):E7 (EN w (n+1)) 42 st [.sc (.int .i64 k)] (.sc (.string ⟨(Lib.itoa k).toArray⟩)):=
 cS8 h0 h1 fun xs s r h=>J8 rfl (eK h)
theorem cT0 (w:World) (n:Nat) (st:n9) (s:Nat) (hs:s ≠ 1) (ls:List (List UInt8)) (sep:List UInt8) (hl:ls.length<=1099511627776) (h3:(Lib.join ls sep).length<=140737488355328):
  E7 (EN w (n+1)) 136 st [.sl s ls.length (ls.map sD),.sc (.string ⟨sep.toArray⟩)] (.sc (.string ⟨(Lib.join ls sep).toArray⟩)):=
 cS9 s hs ls sep hl h3 fun xs s r h=>J8 rfl (J8 rfl (eK h))
theorem bC0 (w:World) (n:Nat) (st:n9) (b:ByteArray) (v:Int) (hb:b.size<=281474976710656) (h:Lib.atoiAll b.data.toList= .ok v):E7 (EN w (n+1)) 100 st [.sc (.string b)] (.tup [.sc (.int .i64 v),.sc .nilIface]):=
 cP0 hb h fun xs s r h=>J8 rfl (J8 rfl (J8 rfl h))
theorem bB8 (w:World) (n:Nat) (b:ByteArray) (hb:b.size<=281474976710656) (h4:(X1 Tryz.prog w "strconv.ErrSyntax").isSome=true) (h5:(X1 Tryz.prog w "strconv.ErrRange").isSome=true) (h:∀ v,Lib.atoiAll b.data.toList ≠ .ok v):
  ∃ (k:Int) (cs:List Value),m0 (EN w (n+1)) 100 [.sc (.string b)] (.tup [.sc (.int .i64 k),.ifc 253 (.ptr 0 0)]) ⟨[(0,.box 280 1 (cs.map V.sc))],1,0⟩:=
 cO9 hb (aG2 h4) (aG2 h5) h fun xs s r h=>J8 rfl (J8 rfl (J8 rfl h))
end Go.Proofs.YtgohenjcanfolaaGreatDoor
namespace Go.Itp
set_option linter.unusedVariables false
set_option linter.unusedSimpArgs false
set_option maxRecDepth 10000
structure u6 where
 kind:Nat
 purl:Bool
 a:Int
 b:Int
abbrev dH5:List UInt8:= [107,110,105,116]
abbrev dH8:List UInt8:= [112,117,114,108]
abbrev dH9:List UInt8:= [115,108,105,112]
abbrev dI2:List UInt8:= [119,105,116,104]
abbrev cN9:List UInt8:= [121,97,114,110]
abbrev wIn:List UInt8:= [105,110]
abbrev bW8:List UInt8:= [102,114,111,110,116]
abbrev dH7:List UInt8:= [111,118,101,114]
abbrev dI0:List UInt8:= [116,111,103,101,116,104,101,114]
abbrev cY5:List UInt8:= [40,102,105,114,115,116]
abbrev wOn:List UInt8:= [111,110]
abbrev dN4:List UInt8:= [116,111,112,41]
abbrev dH6:List UInt8:= [109,97,107,101]
abbrev dN3:List UInt8:= [111,117,116]
abbrev wOf:List UInt8:= [111,102]
abbrev w1:List UInt8:= [49]
abbrev dI1:List UInt8:= [112,117,114,108,119,105,115,101]
abbrev bW7:List UInt8:= [99,114,111,115,115]
abbrev cI3:List UInt8:= [98,101,104,105,110,100]
abbrev dH4:List UInt8:= [99,97,115,116]
abbrev dH3:List UInt8:= [98,105,110,100]
abbrev dN2:List UInt8:= [111,102,102]
abbrev cY6:List UInt8:= [116,105,109,101,115]
theorem u6.ext' {x y:u6} (h1:x.kind=y.kind) (h2:x.purl=y.purl) (h3:x.a=y.a) (h4:x.b=y.b):x=y:=by
 cases x;cases y;simp_all
instance:DecidableEq u6:=fun x y=>decidable_of_iff (x.kind=y.kind/\x.purl=y.purl/\x.a=y.a/\x.b=y.b) ⟨fun ⟨h1,h2,h3,h4⟩=>u6.ext' h1 h2 h3 h4,fun h=>by subst h;exact ⟨rfl,rfl,rfl,rfl⟩⟩
def sC:u6:=⟨0,false,0,0⟩
instance:Inhabited u6:=⟨sC⟩
def dZ (x:u6):Prop:=
 (x.kind=1\/x.kind=8)/\x.a=0/\x.b=0\/
 x.kind=2/\x.purl=false/\x.a=0/\x.b=0\/
 (x.kind=3\/x.kind=4\/x.kind=5)/\2<=x.a/\x.a<=4/\x.b=0\/
 (x.kind=6\/x.kind=7)/\(1<=x.a/\x.a<=6)/\1<=x.b/\x.b<=6\/
 x.kind=9/\x.purl=false/\1<=x.a/\x.a<=200/\x.b=0\/
 x.kind=10/\1<=x.a/\x.a<=200/\x.b=0
instance dG8 (x:u6):Decidable (dZ x):=by unfold dZ;infer_instance
def J3 (x:u6):Bool:=decide (dZ x)
theorem S8 {x:u6}:J3 x=true↔dZ x:=by unfold J3;exact decide_eq_true_iff
theorem dZ.bounds {x:u6} (h:dZ x):1<=x.kind/\x.kind<=10/\0<=x.a/\x.a<=200/\0<=x.b/\x.b<=6:=by
 unfold dZ at h
 omega
def bS4 (p:Bool):List UInt8:=if p=true then dH8 else dH5
def aQ0 (p:Bool):List (List UInt8):=if p=true then [dI1] else []
def dA6 (x:u6) (n:Int):List (List UInt8):=match x.kind with
 |1=> [bS4 x.purl,Lib.itoa n]
 |2=> [cN9,dH7]
 |3=> [bS4 x.purl,Lib.itoa x.a,dI0,cY5,wOn,dN4]
 |4=> [bS4 x.purl,Lib.itoa x.a,dI0]
 |5=> [dH6,Lib.itoa x.a,dN3,wOf,w1]++aQ0 x.purl
 |6=> [bW7,Lib.itoa x.a,wIn,bW8,wOf,Lib.itoa x.b]++aQ0 x.purl
 |7=> [bW7,Lib.itoa x.a,cI3,Lib.itoa x.b]++aQ0 x.purl
 |8=> [dH9,Lib.itoa n]++if x.purl=true then [dI2,cN9,wIn,bW8] else []
 |9=> [dH4,wOn,Lib.itoa x.a]
 |_=> [dH3,dN2,Lib.itoa x.a]++aQ0 x.purl
def cW4 (x:u6) (n:Int):List (List UInt8):=if 1<n/\x.kind ≠ 1/\x.kind ≠ 8 then [Lib.itoa n,cY6] else []
def cD6 (x:u6) (n:Int):List (List UInt8):=dA6 x n++cW4 x n
def cD5 (x:u6) (n:Int):List UInt8:=join 32 (cD6 x n)
def okW (w:List UInt8):Prop:=(32:UInt8) ∉ w/\(44:UInt8) ∉ w/\(10:UInt8) ∉ w/\w ≠ []
instance dK0 (w:List UInt8):Decidable (okW w):=by unfold okW;infer_instance
end Go.Itp
namespace Go.Itp
set_option linter.unusedVariables false
set_option linter.unusedSimpArgs false
set_option maxRecDepth 10000
def H2 (x:u6):Int:=if x.kind=2\/x.kind=9 then 0 else if x.kind=3\/x.kind=4\/x.kind=10 then x.a else if x.kind=6\/x.kind=7 then x.a+x.b else 1
def L3 (x:u6):Int:=if x.kind=10 then 0 else if x.kind=5\/x.kind=9 then x.a else if x.kind=6\/x.kind=7 then x.a+x.b else 1
def H9 (f:u6->Int):List u6->Int
 | []=>0
 |x::l=>f x+H9 f l
def M4 (L:List u6):Int:=if 200<L.length then 4 else if L.all J3=true then (if 200<H9 H2 L\/200<H9 L3 L then 4 else 0) else 8
def cN2:List u6->List (u6 × Nat)
 | []=> []
 |x::l=>match cN2 l with
  | []=> [(x,1)]
  |(y,n)::r=>if y=x then (x,n+1)::r else (x,1)::(y,n)::r
def phr (r:u6 × Nat):List UInt8:=cD5 r.1 r.2
def jnC:List (List UInt8)->List UInt8
 | []=> []
 | [w]=>w
 |w::ws=>w++44::32::jnC ws
def bM6:List UInt8:= [110,111,116,104,105,110,103]
def bX1 (L:List u6):List UInt8:=if L= [] then bM6 else jnC ((cN2 L).map phr)
def ZA (L:List u6):List UInt8 × Int:=if M4 L=0 then (if 2000<(bX1 L).length then ([],4) else (bX1 L,0)) else ([],M4 L)
theorem mH {L:List u6} (h:M4 L=0):L.length<=200/\L.all J3=true/\H9 H2 L<=200/\H9 L3 L<=200:=by
 unfold M4 at h
 split at h
 ·exact absurd h (by decide)
 split at h
 ·split at h
  ·exact absurd h (by decide)
  ·rename_i h1 h2 h3
   exact ⟨by omega,h2,by omega,by omega⟩
 ·exact absurd h (by decide)
def dD5 (b:Bool):List UInt8:=if b=true then [98,97,99,107] else [102,114,111,110,116]
def dD6 (b:Bool):List UInt8:=40::dD5 b++ [41,58]
def dM9:List UInt8:= [114,111,119]
def dE1 (b:Bool) (n:Int):List UInt8:=dM9++32::(Lib.itoa n++32::(dD6 b++ [32]))
def cE7 (b:Bool) (L:List u6) (n:Int):List UInt8 × Int:=if M4 L=0 then (if n<1\/100<n then ([],2) else if (ZA L).2=0 then (dE1 b n++(ZA L).1++ [46],0) else ([],(ZA L).2)) else ([],M4 L)
open Classical in
noncomputable def dQ2 (s:List UInt8):Option (Bool × List u6 × Int):=if h:∃ r:Bool × List u6 × Int,cE7 r.1 r.2.1 r.2.2=(s,0) then some (Classical.choose h) else none
abbrev ChT:=Int × List (Bool × List u6)
def cN1:List (Bool × List u6)->Int
 | []=>0
 |r::l=>if M4 r.2=0 then cN1 l else M4 r.2
def bE4 (c:ChT):Int:=if 100<c.2.length then 4 else if c.1<0\/200<c.1 then 8 else cN1 c.2
def pG:Int->List (Bool × List u6)->List UInt8 × Int
 |_,[]=>([],0)
 |n,r::l=>if (cE7 r.1 r.2 n).2=0 then (if (pG (n+1) l).2=0 then ((cE7 r.1 r.2 n).1++10::(pG (n+1) l).1,0) else ([],(pG (n+1) l).2)) else ([],(cE7 r.1 r.2 n).2)
def bT0 (n:Int):List UInt8:= [115,116,97,114,116]++32::([119,105,116,104]++32::(Lib.itoa n++32:: [115,116,105,116,99,104,101,115,46]))
def cR6 (c:ChT):List UInt8 × Int:=if bE4 c=0 then (if (pG 1 c.2).2=0 then (if 60000<(bT0 c.1++10::(pG 1 c.2).1).length then ([],4) else (bT0 c.1++10::(pG 1 c.2).1,0)) else ([],(pG 1 c.2).2)) else ([],bE4 c)
open Classical in
noncomputable def dQ3 (s:List UInt8):Option ChT:=if h:∃ c:ChT,cR6 c=(s,0) then some (Classical.choose h) else none
end Go.Itp
namespace Go.Itp
set_option linter.unusedVariables false
set_option linter.unusedSimpArgs false
set_option maxRecDepth 10000
def fill:List (List UInt8)->List Int->List UInt8
 | [],_=> []
 | [p],_=>p
 |p::ps,[]=>p++35::fill ps []
 |p::ps,v::vs=>p++(Lib.itoa v++fill ps vs)
theorem HW {z:Int} (h:0<=z) (h1:z<=9999):(Lib.itoa z).length<=4:=by
 obtain ⟨u,rfl⟩:=cZ4 h
 rw[Lib.itoa_nonneg]
 exact K3 3 u (by omega)
def bM4 (r:List UInt8):Prop:=∀ c,r.head? =some c->W1 c=false
def F6 (p s:List UInt8):Option (List UInt8):=if p.length<=s.length/\s.take p.length=p then some (s.drop p.length) else none
theorem zH (p r:List UInt8):F6 p (p++r)=some r:=by
 unfold F6
 rw[aO9 ⟨by simp,by simp⟩]
 simp
instance dA0 (r:List UInt8):Decidable (bM4 r):=decidable_of_iff (r.head?.all (fun c=> !W1 c)=true) (by
 cases r with
 |nil=>simp[bM4]
 |cons c r=>simp[bM4])
def fW (l:List UInt8):Option Int:=if l ≠ []/\l.length<=4/\(1<l.length->l[0]! ≠ 48)/\l.all W1=true then some (((Lib.decFrom 0 l).getD 0:Nat):Int) else none
end Go.Itp
namespace Go.Proofs.YtgohenjcanfolaaGreatDoor
open Go Go.Itp
set_option maxRecDepth 100000
set_option maxHeartbeats 400000
set_option linter.unusedSimpArgs false
set_option linter.unusedVariables false
def fL:Nat->List UInt8
 |3=> [102]|4=> [108]|5=> [109]|6=> [120]|7=> [121]|8=> [115]|10=> [111]
 |_=> []
def fA0:Nat->Int
 |3=>2|4=>2|5=>2|6=>1|7=>1|9=>1|10=>1
 |_=>0
def fA1:Nat->Int
 |3=>4|4=>4|5=>4|6=>6|7=>6|9=>200|10=>200
 |_=>0
def fB0:Nat->Int
 |6=>1|7=>1
 |_=>0
def fB1:Nat->Int
 |6=>6|7=>6
 |_=>0
def fS:Nat->Bool
 |2=>false|9=>false
 |_=>true
def fU:Nat->Nat
 |1=>1|2=>0|3=>2|4=>2|5=>1|6=>3|7=>3|8=>1|9=>0
 |_=>2
def fM:Nat->Nat
 |1=>1|2=>1|3=>1|4=>1|5=>2|6=>3|7=>3|8=>1|9=>2
 |_=>0
def bY (k:Nat):List Value:= [.string ⟨(fL k).toArray⟩,.int .i64 (fA0 k),.int .i64 (fA1 k),.int .i64 (fB0 k),.int .i64 (fB1 k),.bool (fS k),.int .i64 (fU k),.int .i64 (fM k)]
def ZM:List D:=(bY 1++bY 2++bY 3++bY 4++bY 5++bY 6++bY 7++bY 8++bY 9++bY 10).map D.sc
theorem dF9 (s g u m:Value) (a b c d:Value):bS (NU (NU [.sc s,.sc (.int .i64 0),.sc (.int .i64 0),.sc (.int .i64 0),.sc (.int .i64 0),.sc (.bool false),.sc (.int .i64 0),.sc (.int .i64 0)] 1 [.sc a,.sc b]) 3 [.sc c,.sc d]) [(5,1,.sc g),(6,1,.sc u),(7,1,.sc m)]=some [.sc s,.sc a,.sc b,.sc c,.sc d,.sc g,.sc u,.sc m]:=(rfl)
theorem dG6 (nx t:Nat):T8 nx t 8 10 [.string ⟨#[]⟩,.int .i64 0,.int .i64 0,.int .i64 0,.int .i64 0,.bool false,.int .i64 0,.int .i64 0] [(0,8,.agg [.sc (.string ⟨#[]⟩),.sc (.int .i64 0),.sc (.int .i64 0),.sc (.int .i64 0),.sc (.int .i64 0),.sc (.bool true),.sc (.int .i64 1),.sc (.int .i64 1)]),(8,8,.agg [.sc (.string ⟨#[]⟩),.sc (.int .i64 0),.sc (.int .i64 0),.sc (.int .i64 0),.sc (.int .i64 0),.sc (.bool false),.sc (.int .i64 0),.sc (.int .i64 1)]),(16,8,.agg [.sc (.string ⟨#[102]⟩),.sc (.int .i64 2),.sc (.int .i64 4),.sc (.int .i64 0),.sc (.int .i64 0),.sc (.bool true),.sc (.int .i64 2),.sc (.int .i64 1)]),(24,8,.agg [.sc (.string ⟨#[108]⟩),.sc (.int .i64 2),.sc (.int .i64 4),.sc (.int .i64 0),.sc (.int .i64 0),.sc (.bool true),.sc (.int .i64 2),.sc (.int .i64 1)]),(32,8,.agg [.sc (.string ⟨#[109]⟩),.sc (.int .i64 2),.sc (.int .i64 4),.sc (.int .i64 0),.sc (.int .i64 0),.sc (.bool true),.sc (.int .i64 1),.sc (.int .i64 2)]),(40,8,.agg [.sc (.string ⟨#[120]⟩),.sc (.int .i64 1),.sc (.int .i64 6),.sc (.int .i64 1),.sc (.int .i64 6),.sc (.bool true),.sc (.int .i64 3),.sc (.int .i64 3)]),(48,8,.agg [.sc (.string ⟨#[121]⟩),.sc (.int .i64 1),.sc (.int .i64 6),.sc (.int .i64 1),.sc (.int .i64 6),.sc (.bool true),.sc (.int .i64 3),.sc (.int .i64 3)]),(56,8,.agg [.sc (.string ⟨#[115]⟩),.sc (.int .i64 0),.sc (.int .i64 0),.sc (.int .i64 0),.sc (.int .i64 0),.sc (.bool true),.sc (.int .i64 1),.sc (.int .i64 1)]),(64,8,.agg [.sc (.string ⟨#[]⟩),.sc (.int .i64 1),.sc (.int .i64 200),.sc (.int .i64 0),.sc (.int .i64 0),.sc (.bool false),.sc (.int .i64 0),.sc (.int .i64 2)]),(72,8,.agg [.sc (.string ⟨#[111]⟩),.sc (.int .i64 1),.sc (.int .i64 200),.sc (.int .i64 0),.sc (.int .i64 0),.sc (.bool true),.sc (.int .i64 2),.sc (.int .i64 0)])]=some (.ref nx 0 10 10,some (.row t 8 false false ZM),[]):=(rfl)
theorem aS8 (k:Nat) (h1:1<=k) (h2:k<=10):C0 ZM ((k - 1)*8) (some 8)=some (.agg ((bY k).map V.sc)):=by
 rcases (by omega:k=1\/k=2\/k=3\/k=4\/k=5\/k=6\/k=7\/k=8\/k=9\/k=10) with rfl|rfl|rfl|rfl|rfl|rfl|rfl|rfl|rfl|rfl<;>rfl
attribute [local irreducible] ZM
theorem JZ {x:u6} (h1:1<=x.kind) (h2:x.kind<=10):dZ x↔(fA0 x.kind<=x.a/\x.a<=fA1 x.kind)/\(fB0 x.kind<=x.b/\x.b<=fB1 x.kind)/\(x.purl=true->fS x.kind=true):=by
 obtain ⟨k,p,a,b⟩:=x
 simp only at h1 h2 ⊢
 unfold dZ
 simp only
 rcases (by omega:k=1\/k=2\/k=3\/k=4\/k=5\/k=6\/k=7\/k=8\/k=9\/k=10) with rfl|rfl|rfl|rfl|rfl|rfl|rfl|rfl|rfl|rfl
 all_goals
  cases p<;>simp[fA0,fA1,fB0,fB1,fS]<;>omega
theorem aY2 {x:u6} (h:¬ (1<=x.kind/\x.kind<=10)):J3 x=false:=by
 rw[<- cB6,S8]
 intro hx
 exact h ⟨hx.bounds.1,hx.bounds.2.1⟩
def NI (x:u6) (h:Nat):Int:=if h=0 then 0 else if h=1 then 1 else if h=2 then x.a else x.a+x.b
theorem aC4 {x:u6} (h1:1<=x.kind) (h2:x.kind<=10):H2 x=NI x (fU x.kind)/\L3 x=NI x (fM x.kind):=by
 obtain ⟨k,p,a,b⟩:=x
 simp only at h1 h2 ⊢
 rcases (by omega:k=1\/k=2\/k=3\/k=4\/k=5\/k=6\/k=7\/k=8\/k=9\/k=10) with rfl|rfl|rfl|rfl|rfl|rfl|rfl|rfl|rfl|rfl
 all_goals
  simp[H2,L3,NI,fU,fM]
theorem bH4 (k:Nat):fU k<=3/\fM k<=3:=by
 constructor
 ·unfold fU;split<;>decide
 ·unfold fM;split<;>decide
abbrev uS (x:u6):V:= .agg [.sc (.int .u8 x.kind),.sc (.bool x.purl),.sc (.int .i64 x.a),.sc (.int .i64 x.b)]
theorem tn0:Int.toNat 0=0:=rfl
theorem tn1:Int.toNat 1=1:=rfl
section
variable (w:World) (n:Nat)
theorem MR (k:Nat) (hk:1<=k) (h4:k<=10):m0 (EN w (n+1)) 129 [.sc (.int .u8 k)] (.tup [.agg ((bY k).map V.sc),.sc (.bool true)]) ⟨[],0,0⟩:=by
 refine vF rfl fun C hC h0=>?_
 have h3:=aS8 k hk h4
 have hw:IntKind.u8.wrap ((k:Int) - 1)=((k - 1:Nat):Int):=by rw[nR _ (by omega) (by omega)];omega
 unfold bY at h3 ⊢
 simp (disch:=try exact z0z) only[WA,simprocAttr,cP7,dF9,↓dG6]
 rw[hw]
 simp (disch:=try exact z0z) only[WA,simprocAttr,h3]
 exact d7 rfl h0 rfl
theorem bH6 (k:Nat) (hk:¬ (1<=k/\k<=10)) (hb:k<256):m0 (EN w (n+1)) 129 [.sc (.int .u8 k)] (.tup [.agg [.sc (.string ⟨#[]⟩),.sc (.int .i64 0),.sc (.int .i64 0),.sc (.int .i64 0),.sc (.int .i64 0),.sc (.bool false),.sc (.int .i64 0),.sc (.int .i64 0)],.sc (.bool false)]) ⟨[],0,0⟩:=by
 have h5:¬ (k:Int)<1->10<(k:Int):=by omega
 by_cases h1:(k:Int)<1
 all_goals
  refine vF rfl fun C hC h0=>?_
  repeat' (first|(simp (disch:=try exact z0z) only[WA,simprocAttr,cP7,dF9,↓dG6]))
  all_goals try omega
  exact d7 rfl h0 rfl
theorem YB (v lo hi:Int):m0 (EN w (n+1)) 202 [.sc (.int .i64 v),.agg [.sc (.int .i64 lo),.sc (.int .i64 hi)]] (.sc (.bool (decide (lo<=v/\v<=hi)))) ⟨[],0,0⟩:=by
 refine vF rfl fun C hC h0=>?_
 by_cases h1:lo<=v
 ·by_cases h2:v<=hi
  ·rw[dA1 ⟨h1,h2⟩]
   simp (disch:=try exact z0z) only[WA,simprocAttr,bZ5,tn0,tn1]
   all_goals try omega
   exact d7 rfl h0 rfl
  ·rw[dA7 (fun h=>h2 h.2)]
   simp (disch:=try exact z0z) only[WA,simprocAttr,bZ5,tn0,tn1]
   all_goals try omega
   exact d7 rfl h0 rfl
 ·rw[dA7 (fun h=>h1 h.1)]
  simp (disch:=try exact z0z) only[WA,simprocAttr,bZ5,tn0,tn1]
  all_goals try omega
  exact d7 rfl h0 rfl
end
end Go.Proofs.YtgohenjcanfolaaGreatDoor
namespace Go.Proofs.YtgohenjcanfolaaGreatDoor
open Go Go.Itp
set_option maxRecDepth 100000
set_option maxHeartbeats 400000
set_option linter.unusedSimpArgs false
set_option linter.unusedVariables false
def I5 (L:List u6):List D:=L.flatMap fun x=> [.sc (.int .u8 x.kind),.sc (.bool x.purl),.sc (.int .i64 x.a),.sc (.int .i64 x.b)]
theorem E6 (L:List u6):(I5 L).length=L.length*4:=by
 induction L with
 |nil=>rfl
 |cons p L ih=>
  have e:I5 (p::L)= [.sc (.int .u8 p.kind),.sc (.bool p.purl),.sc (.int .i64 p.a),.sc (.int .i64 p.b)]++I5 L:=by simp[I5]
  rw[e,bA4,ih];simp;omega
theorem bP (L:List u6) (k:Nat) (hk:k<L.length):C0 (I5 L) (k*4) (some 4)=some (uS L[k]!):=by
 have:=iQ (fun x:u6=> [D.sc (.int .u8 x.kind),.sc (.bool x.purl),.sc (.int .i64 x.a),.sc (.int .i64 x.b)]) 4 L (fun _=>rfl) (by decide) k hk
 unfold I5
 rw[this]
 rfl
theorem ix0 (a b c d:V):HP 4 1 none (.agg [a,b,c,d]) (.sc (.int .i64 0))=some a:=(rfl)
theorem ix1 (a b c d:V):HP 4 1 none (.agg [a,b,c,d]) (.sc (.int .i64 1))=some b:=(rfl)
theorem ix2 (a b c d:V):HP 4 1 none (.agg [a,b,c,d]) (.sc (.int .i64 2))=some c:=(rfl)
theorem ix3 (a b c d:V):HP 4 1 none (.agg [a,b,c,d]) (.sc (.int .i64 3))=some d:=(rfl)
section
variable (w:World) (n:Nat)
theorem bS0 (x:u6) (hk:x.kind<256):m0 (EN w (n+2)) 167 [uS x] (.sc (.int .i64 (if J3 x=true then 0 else 8))) ⟨[],0,0⟩:=by
 by_cases hr:1<=x.kind/\x.kind<=10
 ·have hf:=MR w n x.kind hr.1 hr.2
  have w1:=YB w n x.a (fA0 x.kind) (fA1 x.kind)
  have w2:=YB w n x.b (fB0 x.kind) (fB1 x.kind)
  have he:J3 x=(decide (fA0 x.kind<=x.a/\x.a<=fA1 x.kind) && (decide (fB0 x.kind<=x.b/\x.b<=fB1 x.kind) && (!x.purl||fS x.kind))):=by
   have h1:=JZ hr.1 hr.2
   rw[dM5,S8,h1]
   cases x.purl<;>simp
  rw[he]
  unfold bY at hf
  generalize decide (fA0 x.kind<=x.a/\x.a<=fA1 x.kind)=A at*
  generalize decide (fB0 x.kind<=x.b/\x.b<=fB1 x.kind)=B at*
  generalize fS x.kind=S at*
  obtain ⟨k,p,a,b⟩:=x
  simp only at hf w1 w2 ⊢
  have go:∀ e:Int,(A=false/\e=8)\/(A=true/\B=false/\e=8)\/(A=true/\B=true/\p=false/\e=0)\/(A=true/\B=true/\p=true/\S=false/\e=8)\/(A=true/\B=true/\p=true/\S=true/\e=0)->m0 (EN w (n+2)) 167 [uS ⟨k,p,a,b⟩] (.sc (.int .i64 e)) ⟨[],0,0⟩:=by
   rintro e (⟨rfl,rfl⟩|⟨rfl,rfl,rfl⟩|⟨rfl,rfl,rfl,rfl⟩|⟨rfl,rfl,rfl,rfl,rfl⟩|⟨rfl,rfl,rfl,rfl,rfl⟩)
   all_goals
    refine vF rfl fun C hC h0=>?_
    repeat' (first|(simp (disch:=try exact z0z) only[WA,simprocAttr,bZ2]))
    refine cF hC hf ?_
    repeat' (first|(simp (disch:=try exact z0z) only[WA,simprocAttr]))
    refine cF hC w1 ?_
    repeat' (first|(simp (disch:=try exact z0z) only[WA,simprocAttr]))
   ·exact d7 rfl h0 rfl
   all_goals
    refine cF hC w2 ?_
    repeat' (first|(simp (disch:=try exact z0z) only[WA,simprocAttr]))
    exact d7 rfl h0 rfl
  refine go _ ?_
  cases A<;>cases B<;>cases p<;>cases S<;>simp
 ·have hf:=bH6 w n x.kind hr hk
  rw[aY2 hr]
  obtain ⟨k,p,a,b⟩:=x
  refine vF rfl fun C hC h0=>?_
  simp (disch:=try exact z0z) only[WA,simprocAttr,bZ2]
  refine cF hC hf ?_
  simp (disch:=try exact z0z) only[WA,simprocAttr]
  exact d7 rfl h0 rfl
theorem aK5 (x:u6) (h:Nat) (hh:h<=3) (ha: -1000000<=x.a/\x.a<=1000000) (hb: -1000000<=x.b/\x.b<=1000000):m0 (EN w (n+1)) 203 [uS x,.sc (.int .i64 h)] (.sc (.int .i64 (NI x h))) ⟨[],0,0⟩:=by
 obtain ⟨k,p,a,b⟩:=x
 simp only at ha hb
 rcases (by omega:h=0\/h=1\/h=2\/h=3) with rfl|rfl|rfl|rfl
 all_goals
  refine vF rfl fun C hC h0=>?_
  repeat' (first|(simp (disch:=try exact z0z) only[WA,simprocAttr,dC4,ix0,ix1,ix2,ix3]))
  all_goals try omega
  exact d7 rfl h0 rfl
theorem nN {f:u6->Int} {L:List u6} (h:∀ x ∈ L,0<=f x/\f x<=1000):0<=H9 f L/\H9 f L<=1000*L.length:=by
 induction L with
 |nil=>simp[H9]
 |cons x L ih=>
  have h1:=h x (by simp)
  have h2:=ih fun y hy=>h y (cR3 _ hy)
  simp only[H9,bK2]
  omega
theorem nM {f:u6->Int} {L:List u6} {k:Nat} (hk:k<L.length):H9 f (L.take (k+1))=H9 f (L.take k)+f L[k]! :=by
 have app:∀ A B:List u6,H9 f (A++B)=H9 f A+H9 f B:=by
  intro A B
  induction A with
  |nil=>simp[H9]
  |cons x A ih=>simp only[dI5,H9,ih];omega
 rw[dD4 hk,app,bA7 _ k hk]
 simp[H9]
theorem aO {x:u6} (h:dZ x):(0<=H2 x/\H2 x<=1000)/\0<=L3 x/\L3 x<=1000:=by
 have hb:=h.bounds
 unfold H2 L3
 constructor
 ·split
  ·omega
  split
  ·omega
  split<;>omega
 ·split
  ·omega
  split
  ·omega
  split<;>omega
theorem aB8 (s:Nat) (L:List u6) (hL:L.length<=200) (h4:L.all J3=true):m0 (EN w (n+2)) 168 [.sl s L.length (I5 L)] (.tup [.sc (.int .i64 (H9 H2 L)),.sc (.int .i64 (H9 L3 L))]) ⟨[],0,0⟩:=by
 refine vF rfl fun C hC h0=>?_
 have h6:C.E.rounds=B6:=by rw[hC,k9]
 have h8:=E6 L
 simp (disch:=try exact z0z) only[WA,simprocAttr,cR1]
 all_goals try omega
 refine r5 (fun m fr st=>∃ (k:Nat),m=L.length - k/\k<=L.length/\fr= [(2,.sc (.int .i64 (H9 H2 (L.take k)))),(3,.sc (.int .i64 (H9 L3 (L.take k)))),(8,.sl s L.length (I5 L)),(9,.sc (.int .i64 L.length)),(10,.sc (.int .i64 k))]/\st=⟨[],0,0⟩) L.length ?_ ⟨_,_,.refl _ _,0,by omega,bA5 _,rfl,rfl⟩ ?_
 ·rw[h6];unfold B6;omega
 rintro m fr st ⟨k,rfl,hk,rfl,rfl⟩
 by_cases h3:k<L.length
 case neg=>
  have:k=L.length:=by omega
  subst this
  rw[dJ4]
  simp (disch:=try exact z0z) only[WA,simprocAttr,YV]
  all_goals try omega
  exact d7 rfl h0 rfl
 have h7:=bP L k h3
 have u1:=nM (f:=H2) h3
 have u2:=nM (f:=L3) h3
 have h5:∀ x ∈ L.take k,dZ x:=fun x hx=>S8.1 (bB3.1 h4 x (dM0 hx))
 have b1:=nN (f:=H2) fun x hx=>(aO (h5 x hx)).1
 have b2:=nN (f:=L3) fun x hx=>(aO (h5 x hx)).2
 have h9:(L.take k).length<=200:=by rw[cV7];omega
 have hx:dZ L[k]! :=S8.1 (bB3.1 h4 _ (by rw[bA7 _ k h3];exact cN3 h3))
 generalize L[k]! =X at*
 have hb:=hx.bounds
 have c1:=aO hx
 have hf:=MR w n X.kind hb.1 hb.2.1
 have l1:=aK5 w n X (fU X.kind) (bH4 _).1 (by omega) (by omega)
 have l2:=aK5 w n X (fM X.kind) (bH4 _).2 (by omega) (by omega)
 have e:=aC4 hb.1 hb.2.1
 rw[<- e.1] at l1
 rw[<- e.2] at l2
 unfold bY at hf
 generalize H9 H2 (L.take k)=U at*
 generalize H9 L3 (L.take k)=M at*
 generalize H2 X=uu at*
 generalize L3 X=mm at*
 obtain ⟨xk,xp,xa,xb⟩:=X
 simp (disch:=try exact z0z) only[WA,simprocAttr,YV,h7]
 all_goals try omega
 refine cF hC hf ?_
 simp (disch:=try exact z0z) only[WA,simprocAttr]
 refine cF hC l1 ?_
 simp (disch:=try exact z0z) only[WA,simprocAttr]
 refine cF hC l2 ?_
 simp (disch:=try exact z0z) only[WA,simprocAttr]
 all_goals try omega
 refine ⟨L.length - (k+1),_,_,by omega,o9 [] 0 h0 rfl rfl rfl rfl,k+1,rfl,by omega,?_,rfl⟩
 rw[u1,u2]
 rfl
end
abbrev PD (L:List u6):Prop:=∀ x ∈ L,x.kind<256
theorem PD.at {L:List u6} (h:PD L) {k:Nat} (hk:k<L.length):L[k]!.kind<256:=h _ (by rw[bA7 _ k hk];exact cN3 hk)
theorem KA {L:List u6} {k:Nat} (hk:k<L.length) (h:(L.take k).all J3=true) (h2:J3 L[k]! =true):(L.take (k+1)).all J3=true:=by
 rw[dD4 hk,dD1,h]
 rw[bA7 _ k hk] at h2
 simp[h2]
theorem WM {L:List u6} {k:Nat} (hk:k<L.length) (h2:J3 L[k]! =false):¬ L.all J3=true:=fun h=>by
 rw[bA7 _ k hk] at h2
 have:=bB3.1 h _ (cN3 hk)
 rw[this] at h2;cases h2
section
variable (w:World) (n:Nat)
theorem cF3 (x:u6) (hk:x.kind<256):m0 (EN w (n+3)) 166 [uS x] (.sc (.bool (!J3 x))) ⟨[],0,0⟩:=by
 have hc:=bS0 w n x hk
 cases he:J3 x with
 |true=>
  rw[he,aO9 rfl] at hc
  obtain ⟨xk,xp,xa,xb⟩:=x
  refine vF rfl fun C hC h0=>?_
  simp (disch:=try exact z0z) only[WA,simprocAttr,cR0]
  refine cF hC hc ?_
  simp (disch:=try exact z0z) only[WA,simprocAttr]
  exact d7 rfl h0 rfl
 |false=>
  rw[he,aQ4 (by decide)] at hc
  obtain ⟨xk,xp,xa,xb⟩:=x
  refine vF rfl fun C hC h0=>?_
  simp (disch:=try exact z0z) only[WA,simprocAttr,cR0]
  refine cF hC hc ?_
  simp (disch:=try exact z0z) only[WA,simprocAttr]
  exact d7 rfl h0 rfl
theorem bS6 (s:Nat) (L:List u6) (hL:L.length<=200) (hK:PD L):∃ r:Int,(L.all J3=true->r= -1)/\(¬ L.all J3=true->0<=r)/\
  m0 (EN w (n+4)) 163 [.sl s L.length (I5 L),.sc (.func (.func 166) #[] #[])] (.sc (.int .i64 r)) ⟨[],0,0⟩:=by
 have main:∀ (j:Nat),j<=L.length->(L.take j).all J3=true->(j<L.length->J3 L[j]! =false)->m0 (EN w (n+4)) 163 [.sl s L.length (I5 L),.sc (.func (.func 166) #[] #[])] (.sc (.int .i64 (if j<L.length then (j:Int) else -1))) ⟨[],0,0⟩:=by
  intro j hj h4 h7
  refine vF rfl fun C hC h0=>?_
  have h8:C.E.rounds=B6:=by rw[hC,k9]
  have h9:=E6 L
  simp (disch:=try exact z0z) only[WA,simprocAttr,cQ8]
  all_goals try omega
  refine r5 (fun m fr st=>∃ (k:Nat),m=L.length - k/\k<=j/\fr= [(0,.sl s L.length (I5 L)),(1,.sc (.func (.func 166) #[] #[])),(7,.sc (.int .i64 L.length)),(8,.sc (.int .i64 k))]/\st=⟨[],0,0⟩) L.length ?_ ⟨_,_,.refl _ _,0,by omega,bA5 _,rfl,rfl⟩ ?_
  ·rw[h8];unfold B6;omega
  rintro m fr st ⟨k,rfl,hk,rfl,rfl⟩
  by_cases h5:k<L.length
  case neg=>
   rw[aQ4 (by omega)]
   simp (disch:=try exact z0z) only[WA,simprocAttr,oR]
   all_goals try omega
   exact d7 rfl h0 rfl
  have h6:=bP L k h5
  have h1:=cF3 w n L[k]! (hK.at h5)
  by_cases hb:k=j
  ·subst hb
   rw[h7 h5] at h1
   rw[aO9 h5]
   generalize L[k]! =X at*
   obtain ⟨xk,xp,xa,xb⟩:=X
   simp (disch:=try exact z0z) only[WA,simprocAttr,oR,h6]
   all_goals try omega
   refine cF hC h1 ?_
   simp (disch:=try exact z0z) only[WA,simprocAttr]
   exact d7 rfl h0 rfl
  ·have ho:J3 L[k]! =true:=bB3.1 h4 _ (by
    rw[bA7 _ k h5]
    exact List.mem_iff_getElem.2 ⟨k,by rw[cV7];omega,List.getElem_take⟩)
   rw[ho] at h1
   generalize L[k]! =X at*
   obtain ⟨xk,xp,xa,xb⟩:=X
   simp (disch:=try exact z0z) only[WA,simprocAttr,oR,h6]
   all_goals try omega
   refine cF hC h1 ?_
   simp (disch:=try exact z0z) only[WA,simprocAttr]
   exact ⟨L.length - (k+1),_,_,by omega,.refl _ _,k+1,rfl,by omega,rfl,rfl⟩
 have hd:∃ j,j<=L.length/\(L.take j).all J3=true/\(j<L.length->J3 L[j]! =false):=by
  have:∀ m,m<=L.length->(L.take m).all J3=true\/∃ j,j<m/\(L.take j).all J3=true/\J3 L[j]! =false:=by
   intro m
   induction m with
   |zero=>intro _;exact .inl rfl
   |succ m ih=>
    intro hm
    rcases ih (by omega) with h|⟨j,h1,h2,h3⟩
    ·cases hc:J3 L[m]! with
     |true=>exact .inl (KA (by omega) h hc)
     |false=>exact .inr ⟨m,by omega,h,hc⟩
    ·exact .inr ⟨j,by omega,h2,h3⟩
  rcases this L.length (aQ5 _) with h|⟨j,h1,h2,h3⟩
  ·exact ⟨L.length,aQ5 _,h,fun h=>absurd h (dK8 _)⟩
  ·exact ⟨j,by omega,h2,fun _=>h3⟩
 obtain ⟨j,h1,h2,h3⟩:=hd
 refine ⟨_,fun h4=>?_,fun h4=>?_,main j h1 h2 h3⟩
 ·rw[aQ4 fun h=>WM h (h3 h) h4]
 ·by_cases h:j<L.length
  ·rw[aO9 h];omega
  ·have:j=L.length:=by omega
   subst this
   rw[dJ4] at h2
   exact absurd h2 h4
theorem VU (s:Nat) (L:List u6) (hL:L.length<=200) (hK:PD L):m0 (EN w (n+5)) 123 [.sl s L.length (I5 L),.sc (.func (.func 166) #[] #[])] (.sc (.bool (!(L.all J3)))) ⟨[],0,0⟩:=by
 obtain ⟨r,h1,h2,hr⟩:=bS6 w n s L hL hK
 cases ha:L.all J3 with
 |true=>
  have e:=h1 ha
  subst e
  refine vF rfl fun C hC h0=>?_
  simp (disch:=try exact z0z) only[WA,simprocAttr,bD0]
  refine cF hC hr ?_
  simp (disch:=try exact z0z) only[WA,simprocAttr]
  exact d7 rfl h0 rfl
 |false=>
  have e:=h2 (by rw[ha];decide)
  refine vF rfl fun C hC h0=>?_
  simp (disch:=try exact z0z) only[WA,simprocAttr,bD0]
  refine cF hC hr ?_
  simp (disch:=try exact z0z) only[WA,simprocAttr]
  all_goals try omega
  exact d7 rfl h0 rfl
theorem aB5 (s:Nat) (L:List u6) (hL:L.length<=140737488351232) (hK:PD L):m0 (EN w (n+6)) 127 [.sl s L.length (I5 L)] (.sc (.int .i64 (M4 L))) ⟨[],0,0⟩:=by
 have h9:=E6 L
 unfold M4
 by_cases h2:200<L.length
 ·rw[aO9 h2]
  refine vF rfl fun C hC h0=>?_
  simp (disch:=try exact z0z) only[WA,simprocAttr,aR3]
  all_goals try omega
  exact d7 rfl h0 rfl
 rw[aQ4 h2]
 have hc:=VU w n s L (by omega) hK
 cases ha:L.all J3 with
 |false=>
  rw[ha] at hc
  rw[aQ4 (by decide)]
  refine vF rfl fun C hC h0=>?_
  simp (disch:=try exact z0z) only[WA,simprocAttr,aR3]
  all_goals try omega
  refine cF hC hc ?_
  simp (disch:=try exact z0z) only[WA,simprocAttr]
  exact d7 rfl h0 rfl
 |true=>
  rw[ha] at hc
  rw[aO9 rfl]
  have hs:=aB8 w (n+3) s L (by omega) ha
  generalize H9 H2 L=U at*
  generalize H9 L3 L=M at*
  by_cases hm:200<U\/200<M
  ·rw[aO9 hm]
   have hf:200<max U M:=by omega
   generalize hX:max U M=X at*
   refine vF rfl fun C hC h0=>?_
   simp (disch:=try exact z0z) only[WA,simprocAttr,aR3]
   all_goals try omega
   refine cF hC hc ?_
   simp (disch:=try exact z0z) only[WA,simprocAttr]
   refine cF hC hs ?_
   simp (disch:=try exact z0z) only[WA,simprocAttr,xT,hX]
   all_goals try omega
   exact d7 rfl h0 rfl
  ·rw[aQ4 hm]
   have hf:max U M<=200:=by omega
   generalize hX:max U M=X at*
   refine vF rfl fun C hC h0=>?_
   simp (disch:=try exact z0z) only[WA,simprocAttr,aR3]
   all_goals try omega
   refine cF hC hc ?_
   simp (disch:=try exact z0z) only[WA,simprocAttr]
   refine cF hC hs ?_
   simp (disch:=try exact z0z) only[WA,simprocAttr,xT,hX]
   all_goals try omega
   exact d7 rfl h0 rfl
end
set_option maxHeartbeats 1000000
section
variable (w:World) (n:Nat)
theorem bP6 (x:u6) (hk:x.kind<256):m0 (EN w (n+1)) 199 [uS x] (.sc (.int .i64 (if J3 x=true then 0 else 8))) ⟨[],0,0⟩:=by
 have go:∀ e:Int,(dZ x/\e=0)\/(¬ dZ x/\e=8)->m0 (EN w (n+1)) 199 [uS x] (.sc (.int .i64 e)) ⟨[],0,0⟩:=by
  obtain ⟨k,p,a,b⟩:=x
  unfold dZ
  simp only at hk ⊢
  rcases (by omega:k=1\/k=2\/k=3\/k=4\/k=5\/k=6\/k=7\/k=8\/k=9\/k=10\/k=0\/10<k) with rfl|rfl|rfl|rfl|rfl|rfl|rfl|rfl|rfl|rfl|rfl|ha
  all_goals
   rintro e (⟨he,rfl⟩|⟨he,rfl⟩)
  all_goals
   cases p
  all_goals
   simp (config:={decide:=true}) only[reduceCtorEq,false_and,and_false,false_or,or_false,true_or,or_true,true_and,and_true,not_true_eq_false,not_false_eq_true] at he
  all_goals
   refine vF rfl fun C hC h0=>?_
   repeat' (first|(simp (disch:=try exact z0z) only[WA,simprocAttr,dC1])|(apply m9<;>intro _))
  all_goals try omega
  all_goals exact d7 rfl h0 rfl
 refine go _ ?_
 by_cases h:dZ x
 ·exact .inl ⟨h,by rw[aO9 (S8.2 h)]⟩
 ·exact .inr ⟨h,by rw[aQ4 fun hh=>h (S8.1 hh)]⟩
theorem cE9 (x:u6) (hx:dZ x):m0 (EN w (n+1)) 200 [uS x] (.sc (.int .i64 (H2 x))) ⟨[],0,0⟩/\m0 (EN w (n+1)) 201 [uS x] (.sc (.int .i64 (L3 x))) ⟨[],0,0⟩:=by
 have hb:=hx.bounds
 obtain ⟨k,p,a,b⟩:=x
 simp only at hb
 clear hx
 constructor
 all_goals
  rcases (by omega:k=1\/k=2\/k=3\/k=4\/k=5\/k=6\/k=7\/k=8\/k=9\/k=10) with rfl|rfl|rfl|rfl|rfl|rfl|rfl|rfl|rfl|rfl
  all_goals
   refine vF rfl fun C hC h0=>?_
   repeat' (first|(simp (disch:=try exact z0z) only[WA,simprocAttr,dC2,dC3]))
   exact d7 rfl h0 rfl
theorem OE (s:Nat) (L:List u6) (hL:L.length<=200) (h6:L.all J3=true):m0 (EN w (n+2)) 165 [.sl s L.length (I5 L)] (.tup [.sc (.int .i64 (H9 H2 L)),.sc (.int .i64 (H9 L3 L))]) ⟨[],0,0⟩:=by
 refine vF rfl fun C hC h0=>?_
 have h5:C.E.rounds=B6:=by rw[hC,k9]
 have h8:=E6 L
 simp (disch:=try exact z0z) only[WA,simprocAttr,dB7]
 all_goals try omega
 refine r5 (fun m fr st=>∃ (k:Nat),m=L.length - k/\k<=L.length/\fr= [(0,.sl s L.length (I5 L)),(4,.sc (.int .i64 (H9 H2 (L.take k)))),(5,.sc (.int .i64 (H9 L3 (L.take k)))),(6,.sc (.int .i64 k))]/\st=⟨[],0,0⟩) L.length ?_ ⟨_,_,.refl _ _,0,by omega,bA5 _,rfl,rfl⟩ ?_
 ·rw[h5];unfold B6;omega
 rintro m fr st ⟨k,rfl,hk,rfl,rfl⟩
 by_cases h1:k<L.length
 case neg=>
  have:k=L.length:=by omega
  subst this
  rw[dJ4]
  simp (disch:=try exact z0z) only[WA,simprocAttr,YU]
  all_goals try omega
  exact d7 rfl h0 rfl
 have h3:=bP L k h1
 have u1:=nM (f:=H2) h1
 have u2:=nM (f:=L3) h1
 have h7:∀ x ∈ L.take k,dZ x:=fun x hx=>S8.1 (bB3.1 h6 x (dM0 hx))
 have b1:=nN (f:=H2) fun x hx=>(aO (h7 x hx)).1
 have b2:=nN (f:=L3) fun x hx=>(aO (h7 x hx)).2
 have hd:(L.take k).length<=200:=by rw[cV7];omega
 have hx:dZ L[k]! :=S8.1 (bB3.1 h6 _ (by rw[bA7 _ k h1];exact cN3 h1))
 generalize L[k]! =X at*
 have c1:=aO hx
 obtain ⟨l1,l2⟩:=cE9 w n X hx
 generalize H9 H2 (L.take k)=U at*
 generalize H9 L3 (L.take k)=M at*
 generalize H2 X=uu at*
 generalize L3 X=mm at*
 obtain ⟨xk,xp,xa,xb⟩:=X
 simp (disch:=try exact z0z) only[WA,simprocAttr,YU,h3]
 all_goals try omega
 refine cF hC l1 ?_
 simp (disch:=try exact z0z) only[WA,simprocAttr,h3]
 refine cF hC l2 ?_
 simp (disch:=try exact z0z) only[WA,simprocAttr]
 all_goals try omega
 refine ⟨L.length - (k+1),_,_,by omega,.refl _ _,k+1,rfl,by omega,?_,rfl⟩
 rw[u1,u2]
 rfl
theorem bP3 (s:Nat) (L:List u6) (hL:L.length<=140737488351232) (hK:PD L):m0 (EN w (n+3)) 164 [.sl s L.length (I5 L)] (.sc (.int .i64 (M4 L))) ⟨[],0,0⟩:=by
 refine vF rfl fun C hC h0=>?_
 have h5:C.E.rounds=B6:=by rw[hC,k9]
 have h8:=E6 L
 unfold M4
 by_cases h2:200<L.length
 ·rw[aO9 h2]
  simp (disch:=try exact z0z) only[WA,simprocAttr,cQ9]
  all_goals try omega
  exact d7 rfl h0 rfl
 rw[aQ4 h2]
 simp (disch:=try exact z0z) only[WA,simprocAttr,cQ9]
 all_goals try omega
 refine r5 (fun m fr st=>∃ (k:Nat),m=L.length - k/\k<=L.length/\(L.take k).all J3=true/\fr= [(0,.sl s L.length (I5 L)),(3,.sc (.int .i64 k))]/\st=⟨[],0,0⟩) L.length ?_ ⟨_,_,.refl _ _,0,by omega,bA5 _,rfl,rfl,rfl⟩ ?_
 ·rw[h5];unfold B6;omega
 rintro m fr st ⟨k,rfl,hk,h4,rfl,rfl⟩
 by_cases h1:k<L.length
 ·have h3:=bP L k h1
  have hc:=bP6 w (n+1) L[k]! (hK.at h1)
  cases hx:J3 L[k]! with
  |true=>
   have h9:=KA h1 h4 hx
   rw[hx,aO9 rfl] at hc
   generalize L[k]! =X at*
   obtain ⟨xk,xp,xa,xb⟩:=X
   simp (disch:=try exact z0z) only[WA,simprocAttr,yV,h3]
   all_goals try omega
   refine cF hC hc ?_
   simp (disch:=try exact z0z) only[WA,simprocAttr]
   exact ⟨L.length - (k+1),_,_,by omega,.refl _ _,k+1,rfl,by omega,h9,rfl,rfl⟩
  |false=>
   rw[aQ4 (WM h1 hx)]
   rw[hx,aQ4 (by decide)] at hc
   generalize L[k]! =X at*
   obtain ⟨xk,xp,xa,xb⟩:=X
   simp (disch:=try exact z0z) only[WA,simprocAttr,yV,h3]
   all_goals try omega
   refine cF hC hc ?_
   simp (disch:=try exact z0z) only[WA,simprocAttr]
   exact d7 rfl h0 rfl
 ·have:k=L.length:=by omega
  subst this
  rw[dJ4] at h4
  rw[aO9 h4]
  have hs:=OE w n s L (by omega) h4
  generalize H9 H2 L=U at*
  generalize H9 L3 L=M at*
  by_cases hm:200<U\/200<M
  ·rw[aO9 hm]
   simp (disch:=try exact z0z) only[WA,simprocAttr,yV]
   all_goals try omega
   refine cF hC hs ?_
   repeat' (first|(simp (disch:=try exact z0z) only[WA,simprocAttr])|(apply m9<;>intro _))
   all_goals try omega
   all_goals exact d7 rfl h0 rfl
  ·rw[aQ4 hm]
   simp (disch:=try exact z0z) only[WA,simprocAttr,yV]
   all_goals try omega
   refine cF hC hs ?_
   simp (disch:=try exact z0z) only[WA,simprocAttr]
   all_goals try omega
   all_goals exact d7 rfl h0 rfl
def MW (l:Nat):Bool:=decide (60<l/\l<=200\/300<l)
end
end Go.Proofs.YtgohenjcanfolaaGreatDoor
namespace Go.Itp
set_option linter.unusedVariables false
set_option linter.unusedSimpArgs false
structure E5 where
 op:Nat
 right:Bool
 bed:Nat
 pos:Int
 to:Int
 car:Int
 rack:Int
theorem E5.ext' {i j:E5} (h1:i.op=j.op) (h2:i.right=j.right) (h3:i.bed=j.bed) (h4:i.pos=j.pos) (h5:i.to=j.to) (h6:i.car=j.car) (h7:i.rack=j.rack):i=j:=by
 cases i;cases j;simp_all
def Q7:E5:=⟨0,false,0,0,0,0,0⟩
def EZ (i:E5):List Value:= [.int .u8 i.op,.bool i.right,.int .u8 i.bed,.int .i64 i.pos,.int .i64 i.to,.int .i64 i.car,.int .i64 i.rack]
def L2 (i:E5):V:= .agg [.sc (.int .u8 i.op),.sc (.bool i.right),.sc (.int .u8 i.bed),.sc (.int .i64 i.pos),.sc (.int .i64 i.to),.sc (.int .i64 i.car),.sc (.int .i64 i.rack)]
abbrev L4 (z:Int):Prop:= -100<=z/\z<=100
def K5 (i:E5):Prop:=
 (i.op=1\/i.op=2)/\(1<=i.car/\i.car<=6)/\i.right=false/\i.bed=0/\i.pos=0/\i.to=0/\i.rack=0\/
 (i.op=3\/i.op=4\/i.op=5)/\(1<=i.car/\i.car<=6)/\i.bed<=1/\L4 i.pos/\i.to=0/\i.rack=0\/
 i.op=6/\(1<=i.car/\i.car<=6)/\i.bed<=1/\L4 i.pos/\L4 i.to/\i.rack=0\/
 i.op=7/\i.right=false/\i.car=0/\i.rack=0/\i.bed<=1/\L4 i.pos/\L4 i.to\/
 i.op=8/\i.right=false/\i.bed=0/\i.pos=0/\i.to=0/\i.car=0/\ -8<=i.rack/\i.rack<=8\/
 i.op=9/\i.right=false/\i.to=0/\i.car=0/\i.rack=0/\i.bed<=1/\L4 i.pos
open Classical in
noncomputable def eJ (i:E5):Bool:=decide (K5 i)
open Classical in
theorem K4 {i:E5}:eJ i=true↔K5 i:=by
 unfold eJ
 constructor
 ·exact of_decide_eq_true
 ·intro h;exact dA1 h
def C5:Nat->List UInt8
 |1=> [105,110]
 |2=> [111,117,116]
 |3=> [107,110,105,116]
 |4=> [116,117,99,107]
 |5=> [109,105,115,115]
 |6=> [115,112,108,105,116]
 |7=> [120,102,101,114]
 |8=> [114,97,99,107]
 |9=> [100,114,111,112]
 |_=> []
def q8:Nat->List UInt8
 |1=> [99]
 |2=> [99]
 |3=> [100,110,99]
 |4=> [100,110,99]
 |5=> [100,110,99]
 |6=> [100,110,111,99]
 |7=> [110,111]
 |8=> [114]
 |9=> [110]
 |_=> []
def aW (b:Nat) (z:Int):List UInt8:=(if b=1 then 98 else 102)::Lib.itoa z
def U8 (i:E5) (c:UInt8):List UInt8:=
 if c=100 then (if i.right=true then [43] else [45]) else if c=110 then aW i.bed i.pos else if c=111 then aW (1 - i.bed) i.to else if c=99 then Lib.itoa i.car else Lib.itoa i.rack
def r8 (i:E5):List UInt8:=join 32 (C5 i.op::(q8 i.op).map (U8 i))
theorem AL (z:Int):∀ c ∈ Lib.itoa z,W1 c=true\/c=45:=fun c hc=>by
 rcases Int.lt_or_le z 0 with h|h
 ·have e:Lib.itoa z=45::Lib.decDigits z.natAbs:=by unfold Lib.itoa;rw[aO9 h]
  rw[e] at hc
  rcases bX5.1 hc with rfl|hc
  ·exact .inr rfl
  ·exact .inl (dA _ _ (aQ5 _) c hc)
 ·exact .inl (AM h c hc)
theorem tY (z:Int):(32:UInt8) ∉ Lib.itoa z/\(10:UInt8) ∉ Lib.itoa z:=by
 constructor
 ·intro h;rcases AL z _ h with h|h<;>revert h<;>decide
 ·intro h;rcases AL z _ h with h|h<;>revert h<;>decide
theorem BQ (i:E5) (c:UInt8):(32:UInt8) ∉ U8 i c/\(10:UInt8) ∉ U8 i c:=by
 have hn:∀ (b:Nat) (z:Int),(32:UInt8) ∉ aW b z/\(10:UInt8) ∉ aW b z:=fun b z=>by
  have:=tY z
  unfold aW
  simp only[bX5,not_or]
  refine ⟨⟨?_,this.1⟩,⟨?_,this.2⟩⟩<;>split<;>decide
 unfold U8
 split
 ·split<;>simp
 split
 ·exact hn _ _
 split
 ·exact hn _ _
 split
 ·exact tY _
 ·exact tY _
theorem TN:∀ op:Nat,(32:UInt8) ∉ C5 op/\(10:UInt8) ∉ C5 op
 |0=>by decide
 |1=>by decide
 |2=>by decide
 |3=>by decide
 |4=>by decide
 |5=>by decide
 |6=>by decide
 |7=>by decide
 |8=>by decide
 |9=>by decide
 |n+10=>by show (32:UInt8) ∉ []/\(10:UInt8) ∉ [];simp
theorem eO (i:E5):v7 32 (r8 i)=C5 i.op::(q8 i.op).map (U8 i):=
 EL (by simp) fun w hw=>by
  rcases bX5.1 hw with rfl|hw
  ·exact (TN _).1
  ·obtain ⟨c,_,rfl⟩:=dK4.1 hw
   exact (BQ i c).1
theorem tX {x y:Int} (h:Lib.itoa x=Lib.itoa y):x=y:=by
 have neg:∀ z:Int,z<0->Lib.itoa z=45::Lib.decDigits z.natAbs:=fun z h=>by unfold Lib.itoa;rw[aO9 h]
 have pos:∀ z:Int,0<=z->(45:UInt8) ∉ Lib.itoa z:=fun z h hm=>by have:=AM h _ hm;revert this;decide
 rcases Int.lt_or_le x 0 with hx|hx<;>rcases Int.lt_or_le y 0 with hy|hy
 ·rw[neg x hx,neg y hy] at h
  have:=nV (List.cons.inj h).2
  omega
 ·exact absurd (by rw[<- h,neg x hx];simp) (pos y hy)
 ·exact absurd (by rw[h,neg y hy];simp) (pos x hx)
 ·exact bK7 hx hy h
theorem aK9 {b b':Nat} {z z':Int} (hb:b<=1) (h9:b'<=1) (h:aW b z=aW b' z'):b=b'/\z=z':=by
 unfold aW at h
 obtain ⟨h1,h2⟩:=List.cons.inj h
 refine ⟨?_,tX h2⟩
 by_cases e1:b=1<;>by_cases e2:b'=1
 ·omega
 ·rw[aO9 e1,aQ4 e2] at h1;exact absurd h1 (by decide)
 ·rw[aQ4 e1,aO9 e2] at h1;exact absurd h1 (by decide)
 ·omega
theorem bB9 (u:Nat) (h:(Lib.decDigits u).length<=16):Lib.atoiAll (45::Lib.decDigits u)= .ok (-(u:Int)):=by
 rw[Lib.atoiAll_short _ (by simp;omega)]
 have hf:=N4 u u (aQ5 _)
 have h8:=X6 u
 cases hw:Lib.decDigits u with
 |nil=>exact absurd hw h8
 |cons b r=>
  rw[hw] at hf
  simp[Lib.atoi,Lib.decNat,hf]
  rfl
theorem YN {z:Int} (h0: -1000000000000<z) (h1:z<1000000000000):Lib.atoiAll (Lib.itoa z)= .ok z:=by
 rcases Int.lt_or_le z 0 with h|h
 ·have e:Lib.itoa z=45::Lib.decDigits z.natAbs:=by unfold Lib.itoa;rw[aO9 h]
  rw[e,bB9 _ (by have:=K3 11 z.natAbs (by simpa using (by omega:z.natAbs<1000000000000));omega)]
  congr 1
  omega
 ·exact aR1 h h1
end Go.Itp
namespace Go.Itp
set_option linter.unusedVariables false
set_option linter.unusedSimpArgs false
theorem K5.op_lt {i:E5} (h:K5 i):0<i.op/\i.op<10:=by
 unfold K5 at h
 omega
theorem IM:∀ a,a<10->∀ b,b<10->0<a->0<b->C5 a=C5 b->a=b:=by decide
theorem bM0:∀ a,a<10->0<a->C5 a ≠ []:=by decide
theorem AX {α β:Type} {f g:α->β}:∀ {l:List α},l.map f=l.map g->∀ c ∈ l,f c=g c
 | [],_,c,hc=>by cases hc
 |x::l,h,c,hc=>by
  rw[cJ1,cJ1] at h
  obtain ⟨h1,h2⟩:=List.cons.inj h
  rcases bX5.1 hc with rfl|hc
  ·exact h1
  ·exact AX h2 c hc
theorem bS5 {a b:Bool} (h:(if a=true then [43] else [45]:List UInt8)=if b=true then [43] else [45]):a=b:=by
 cases a<;>cases b<;>first|rfl|(revert h;decide)
theorem aY6 {i j:E5} (hi:K5 i) (hj:K5 j) (h:r8 i=r8 j):i=j:=by
 have hw:=congrArg (v7 32) h
 rw[eO,eO] at hw
 obtain ⟨h1,h2⟩:=List.cons.inj hw
 have h9:=IM i.op hi.op_lt.2 j.op hj.op_lt.2 hi.op_lt.1 hj.op_lt.1 h1
 rw[<- h9] at h2
 have hc:=AX h2
 have d:(100:UInt8) ∈ q8 i.op->i.right=j.right:=fun hm=>bS5 (by have:=hc 100 hm;simpa only[U8,if_true] using this)
 have nn:(110:UInt8) ∈ q8 i.op->i.bed<=1->j.bed<=1->i.bed=j.bed/\i.pos=j.pos:=fun hm a b=>by
  have:=hc 110 hm
  exact aK9 a b this
 have oo:(111:UInt8) ∈ q8 i.op->i.to=j.to:=fun hm=>by
  have:=hc 111 hm
  exact (aK9 (by omega) (by omega) this).2
 have cc:(99:UInt8) ∈ q8 i.op->i.car=j.car:=fun hm=>tX (hc 99 hm)
 have rr:(114:UInt8) ∈ q8 i.op->i.rack=j.rack:=fun hm=>tX (hc 114 hm)
 unfold K5 at hi hj
 have case1:i.op=1\/i.op=2->i=j:=fun ho=>by
  have hm:(99:UInt8) ∈ q8 i.op:=by rcases ho with e|e<;>rw[e]<;>decide
  have:=cc hm
  have a1:i.right=false/\i.bed=0/\i.pos=0/\i.to=0/\i.rack=0:=by
   rcases hi with h|h|h|h|h|h<;>first|exact h.2.2|(exfalso;omega)
  have a2:j.right=false/\j.bed=0/\j.pos=0/\j.to=0/\j.rack=0:=by
   rcases hj with h|h|h|h|h|h<;>first|exact h.2.2|(exfalso;omega)
  exact E5.ext' h9 (by rw[a1.1,a2.1]) (by omega) (by omega) (by omega) this (by omega)
 have case3:i.op=3\/i.op=4\/i.op=5->i=j:=fun ho=>by
  have hm:(99:UInt8) ∈ q8 i.op/\(100:UInt8) ∈ q8 i.op/\(110:UInt8) ∈ q8 i.op:=by rcases ho with e|e|e<;>rw[e]<;>decide
  have hb:=nn hm.2.2 (by omega) (by omega)
  exact E5.ext' h9 (d hm.2.1) hb.1 hb.2 (by omega) (cc hm.1) (by omega)
 have case6:i.op=6->i=j:=fun e=>by
  have hm:(99:UInt8) ∈ q8 i.op/\(100:UInt8) ∈ q8 i.op/\(110:UInt8) ∈ q8 i.op/\(111:UInt8) ∈ q8 i.op:=by rw[e];decide
  have hb:=nn hm.2.2.1 (by omega) (by omega)
  exact E5.ext' h9 (d hm.2.1) hb.1 hb.2 (oo hm.2.2.2) (cc hm.1) (by omega)
 have case7:i.op=7->i=j:=fun e=>by
  have hm:(110:UInt8) ∈ q8 i.op/\(111:UInt8) ∈ q8 i.op:=by rw[e];decide
  have hb:=nn hm.1 (by omega) (by omega)
  have a1:i.right=false:=by rcases hi with h|h|h|h|h|h<;>first|exact h.2.1|(exfalso;omega)
  have a2:j.right=false:=by rcases hj with h|h|h|h|h|h<;>first|exact h.2.1|(exfalso;omega)
  exact E5.ext' h9 (by rw[a1,a2]) hb.1 hb.2 (oo hm.2) (by omega) (by omega)
 have case8:i.op=8->i=j:=fun e=>by
  have hm:(114:UInt8) ∈ q8 i.op:=by rw[e];decide
  have a1:i.right=false:=by rcases hi with h|h|h|h|h|h<;>first|exact h.2.1|(exfalso;omega)
  have a2:j.right=false:=by rcases hj with h|h|h|h|h|h<;>first|exact h.2.1|(exfalso;omega)
  exact E5.ext' h9 (by rw[a1,a2]) (by omega) (by omega) (by omega) (by omega) (rr hm)
 have case9:i.op=9->i=j:=fun e=>by
  have hm:(110:UInt8) ∈ q8 i.op:=by rw[e];decide
  have hb:=nn hm (by omega) (by omega)
  have a1:i.right=false:=by rcases hi with h|h|h|h|h|h<;>first|exact h.2.1|(exfalso;omega)
  have a2:j.right=false:=by rcases hj with h|h|h|h|h|h<;>first|exact h.2.1|(exfalso;omega)
  exact E5.ext' h9 (by rw[a1,a2]) hb.1 hb.2 (by omega) (by omega) (by omega)
 rcases (by omega:(i.op=1\/i.op=2)\/(i.op=3\/i.op=4\/i.op=5)\/i.op=6\/i.op=7\/i.op=8\/i.op=9) with h|h|h|h|h|h
 ·exact case1 h
 ·exact case3 h
 ·exact case6 h
 ·exact case7 h
 ·exact case8 h
 ·exact case9 h
def dA3 (s:List UInt8):Option E5->Prop
 |some i=>K5 i/\r8 i=s
 |none=>∀ i,K5 i->r8 i ≠ s
open Classical in
noncomputable def W3 (s:List UInt8):Option E5:=if h:∃ i,K5 i/\r8 i=s then some (Classical.choose h) else none
theorem uF (s:List UInt8):dA3 s (W3 s):=by
 unfold W3
 split
 ·rename_i h;exact Classical.choose_spec h
 ·rename_i h;exact fun i h1 h2=>h ⟨i,h1,h2⟩
theorem dO {i:E5} (h:K5 i):W3 (r8 i)=some i:=by
 have:=uF (r8 i)
 cases hr:W3 (r8 i) with
 |none=>rw[hr] at this;exact absurd rfl (this i h)
 |some j=>rw[hr] at this;rw[aY6 this.1 h this.2]
theorem bY2 {s:List UInt8} {r:Option E5} (h:dA3 s r):r=W3 s:=by
 cases r with
 |some i=>rw[<- h.2,dO h.1]
 |none=>
  have:=uF s
  cases hr:W3 s with
  |none=>rfl
  |some j=>rw[hr] at this;exact absurd this.2 (h j this.1)
theorem U5 {z:Int} (h0: -1000000000000<z) (h1:z<1000000000000):(Lib.itoa z).length<=13:=by
 have hd:=K3 11 z.natAbs (by simpa using (by omega:z.natAbs<1000000000000))
 rcases Int.lt_or_le z 0 with h|h
 ·have e:Lib.itoa z=45::Lib.decDigits z.natAbs:=by unfold Lib.itoa;rw[aO9 h]
  rw[e];simp;omega
 ·obtain ⟨u,rfl⟩:=cZ4 h
  rw[Lib.itoa_nonneg]
  simp only[Int.natAbs_natCast] at hd
  omega
def bS2 (i0 i:E5) (c:UInt8):E5:=
 if c=100 then ⟨i.op,i0.right,i.bed,i.pos,i.to,i.car,i.rack⟩
 else if c=110 then ⟨i.op,i.right,i0.bed,i0.pos,i.to,i.car,i.rack⟩
 else if c=111 then ⟨i.op,i.right,i.bed,i.pos,i0.to,i.car,i.rack⟩
 else if c=99 then ⟨i.op,i.right,i.bed,i.pos,i.to,i0.car,i.rack⟩
 else ⟨i.op,i.right,i.bed,i.pos,i.to,i.car,i0.rack⟩
def BP (i0:E5) (k:Nat):E5:=((q8 i0.op).take k).foldl (bS2 i0) ⟨i0.op,false,0,0,0,0,0⟩
theorem aA3 (i0:E5):BP i0 0=⟨i0.op,false,0,0,0,0,0⟩:=rfl
theorem aA2 (i0:E5) (k:Nat) (h:k<(q8 i0.op).length):BP i0 (k+1)=bS2 i0 (BP i0 k) (q8 i0.op)[k]! :=by
 unfold BP
 rw[dD4 h,List.foldl_append,bA7 _ k h]
 rfl
theorem aA1 {i0:E5} (h:K5 i0):BP i0 (q8 i0.op).length=i0:=by
 unfold BP
 rw[dJ4]
 unfold K5 at h
 obtain ⟨op,right,bed,pos,to,car,rack⟩:=i0
 simp only at h ⊢
 rcases h with ⟨h1|h1,h2,h3,h4,h5,h6,h7⟩|⟨h1|h1|h1,h2,h3,h4,h5,h6⟩|⟨h1,h2,h3,h4,h5,h6⟩|⟨h1,h2,h3,h4,h5,h6,h7⟩|⟨h1,h2,h3,h4,h5,h6,h7,h8⟩|⟨h1,h2,h3,h4,h5,h6,h7⟩
 all_goals
  subst h1
  simp_all [q8,bS2]
def eM (i0:E5) (k:Nat):List UInt8:=join 32 (((q8 i0.op).drop k).map (U8 i0))
theorem UE:∀ a,a<10->0<a->q8 a ≠ []:=by decide
theorem bT4 {i0:E5} (h:K5 i0):r8 i0=C5 i0.op++32::eM i0 0:=by
 unfold r8 eM
 rw[dD7]
 have:=UE i0.op h.op_lt.2 h.op_lt.1
 cases hp:q8 i0.op with
 |nil=>exact absurd hp this
 |cons c r=>rw[cJ1,join]
theorem aB1 (i0:E5) (k:Nat) (h:k+1=(q8 i0.op).length):eM i0 k=U8 i0 (q8 i0.op)[k]! /\eM i0 (k+1)= []:=by
 unfold eM
 constructor
 ·rw[dD0 (by omega),dJ8 (by omega),<- bA7 _ k (by omega)]
  rfl
 ·rw[dJ8 (by omega)];rfl
theorem aB2 (i0:E5) (k:Nat) (h:k+1<(q8 i0.op).length):eM i0 k=U8 i0 (q8 i0.op)[k]! ++32::eM i0 (k+1):=by
 unfold eM
 rw[dD0 (by omega),dD0 (i:=k+1) h,<- bA7 _ k (by omega),cJ1,cJ1,join]
theorem K5.bounds {i:E5} (h:K5 i):i.bed<=1/\L4 i.pos/\L4 i.to/\(0<=i.car/\i.car<=6)/\ -8<=i.rack/\i.rack<=8:=by
 unfold K5 L4 at h
 unfold L4
 omega
theorem BR {op:Nat} (h:op<10):∀ c ∈ q8 op,c=100\/c=110\/c=111\/c=99\/c=114:=by
 rcases (by omega:op=0\/op=1\/op=2\/op=3\/op=4\/op=5\/op=6\/op=7\/op=8\/op=9) with rfl|rfl|rfl|rfl|rfl|rfl|rfl|rfl|rfl|rfl<;>decide
theorem dN {op:Nat} (h:op<10):(q8 op).length<=4:=by
 rcases (by omega:op=0\/op=1\/op=2\/op=3\/op=4\/op=5\/op=6\/op=7\/op=8\/op=9) with rfl|rfl|rfl|rfl|rfl|rfl|rfl|rfl|rfl|rfl<;>decide
theorem AN (c:UInt8) (B:Nat):∀ ws:List (List UInt8),(∀ w ∈ ws,w.length<=B)->(join c ws).length<=ws.length*(B+1)
 | [],_=>by simp[join]
 | [w],h=>by have:=h w (by simp);simp[join];omega
 |w::v::ws,h=>by
  have h1:=h w (by simp)
  have h2:=AN c B (v::ws) fun x hx=>h x (cR3 _ hx)
  have e:(w::v::ws).length*(B+1)=(v::ws).length*(B+1)+(B+1):=by rw[bK2,Nat.succ_mul]
  rw[join,bA4,bK2,e]
  omega
theorem IN:∀ op,op<10->(C5 op).length<=5:=by decide
theorem KD {i:E5} (h:K5 i):(r8 i).length<=100:=by
 have hb:=h.bounds
 have h1:∀ z:Int,-1000<=z/\z<=1000->(Lib.itoa z).length<=13:=fun z hz=>U5 (by omega) (by omega)
 have h2:∀ w ∈ C5 i.op::(q8 i.op).map (U8 i),w.length<=14:=fun w hw=>by
  rcases bX5.1 hw with rfl|hw
  ·have:=IN i.op h.op_lt.2;omega
  ·obtain ⟨c,_,rfl⟩:=dK4.1 hw
   unfold U8
   split
   ·split<;>simp
   split
   ·have:=h1 i.pos (by unfold L4 at hb;omega);unfold aW;simp;omega
   split
   ·have:=h1 i.to (by unfold L4 at hb;omega);unfold aW;simp;omega
   split
   ·have:=h1 i.car (by omega);omega
   ·have:=h1 i.rack (by omega);omega
 have h3:=AN 32 14 _ h2
 have h4:=dN h.op_lt.2
 have h5:(C5 i.op::(q8 i.op).map (U8 i)).length<=5:=by rw[bK2,cZ0];omega
 unfold r8
 have:=dC6 15 h5
 omega
end Go.Itp
namespace Go.Proofs.YtgohenjcanfolaaGreatDoor
open Go Go.Itp
set_option maxRecDepth 100000
set_option linter.unusedSimpArgs false
set_option linter.unusedVariables false
abbrev r7 (l:List UInt8):V:= .sc (.string ⟨l.toArray⟩)
abbrev xH (s:Nat) (l:List (List UInt8)):V:= .sl s l.length (l.map sD)
theorem eR {P:Nat->Prop} {k:Nat} (h:∀ j,j<k->P j) (hk:P k):∀ j,j<k+1->P j:=fun j hj=>by
 rcases Nat.lt_or_eq_of_le (Nat.le_of_lt_succ hj) with h1|h1
 ·exact h j h1
 ·subst h1;exact hk
set_option maxHeartbeats 1000000
section
variable (w:World) (n:Nat)
def aO1 (b:Nat) (p:V):Prop:=p= .sc (.pointer none)\/p= .ptr b 0
theorem QO {C:C8} {st:n9} {Q:V->n9->Prop} (hC:C.E=EN w (n+2)) (b e:Nat) (p g:V) (hb:j7 st.own b=some (.box 99 e [p,g])) (hp:aO1 b p) (h4:st.ro<=b)
  (hq:Q (.tup []) ⟨A3 st.own b (.box 99 e [.ptr b 0,g]),st.next,st.ro⟩):T2 C 92 [.ptr b 0] st Q:=by
 refine mP hC rfl rfl (fun _ _=>rfl) (cJ5 rfl) hq fun C' h3 hn=>?_
 obtain ⟨H,nx,ro⟩:=st
 have h2:(2:Nat)<= [p,g].length:=aQ5 _
 rcases hp with rfl|rfl
 ·simp (disch:=try exact z0z) only[WA,simprocAttr,c92,hb,oY,zM]
  refine YX h3 (fun x s=>?_) ?_
  ·show PR w _ [x] s=some (x,[])
   rfl
  simp (disch:=try exact z0z) only[WA,simprocAttr,hb,oY]
  exact .refl _ _
 ·have hs:A3 H b (.box 99 e [.ptr b 0,g])=H:=FO _ _ _ hb
  simp (disch:=try exact z0z) only[WA,simprocAttr,c92,hb,RD,oY,zM]
  rw[hs]
  exact .refl _ _
theorem FG {C:C8} {st:n9} {Q:V->n9->Prop} (hC:C.E=EN w (n+3)) (b r:Nat) (p:V) (acc s:ByteArray) (hb:j7 st.own b=some (.box 99 1 [p,.gr 2 r acc.size])) (hr:j7 st.own r=some (.gro 5 1 false (gR acc))) (hp:aO1 b p) (h4:st.ro<=b) (h6:st.ro<=r) (h5:r ≠ b) (h9:b ≠ st.next)
  (h7:acc.size+s.size<=1099511627776) (hq:Q (.tup [.sc (.int .i64 s.size),.sc .nilIface]) ⟨(st.next,.gro 5 1 false (gR (acc++s)))::A3 (J6 r st.own) b (.box 99 1 [.ptr b 0,.gr 2 st.next (acc.size+s.size)]),st.next+1,st.ro⟩):
  T2 C 44 [.ptr b 0,.sc (.string s)] st Q:=by
 refine mP hC rfl rfl (fun _ _=>rfl) (cJ5 rfl) hq fun C' h3 hn=>?_
 obtain ⟨H,nx,ro⟩:=st
 have h1:=DF acc
 have h2:=cG2 s
 have a1:j7 (A3 H b (.box 99 1 [.ptr b 0,.gr 2 r acc.size])) b=some (.box 99 1 [.ptr b 0,.gr 2 r acc.size]):=hS hb
 have a2:j7 (A3 H b (.box 99 1 [.ptr b 0,.gr 2 r acc.size])) r=some (.gro 5 1 false (gR acc)):=by rw[H7 _ _ _ _ _ hb,aQ4 h5];exact hr
 have h8:¬ b=r:=fun e=>h5 e.symm
 have a3:j7 (J6 r (A3 H b (.box 99 1 [.ptr b 0,.gr 2 r acc.size]))) b=some (.box 99 1 [.ptr b 0,.gr 2 r acc.size]):=by rw[N2,aQ4 h8];exact a1
 simp (disch:=try exact z0z) only[WA,simprocAttr,c44]
 refine QO w n h3 b 1 p _ hb hp h4 ?_
 simp (disch:=try exact z0z) only[WA,simprocAttr,a1,a2,a3,uR,cG1,h8,h9,WO,O3]
 rw[sQ _ _ _ _ h5,mM]
 exact .refl _ _
theorem bT3 {C:C8} {st:n9} {Q:V->n9->Prop} (hC:C.E=EN w (n+1)) (b r:Nat) (p:V) (acc:ByteArray) (hb:j7 st.own b=some (.box 99 1 [p,.gr 2 r acc.size])) (hr:j7 st.own r=some (.gro 5 1 false (gR acc))) (h4:st.ro<=b) (h6:st.ro<=r)
  (h7:acc.size<=1099511627776) (hq:∀ st',st'.ro=st.ro->Q (.sc (.string acc)) st'):T2 C 46 [.ptr b 0] st Q:=by
 obtain ⟨H,nx,ro⟩:=st
 by_cases h0:acc.size=0
 ·rw[h0] at hb
  have hs:acc=ByteArray.empty:=by
   apply ByteArray.ext;apply cZ6
   rw[bA8 (show acc.data.toList.length=0 by simpa using h0)]
   rfl
  refine bE3 (st':=⟨A3 H b (.box 99 1 [p,.sc (.slice none 0 0)]),nx,ro⟩) hC rfl rfl (fun _ _=>rfl) (cJ5 rfl) (hq ⟨A3 H b (.box 99 1 [p,.sc (.slice none 0 0)]),nx,ro⟩ rfl) (fun C' hn=>?_) fun C' h3 hn=>?_
  ·exact uY (C:=C') (st:=⟨H,nx,ro⟩) (k:=1) hb rfl bR8
  have a1:j7 (A3 H b (.box 99 1 [p,.sc (.slice none 0 0)])) b=some (.box 99 1 [p,.sc (.slice none 0 0)]):=hS hb
  rw[hs]
  simp (disch:=try exact z0z) only[WA,simprocAttr,c46,a1,bA0]
  exact .refl _ _
 ·refine mP hC rfl rfl (fun _ _=>rfl) (cJ5 rfl) (hq ⟨J6 r H,nx,ro⟩ rfl) fun C' h3 hn=>?_
  have hv:=aZ9 ⟨H,nx,ro⟩ 5 1 r acc hr h6 (by omega) h7
  simp (disch:=try exact z0z) only[WA,simprocAttr,c46,hb,h0,hv]
  exact .refl _ _
end
section
variable (w:World) (n:Nat)
theorem rC (st:n9) (l:List UInt8) (c:UInt8):E7 (EN w (n+1)) 211 st [r7 l,.sc (.int .u8 c.toNat)] (.sc (.int .i64 (xB c l))):=by
 refine aA4 (ys:= [.string ⟨l.toArray⟩,.int .u8 c.toNat]) (fun s=>?_) rfl
 refine eK ?_
 show BS .indexByte 0 [.string ⟨l.toArray⟩,.int .u8 c.toNat] s=_
 unfold BS
 simp only[cJ2]
 rw[show c.toNat.toUInt8=c by simp,RN]
theorem SW (l:List UInt8) (c:UInt8):m0 (EN w (n+2)) 178 [r7 l,.sc (.int .u8 c.toNat)] (.sc (.int .i64 (xB c l))) ⟨[],0,0⟩:=by
 refine vF rfl fun C hC h0=>?_
 simp (disch:=try exact z0z) only[WA,simprocAttr,dB9]
 refine m8 (by rw[hC];exact rC w n _ l c) ?_
 repeat' (first|(simp (disch:=try exact z0z) only[WA,simprocAttr])|apply j8|((first|apply n7|apply m9|apply l8|apply n8|apply n6|apply l9)<;>intro _))
 exact d7 rfl h0 rfl
theorem bK4 (l:List UInt8) (c:UInt8) (hl:l.length<=1000000000):m0 (EN w (n+3)) 141 [r7 l,r7 [c]] (.sc (.int .i64 (xB c l))) ⟨[],0,0⟩:=by
 refine vF rfl fun C hC h0=>?_
 have h1:(ByteArray.mk [c].toArray).size=1:=rfl
 have h2:((ByteArray.mk [c].toArray)=ByteArray.mk l.toArray)↔l= [c]:=by
  constructor
  ·intro h
   have:=congrArg (fun b:ByteArray=>b.data.toList) h
   simpa using this.symm
  ·rintro rfl;rfl
 by_cases hc:l= [c]
 ·subst hc
  have hi:xB c [c]=0:=AJ (a:= []) [] (by simp)
  rw[hi]
  simp (disch:=try exact z0z) only[WA,simprocAttr,cQ0,h1]
  exact d7 rfl h0 rfl
 ·have hb:mV (r7 [c]) (.sc (.int .i64 0))=some (.sc (.int .u8 c.toNat)):=by
   rw[dH _ _ _ (by omega) (by simp)]
   rfl
  simp (disch:=try exact z0z) only[WA,simprocAttr,cQ0,h1,h2,hc,hb]
  refine m8 ((SW w n l c).of hC rfl _ rfl) ?_
  repeat' (first|(simp (disch:=try exact z0z) only[WA,simprocAttr])|apply j8|((first|apply n7|apply m9|apply l8|apply n8|apply n6|apply l9)<;>intro _))
  exact d7 rfl h0 rfl
def P9 (c:UInt8) (l:List UInt8):List UInt8 × List UInt8 × Bool:=if 0<=xB c l then (l.take (xB c l).toNat,l.drop ((xB c l).toNat+1),true) else (l,[],false)
theorem cR8 (l:List UInt8) (c:UInt8) (hl:l.length<=1000000000):m0 (EN w (n+4)) 98 [r7 l,r7 [c]] (.tup [r7 (P9 c l).1,r7 (P9 c l).2.1,.sc (.bool (P9 c l).2.2)]) ⟨[],0,0⟩:=by
 refine vF rfl fun C hC h0=>?_
 have h1:(ByteArray.mk [c].toArray).size=1:=rfl
 simp (disch:=try exact z0z) only[WA,simprocAttr,c98]
 refine m8 ((bK4 w n l c hl).of hC rfl _ rfl) ?_
 rcases cY c l with hf|⟨a,r,rfl,hf⟩
 ·have hi:=HN hf
  have e:P9 c l=(l,[],false):=by unfold P9;rw[aQ4 (by omega)]
  rw[e,hi]
  simp (disch:=try exact z0z) only[WA,simprocAttr]
  all_goals try omega
  exact d7 rfl h0 rfl
 ·have hi:=AJ r hf
  have e:P9 c (a++c::r)=(a,r,true):=by unfold P9;rw[aO9 (by omega),hi];simp
  rw[e,hi]
  have h4:a.length<=1000000000:=by simp at hl;omega
  have hb:a.length+(c::r).length<=1000000000:=by simpa using hl
  have e1:=aO4 (a++c::r) .i64 a.length (by omega) (by simp;omega)
  have e2:=sA (a++c::r) .i64 ((a.length:Int)+1) (by omega) (by simp;omega)
  rw[cJ2,List.take_left] at e1
  rw[show ((a.length:Int)+1).toNat=a.length+1 by omega,show (a++c::r).drop (a.length+1)=r by rw[<- List.drop_drop];simp] at e2
  have h3:((1:Nat):Int)=1:=rfl
  simp (disch:=try exact z0z) only[WA,simprocAttr,h1,h3,e1,e2]
  all_goals try omega
  exact d7 rfl h0 rfl
theorem aF4 (l:List UInt8) (c:UInt8) (hl:l.length<=1000000000):m0 (EN w (n+5)) 49 [r7 l,r7 [c]] (.tup [r7 (P9 c l).1,r7 (P9 c l).2.1,.sc (.bool (P9 c l).2.2)]) ⟨[],0,0⟩:=by
 refine vF rfl fun C hC h0=>?_
 simp (disch:=try exact z0z) only[WA,simprocAttr,c49]
 refine m8 ((cR8 w n l c hl).of hC rfl _ rfl) ?_
 simp (disch:=try exact z0z) only[WA,simprocAttr]
 exact d7 rfl h0 rfl
end
theorem vP (c:UInt8):∀ (m:Nat) (l:List UInt8),l.length<=m->(v7 c l).length=Lib.countByte l c+1
 |m,l,hm=>by
  rcases cY c l with h|⟨a,r,rfl,h⟩
  ·rw[aR h]
   unfold Lib.countByte
   rw[List.count_eq_zero_of_not_mem h]
   rfl
  ·rw[W9 r h]
   cases m with
   |zero=>simp at hm
   |succ m=>
    have ih:=vP c m r (by simp at hm;omega)
    unfold Lib.countByte at ih ⊢
    rw[bK2,ih,List.count_append,List.count_eq_zero_of_not_mem h,List.count_cons_self]
    omega
section
variable (w:World) (n:Nat)
theorem EW (st:n9) (l:List UInt8) (c:UInt8):E7 (EN w (n+1)) 96 st [r7 l,.sc (.int .u8 c.toNat)] (.sc (.int .i64 (Lib.countByte l c))):=by
 refine aA4 (ys:= [.string ⟨l.toArray⟩,.int .u8 c.toNat]) (fun s=>?_) rfl
 refine eK ?_
 show BS .count 0 [.string ⟨l.toArray⟩,.int .u8 c.toNat] s=_
 unfold BS
 simp only[cJ2]
 have e:c.toNat.toUInt8=c:=by simp
 rw[Lib.foldl_data,Lib.count_foldl,e]
 simp
theorem cA0 (l:List UInt8) (c:UInt8) (hl:l.length<=1000000000):m0 (EN w (n+2)) 48 [r7 l,r7 [c]] (.sc (.int .i64 (Lib.countByte l c))) ⟨[],0,0⟩:=by
 refine vF rfl fun C hC h0=>?_
 have h1:(ByteArray.mk [c].toArray).size=1:=rfl
 have hb:mV (r7 [c]) (.sc (.int .i64 0))=some (.sc (.int .u8 c.toNat)):=by
  rw[dH _ _ _ (by omega) (by simp)]
  rfl
 simp (disch:=try exact z0z) only[WA,simprocAttr,c48,h1,hb]
 refine m8 (by rw[hC];exact EW w n _ l c) ?_
 repeat' (first|(simp (disch:=try exact z0z) only[WA,simprocAttr])|apply j8|((first|apply n7|apply m9|apply l8|apply n8|apply n6|apply l9)<;>intro _))
 exact d7 rfl h0 rfl
end
set_option maxHeartbeats 2000000
section
variable (w:World) (n:Nat)
theorem bW9 {C:C8} {st:n9} {Q:V->n9->Prop} (hC:C.E=EN w (n+3)) (b r:Nat) (p:V) (l x:List UInt8) (hb:j7 st.own b=some (.box 99 1 [p,.gr 2 r l.length])) (hr:j7 st.own r=some (.gro 5 1 false (gR ⟨l.toArray⟩))) (hp:aO1 b p) (h4:st.ro<=b) (h5:st.ro<=r) (h6:r ≠ b) (h7:b ≠ st.next)
  (h8:l.length+x.length<=1099511627776) (hq:Q (.tup [.sc (.int .i64 x.length),.sc .nilIface]) ⟨(st.next,.gro 5 1 false (gR ⟨(l++x).toArray⟩))::A3 (J6 r st.own) b (.box 99 1 [.ptr b 0,.gr 2 st.next (l.length+x.length)]),st.next+1,st.ro⟩):
  T2 C 44 [.ptr b 0,r7 x] st Q:=by
 have h1:=B1 l
 have h2:=B1 x
 have h3:(ByteArray.mk l.toArray)++(ByteArray.mk x.toArray)=⟨(l++x).toArray⟩:=by
  apply ByteArray.ext;apply cZ6
  rw[ByteArray.data_append,dG7]
 refine FG w n hC b r p ⟨l.toArray⟩ ⟨x.toArray⟩ (by rw[h1];exact hb) hr hp h4 h5 h6 h7 (by rw[h1,h2];exact h8) ?_
 rw[h1,h2,h3]
 exact hq
theorem cP3 (st:n9) (b e r m:Nat) (p:V) (hb:j7 st.own b=some (.box 99 e [p,.gr 2 r m])) (hm:m<=1000000):E7 (EN w (n+1)) 45 st [.ptr b 0] (.sc (.int .i64 m)):=by
 refine EH rfl rfl (fun _ _=>rfl) (cJ5 rfl) rfl fun C hC h0=>⟨⟨st.own,st.next,st.next⟩,?_⟩
 simp (disch:=try exact z0z) only[WA,simprocAttr,c45,hb]
 exact .refl _ _
end
theorem QX (x:Nat):Lib.decDigits x=(if x / 10=0 then [] else Lib.decDigits (x / 10))++ [UInt8.ofNat (48+x % 10)]:=by
 by_cases h:x<10
 ·rw[Lib.decDigits,dif_pos h,aO9 (by omega),show x % 10=x by omega];rfl
 ·rw[Lib.decDigits,dif_neg h,aQ4 (by omega)]
section
variable (w:World) (n:Nat)
theorem GW (x:Nat) (hx:x<=1000000000000):m0 (EN w (n+1)) 140 [.sc (.int .i64 x)] (r7 (Lib.decDigits x)) ⟨[],0,0⟩:=by
 refine vF rfl fun C hC h0=>?_
 have h1:∀ (c:UInt8) (s:List UInt8),s.length<=2000000000000->(ByteArray.mk [c].toArray).size+(ByteArray.mk s.toArray).size<9223372036854775807:=fun c s h=>by
  show 1+s.toArray.size<_
  simp;omega
 have e1:(x:Int) % 10=((x % 10:Nat):Int):=by omega
 have e2:(x:Int) / 10=((x / 10:Nat):Int):=by omega
 have e4:(48:Int)+((x % 10:Nat):Int)=((48+x % 10:Nat):Int):=by omega
 have e3:=LB (48+x % 10) (by omega)
 have e5:=aE0 (o:=0) (t:=5) (g:=false) (z:=false) (H:= [(0,.row 5 1 false false [.sc (.int .u8 ((48+x % 10:Nat):Int))])]) (48+x % 10) (by omega) rfl 1
 simp (disch:=try exact z0z) only[WA,simprocAttr,dB4,e1,e2,e4,e3,e5]
 refine r5 (fun m fr st=>∃ (k:Nat) (s:List UInt8),m=k/\k<=x/\Lib.decDigits x=(if k=0 then [] else Lib.decDigits k)++s/\s.length+k<=x+1/\fr= [(0,.sc (.int .i64 k)),(3,r7 s)]/\st=⟨[],0,0⟩) (x / 10) ?_ ⟨_,_,o9 [] 0 h0 rfl rfl rfl rfl,x / 10,[UInt8.ofNat (48+x % 10)],?_⟩ ?_
 ·rw[hC,k9];unfold B6;omega
 ·exact ⟨rfl,by omega,QX x,by simp;omega,rfl,rfl⟩
 rintro k fr st ⟨_,s,rfl,hk,hd,h2,rfl,rfl⟩
 by_cases h3:0<k
 ·rw[aQ4 (by omega),QX k] at hd
  have e1:(k:Int) % 10=((k % 10:Nat):Int):=by omega
  have e2:(k:Int) / 10=((k / 10:Nat):Int):=by omega
  have e4:(48:Int)+((k % 10:Nat):Int)=((48+k % 10:Nat):Int):=by omega
  have e3:=LB (48+k % 10) (by omega)
  have e5:=aE0 (o:=0) (t:=5) (g:=false) (z:=false) (H:= [(0,.row 5 1 false false [.sc (.int .u8 ((48+k % 10:Nat):Int))])]) (48+k % 10) (by omega) rfl 1
  simp (disch:=try exact z0z) only[WA,simprocAttr,YT,e1,e2,e4,e3,e5,bC3 _ _ (h1 (UInt8.ofNat (48+k % 10)) s (by omega)),FY]
  all_goals try omega
  refine ⟨_,_,_,?_,o9 [] 0 h0 rfl rfl rfl rfl,k / 10,UInt8.ofNat (48+k % 10)::s,rfl,by omega,?_,by simp;omega,?_,?_⟩
  ·omega
  ·rw[hd];simp
  ·simp[xE,Z1]
  ·simp[uG]
 ·have:k=0:=by omega
  subst this
  rw[hd]
  simp (disch:=try exact z0z) only[WA,simprocAttr,YT]
  all_goals try omega
  exact d7 rfl h0 rfl
end
section
variable (w:World) (n:Nat)
theorem cV4 (l:List UInt8) (c:UInt8) (hl:l.length<=1000000):m0 (EN w (n+1)) 51 [r7 l,.sc (.int .u8 c.toNat)] (.gr 2 0 (v7 c l).length) ⟨[(0,.gro 9 1 false ((v7 c l).map sD))],1,0⟩:=by
 refine vG rfl (bQ6 (TJ rfl)) fun C hC h0=>?_
 have h6:C.E.rounds=B6:=by rw[hC,k9]
 have h9:=B1 l
 simp (disch:=try exact z0z) only[WA,simprocAttr,c51]
 refine r5 (fun m fr st=>∃ (dn:List (List UInt8)) (p x r:List UInt8),m=r.length+1/\l=p++(x++r)/\c ∉ x/\v7 c l=dn++v7 c (x++r)/\fr= [(0,r7 l),(1,.sc (.int .u8 c.toNat)),(5,.gr 2 0 dn.length),(6,.sc (.int .i64 p.length)),(7,.sc (.int .i64 ((p.length+x.length:Nat):Int)))]/\st=⟨[(0,.gro 9 1 false (dn.map sD))],1,0⟩\/(m=0/\dn=v7 c l/\fr= [(0,r7 l),(1,.sc (.int .u8 c.toNat)),(5,.gr 2 0 dn.length),(6,.sc (.int .i64 ((l.length:Int)+1))),(7,.sc (.int .i64 ((l.length:Int)+1)))]/\st=⟨[(0,.gro 9 1 false (dn.map sD))],1,0⟩)) (l.length+1) ?_ ⟨_,_,T1 5 9 1 rfl,[],[],[],l,.inl ⟨rfl,rfl,by simp,rfl,rfl,rfl⟩⟩ ?_
 ·rw[h6];unfold B6;omega
 rintro m fr st ⟨dn,p,x,r,⟨rfl,h3,hx,hw,rfl,rfl⟩|⟨rfl,rfl,rfl,rfl⟩⟩
 case inr=>
  simp (disch:=try exact z0z) only[WA,simprocAttr,QC]
  all_goals try omega
  exact .refl _ _
 have ha:l.length=p.length+(x.length+r.length):=by rw[h3];simp
 have hc:=(gZ (c:=c) l.length (s:=l) (aQ5 _)).1
 have hd:dn.length<=l.length:=by
  have h1:=congrArg List.length hw
  have h2:=dL2.2 (sJ c (x++r))
  rw[bA4] at h1
  omega
 have he:(dn.map sD).length=dn.length:=by rw[cZ0]
 have e1:=aX5 l .i64 .i64 (p.length:Int) ((p.length+x.length:Nat):Int) (by omega) (by omega) (by omega)
 have e2:List.take (p.length+x.length - p.length) (List.drop p.length l)=x:=by
  rw[h3,List.drop_left,Nat.add_sub_cancel_left,List.take_left]
 simp only[cJ2] at e1
 rw[e2] at e1
 cases r with
 |nil=>
  have h7:([]:List UInt8).length=0:=rfl
  rw[dC9,aR hx] at hw
  have h4:((p.length+x.length:Nat):Int)=(l.length:Int):=by omega
  have hf:D.sc (Value.string ⟨x.toArray⟩)=sD x:=rfl
  simp (disch:=try exact z0z) only[WA,simprocAttr,QC,e1,P3]
  all_goals try omega
  rw[h4]
  refine ⟨_,_,_,by omega,o9 [(2,0)] 1 h0 rfl rfl rfl rfl,dn++ [x],[],[],[],.inr ⟨rfl,hw.symm,?_,?_⟩⟩
  ·rw[bA4];rfl
  ·rw[dK6];rfl
 |cons b r=>
  have h7:(b::r).length=r.length+1:=rfl
  have hb:=dH l .i64 ((p.length+x.length:Nat):Int) (by omega) (by omega)
  have hg:l[p.length+x.length]! =b:=by
   rw[h3,<- bL9,bA7 _ _ (by simp),List.getElem_append_right (by simp)]
   simp
  rw[cJ2,hg] at hb
  by_cases h5:b=c
  ·subst h5
   rw[W9 r hx] at hw
   simp (disch:=try exact z0z) only[WA,simprocAttr,QC,e1,hb,P3]
   all_goals try omega
   refine ⟨_,_,_,?_,o9 [(2,0)] 1 h0 rfl rfl rfl rfl,dn++ [x],p++(x++ [b]),[],r,.inl ⟨rfl,by rw[h3];simp,by simp,by rw[hw];simp,?_,?_⟩⟩
   ·omega
   ·have h4:(p++(x++ [b])).length=p.length+x.length+1:=by simp;omega
    rw[h4,bA4];rfl
   ·rw[dK6];rfl
  ·have h8:¬ ((b.toNat:Nat):Int)=((c.toNat:Nat):Int):=fun h=>h5 (UInt8.toNat_inj.1 (by omega))
   simp (disch:=try exact z0z) only[WA,simprocAttr,QC,e1,hb,h8,P3]
   all_goals try omega
   refine ⟨_,_,_,?_,.refl _ _,dn,p,x++ [b],r,.inl ⟨rfl,by rw[h3];simp,?_,by rw[hw];simp,?_,rfl⟩⟩
   ·omega
   ·rw[cB1,cZ2];rintro (h|h);exact hx h;exact h5 h.symm
   ·rw[bA4];rfl
end
def xD (c:UInt8) (l:List UInt8):List UInt8 × Bool:=if l.head? =some c then (l.tail,true) else (l,false)
theorem NT (c:UInt8) (l:List UInt8):(F6 [c] l).getD l=(xD c l).1/\(F6 [c] l).isSome=(xD c l).2:=by
 unfold F6 xD
 cases l with
 |nil=>exact ⟨rfl,rfl⟩
 |cons b r=>by_cases h:b=c<;>simp[h]
section
variable (w:World) (n:Nat)
theorem HJ (s p:List UInt8) (hs:s.length<=1000000):m0 (EN w (n+1)) 182 [r7 s,r7 p] (.sc (.bool (F6 p s).isSome)) ⟨[],0,0⟩:=by
 have h1:=B1 s
 have h2:=B1 p
 unfold F6
 by_cases hl:p.length<=s.length
 ·have e1:=aO4 s .i64 p.length (by omega) (by omega)
  rw[cJ2] at e1
  by_cases he:s.take p.length=p
  ·rw[aO9 ⟨hl,he⟩]
   rw[he] at e1
   refine vF rfl fun C hC h0=>?_
   simp (disch:=try exact z0z) only[WA,simprocAttr,bZ3,h1,h2,e1]
   all_goals try omega
   exact d7 rfl h0 rfl
  ·rw[aQ4 fun h=>he h.2]
   have h3:¬ ((⟨(s.take p.length).toArray⟩:ByteArray)=⟨p.toArray⟩):=by rw[T9];exact he
   generalize s.take p.length=T at*
   refine vF rfl fun C hC h0=>?_
   simp (disch:=try exact z0z) only[WA,simprocAttr,bZ3,h1,h2,e1,h3]
   all_goals try omega
   exact d7 rfl h0 rfl
 ·rw[aQ4 fun h=>hl h.1]
  refine vF rfl fun C hC h0=>?_
  simp (disch:=try exact z0z) only[WA,simprocAttr,bZ3,h1,h2]
  all_goals try omega
  exact d7 rfl h0 rfl
theorem tB {p s t:List UInt8} (h:F6 p s=some t):p.length<=s.length/\t=s.drop p.length:=by
 unfold F6 at h
 split at h
 ·rename_i hc;cases h;exact ⟨hc.1,rfl⟩
 ·cases h
theorem ZF (s p:List UInt8) (hs:s.length<=1000000):m0 (EN w (n+2)) 142 [r7 s,r7 p] (.tup [r7 ((F6 p s).getD s),.sc (.bool (F6 p s).isSome)]) ⟨[],0,0⟩:=by
 have h1:=B1 s
 have h2:=B1 p
 have hh:=HJ w n s p hs
 cases hc:F6 p s with
 |none=>
  rw[hc] at hh
  refine vF rfl fun C hC h0=>?_
  simp (disch:=try exact z0z) only[WA,simprocAttr,cQ2]
  refine cF hC hh ?_
  simp (disch:=try exact z0z) only[WA,simprocAttr,Option.isSome_none]
  exact d7 rfl h0 rfl
 |some t=>
  rw[hc] at hh
  obtain ⟨hl,ht⟩:=tB hc
  have e1:=sA s .i64 p.length (by omega) (by omega)
  rw[cJ2,<- ht] at e1
  refine vF rfl fun C hC h0=>?_
  simp (disch:=try exact z0z) only[WA,simprocAttr,cQ2]
  refine cF hC hh ?_
  simp (disch:=try exact z0z) only[WA,simprocAttr,dL8,h2,e1]
  exact d7 rfl h0 rfl
theorem fG (s p:List UInt8) (hs:s.length<=1000000):m0 (EN w (n+3)) 99 [r7 s,r7 p] (.tup [r7 ((F6 p s).getD s),.sc (.bool (F6 p s).isSome)]) ⟨[],0,0⟩:=by
 have hh:=ZF w n s p hs
 generalize (F6 p s).getD s=T at*
 generalize (F6 p s).isSome=B at*
 refine vF rfl fun C hC h0=>?_
 simp (disch:=try exact z0z) only[WA,simprocAttr,c99]
 refine cF hC hh ?_
 simp (disch:=try exact z0z) only[WA,simprocAttr]
 exact d7 rfl h0 rfl
theorem XB (s p:List UInt8) (hs:s.length<=1000000):m0 (EN w (n+2)) 216 [r7 s,r7 p] (r7 ((F6 p s).getD s)) ⟨[],0,0⟩:=by
 have h1:=B1 s
 have h2:=B1 p
 have hh:=HJ w n s p hs
 cases hc:F6 p s with
 |none=>
  rw[hc] at hh
  refine vF rfl fun C hC h0=>?_
  simp (disch:=try exact z0z) only[WA,simprocAttr,cR2]
  refine cF hC hh ?_
  simp (disch:=try exact z0z) only[WA,simprocAttr,Option.isSome_none]
  exact d7 rfl h0 rfl
 |some t=>
  rw[hc] at hh
  obtain ⟨hl,ht⟩:=tB hc
  have e1:=sA s .i64 p.length (by omega) (by omega)
  rw[cJ2,<- ht] at e1
  refine vF rfl fun C hC h0=>?_
  simp (disch:=try exact z0z) only[WA,simprocAttr,cR2]
  refine cF hC hh ?_
  simp (disch:=try exact z0z) only[WA,simprocAttr,dL8,h2,e1]
  exact d7 rfl h0 rfl
theorem aC2 (s p:List UInt8) (hs:s.length<=1000000):m0 (EN w (n+3)) 188 [r7 s,r7 p] (r7 ((F6 p s).getD s)) ⟨[],0,0⟩:=by
 have hh:=XB w n s p hs
 generalize (F6 p s).getD s=T at*
 refine vF rfl fun C hC h0=>?_
 simp (disch:=try exact z0z) only[WA,simprocAttr,dC0]
 refine cF hC hh ?_
 repeat' (first|(simp (disch:=try exact z0z) only[WA,simprocAttr])|apply j8|((first|apply n7|apply m9|apply l8|apply n8|apply n6|apply l9)<;>intro _))
 exact d7 rfl h0 rfl
theorem QR (l:List UInt8) (c:UInt8) (hl:l.length<=1000000):m0 (EN w (n+3)) 99 [r7 l,r7 [c]] (.tup [r7 (xD c l).1,.sc (.bool (xD c l).2)]) ⟨[],0,0⟩:=by
 rw[<- (NT c l).1,<- (NT c l).2]
 exact fG w n l [c] hl
theorem aY7 (l:List UInt8) (c:UInt8) (hl:l.length<=1000000):m0 (EN w (n+3)) 188 [r7 l,r7 [c]] (r7 (xD c l).1) ⟨[],0,0⟩:=by
 rw[<- (NT c l).1]
 exact aC2 w n l [c] hl
theorem FV (z:Int):m0 (EN w (n+1)) 103 [.sc (.int .i64 z)] (.sc (.bool (decide (L4 z)))) ⟨[],0,0⟩:=by
 refine vF rfl fun C hC h0=>?_
 by_cases h:L4 z
 ·rw[dA1 h]
  unfold L4 at h
  simp (disch:=try exact z0z) only[WA,simprocAttr,cP4]
  all_goals try omega
  exact d7 rfl h0 rfl
 ·rw[dA7 h]
  unfold L4 at h
  repeat' (first|(simp (disch:=try exact z0z) only[WA,simprocAttr,cP4])|(apply m9<;>intro _))
  all_goals try omega
  all_goals exact d7 rfl h0 rfl
theorem cM6 (z:Int):m0 (EN w (n+1)) 54 [.sc (.int .i64 z)] (.sc (.bool (decide (L4 z)))) ⟨[],0,0⟩:=by
 refine vF rfl fun C hC h0=>?_
 by_cases h:L4 z
 ·rw[dA1 h]
  unfold L4 at h
  simp (disch:=try exact z0z) only[WA,simprocAttr,c54]
  all_goals try omega
  exact d7 rfl h0 rfl
 ·rw[dA7 h]
  unfold L4 at h
  repeat' (first|(simp (disch:=try exact z0z) only[WA,simprocAttr,c54])|(apply m9<;>intro _))
  all_goals try omega
  all_goals exact d7 rfl h0 rfl
theorem cE5 (z:Int):m0 (EN w (n+1)) 55 [.sc (.int .i64 z)] (.sc (.bool (decide (1<=z/\z<=6)))) ⟨[],0,0⟩:=by
 refine vF rfl fun C hC h0=>?_
 by_cases h:1<=z/\z<=6
 ·rw[dA1 h]
  simp (disch:=try exact z0z) only[WA,simprocAttr,c55]
  all_goals try omega
  exact d7 rfl h0 rfl
 ·rw[dA7 h]
  repeat' (first|(simp (disch:=try exact z0z) only[WA,simprocAttr,c55])|(apply m9<;>intro _))
  all_goals try omega
  all_goals exact d7 rfl h0 rfl
end
end Go.Proofs.YtgohenjcanfolaaGreatDoor
namespace Go.Itp
def AC.l:AC->AC
 | .seq a _=>a
 |x=>x
def AC.r:AC->AC
 | .seq _ b=>b
 |x=>x
end Go.Itp
namespace Go.Proofs.YtgohenjcanfolaaGreatDoor
open Go Go.Itp
set_option maxRecDepth 100000
set_option maxHeartbeats 2000000
set_option linter.unusedSimpArgs false
set_option linter.unusedVariables false
abbrev dM3 (o:Nat) (r:Bool) (b:Nat) (p t c k:Int):List V:= [.sc (.int .u8 o),.sc (.bool r),.sc (.int .u8 b),.sc (.int .i64 p),.sc (.int .i64 t),.sc (.int .i64 c),.sc (.int .i64 k)]
abbrev cC0 (o:Nat) (r:Bool) (b:Nat) (p t c k:Int):Itp.Obj:= .box 54 1 (dM3 o r b p t c k)
section
variable (w:World) (n:Nat)
theorem PW {C:C8} (hC:C.E=EN w (n+1)) (h0:C.w0.nx=0) (o:Nat) (r:Bool) (b:Nat) (p t c k:Int) (o':Nat) (r':Bool) (b':Nat) (p' t' c' k':Int) (ok:Bool) (E:Bool) (R:Int)
  (hE:(decide ((o':Int)=0) && (r'==false && (decide ((b':Int)=0) && (decide (p'=0) && (decide (t'=0) && (decide (c'=0) && decide (k'=0)))))))=E)
  (h:R=if ok=true/\E=true/\b<=1/\L4 p/\L4 t then 0 else 8) {T:AC} (hT:T=AC.r (AC.r (AC.r (AC.r (AC.r (AC.r xM.code)))))):
  gC C T [] [(1,.ptr 0 0),(4,.ptr 1 0),(5,.sc (.bool ok))] ⟨[(1,cC0 o' r' b' p' t' c' k'),(0,cC0 o r b p t c k)],2,0⟩ (fC C xM.res (.sc (.int .i64 R)) ⟨[],0,0⟩):=by
 have hp:=(FV w n p).of hC rfl
 have ht:=(FV w n t).of hC rfl
 simp only[xM,AC.r] at hT
 subst hT
 cases ok
 ·rw[aQ4 (by simp)] at h
  subst h
  simp (disch:=try exact z0z) only[WA,simprocAttr,xM]
  exact d7 rfl h0 rfl
 cases E
 ·rw[aQ4 (by simp)] at h
  subst h
  simp (disch:=try exact z0z) only[WA,simprocAttr,xM,hE]
  exact d7 rfl h0 rfl
 by_cases hb:b<=1
 case neg=>
  rw[aQ4 (fun hh=>hb hh.2.2.1)] at h
  subst h
  simp (disch:=try exact z0z) only[WA,simprocAttr,xM,hE]
  all_goals try omega
  exact d7 rfl h0 rfl
 by_cases h1:L4 p
 case neg=>
  rw[aQ4 (fun hh=>h1 hh.2.2.2.1)] at h
  subst h
  rw[dA7 h1] at hp
  simp (disch:=try exact z0z) only[WA,simprocAttr,xM,hE]
  all_goals try omega
  refine m8 (hp _ rfl) ?_
  simp (disch:=try exact z0z) only[WA,simprocAttr]
  exact d7 rfl h0 rfl
 rw[dA1 h1] at hp
 simp (disch:=try exact z0z) only[WA,simprocAttr,xM,hE]
 all_goals try omega
 refine m8 (hp _ rfl) ?_
 simp (disch:=try exact z0z) only[WA,simprocAttr]
 refine m8 (ht _ rfl) ?_
 by_cases h2:L4 t
 ·rw[aO9 ⟨rfl,rfl,hb,h1,h2⟩] at h
  subst h
  rw[dA1 h2]
  simp (disch:=try exact z0z) only[WA,simprocAttr]
  exact d7 rfl h0 rfl
 ·rw[aQ4 (fun hh=>h2 hh.2.2.2.2)] at h
  subst h
  rw[dA7 h2]
  simp (disch:=try exact z0z) only[WA,simprocAttr]
  exact d7 rfl h0 rfl
theorem yQ (i:E5):m0 (EN w (n+2)) 63 [L2 i] (.sc (.int .i64 (if eJ i=true then 0 else 8))) ⟨[],0,0⟩:=by
 refine vF rfl fun C hC h0=>?_
 obtain ⟨T,hT⟩:∃ T,T=AC.r (AC.r (AC.r (AC.r (AC.r (AC.r xM.code))))):=⟨_,rfl⟩
 have hc:xM.code= .seq (AC.l xM.code) (.seq (AC.l (AC.r xM.code)) (.seq (AC.l (AC.r (AC.r xM.code))) (.seq (AC.l (AC.r (AC.r (AC.r xM.code)))) (.seq (AC.l (AC.r (AC.r (AC.r (AC.r xM.code))))) (.seq (AC.l (AC.r (AC.r (AC.r (AC.r (AC.r xM.code)))))) T))))):=by rw[hT];rfl
 rw[hc]
 obtain ⟨op,right,bed,pos,to,car,rack⟩:=i
 have key:∀ x:Prop,[Decidable x]->(K5 ⟨op,right,bed,pos,to,car,rack⟩↔x)->(if eJ ⟨op,right,bed,pos,to,car,rack⟩=true then (0:Int) else 8)=if x then 0 else 8:=fun x _ h=>by
  by_cases hx:x
  ·rw[aO9 hx,aO9 (K4.2 (h.2 hx))]
  ·rw[aQ4 hx,aQ4 (fun hh=>hx (h.1 (K4.1 hh)))]
 have tl:=fun (o':Nat) (r':Bool) (b':Nat) (p' t' c' k':Int) (ok E:Bool) (hE) (h)=>PW w n hC h0 op right bed pos to car rack o' r' b' p' t' c' k' ok E _ hE (key _ h) hT
 unfold K5 at tl
 by_cases h1:op=1\/op=2
 ·rcases h1 with rfl|rfl
  all_goals
   repeat' (first|(simp (disch:=try exact z0z) only[WA,simprocAttr,xM,L2,AC.l,AC.r])|apply j8|((first|apply n7|apply m9|apply l8|apply n8|apply n6|apply l9)<;>intro _))
   all_goals try omega
   all_goals refine tl 0 right bed pos to 0 rack _ _ rfl ?_
   all_goals
    cases right<;>simp only[L4,aO3,cT5,beq_iff_eq,true_and,and_true,reduceCtorEq,false_and,and_false,or_false,false_or,Nat.reduceEqDiff,true_or,or_true,iff_false,true_iff,false_iff]<;>omega
 by_cases h2:op=3\/op=4\/op=5
 ·rcases h2 with rfl|rfl|rfl
  all_goals
   repeat' (first|(simp (disch:=try exact z0z) only[WA,simprocAttr,xM,L2,AC.l,AC.r])|apply j8|((first|apply n7|apply m9|apply l8|apply n8|apply n6|apply l9)<;>intro _))
   all_goals try omega
   all_goals refine tl 0 false 0 0 to 0 rack _ _ rfl ?_
   all_goals
    cases right<;>simp only[L4,aO3,cT5,beq_iff_eq,true_and,and_true,reduceCtorEq,false_and,and_false,or_false,false_or,Nat.reduceEqDiff,true_or,or_true,iff_false,true_iff,false_iff]<;>omega
 by_cases h3:op=6
 ·subst h3
  all_goals
   repeat' (first|(simp (disch:=try exact z0z) only[WA,simprocAttr,xM,L2,AC.l,AC.r])|apply j8|((first|apply n7|apply m9|apply l8|apply n8|apply n6|apply l9)<;>intro _))
   all_goals try omega
   all_goals refine tl 0 false 0 0 0 0 rack _ _ rfl ?_
   all_goals
    cases right<;>simp only[L4,aO3,cT5,beq_iff_eq,true_and,and_true,reduceCtorEq,false_and,and_false,or_false,false_or,Nat.reduceEqDiff,true_or,or_true,iff_false,true_iff,false_iff]<;>omega
 by_cases h4:op=7
 ·subst h4
  all_goals
   repeat' (first|(simp (disch:=try exact z0z) only[WA,simprocAttr,xM,L2,AC.l,AC.r])|apply j8|((first|apply n7|apply m9|apply l8|apply n8|apply n6|apply l9)<;>intro _))
   all_goals try omega
   all_goals refine tl 0 right 0 0 0 car rack _ _ rfl ?_
   all_goals
    cases right<;>simp only[L4,aO3,cT5,beq_iff_eq,true_and,and_true,reduceCtorEq,false_and,and_false,or_false,false_or,Nat.reduceEqDiff,true_or,or_true,iff_false,true_iff,false_iff]<;>omega
 by_cases h5:op=8
 ·subst h5
  have hw:IntKind.i64.wrap (0 - rack)= -rack\/8<rack\/rack< -8:=by
   by_cases h: -8<=rack/\rack<=8
   ·left;rw[vA _ (by omega) (by omega)];omega
   ·omega
  repeat' (first|(simp (disch:=try exact z0z) only[WA,simprocAttr,xM,L2,AC.l,AC.r])|apply j8|((first|apply n7|apply m9|apply l8|apply n8|apply n6|apply l9)<;>intro _))
  all_goals refine tl 0 right bed pos to car 0 _ _ rfl ?_
  all_goals generalize IntKind.i64.wrap (0 - rack)=NR at*
  all_goals
   cases right<;>simp only[L4,aO3,cT5,beq_iff_eq,true_and,and_true,reduceCtorEq,false_and,and_false,or_false,false_or,Nat.reduceEqDiff,true_or,or_true,iff_false,true_iff,false_iff]<;>omega
 by_cases h6:op=9
 ·subst h6
  all_goals
   repeat' (first|(simp (disch:=try exact z0z) only[WA,simprocAttr,xM,L2,AC.l,AC.r])|apply j8|((first|apply n7|apply m9|apply l8|apply n8|apply n6|apply l9)<;>intro _))
   all_goals try omega
   all_goals refine tl 0 right 0 0 to car rack _ _ rfl ?_
   all_goals
    cases right<;>simp only[L4,aO3,cT5,beq_iff_eq,true_and,and_true,reduceCtorEq,false_and,and_false,or_false,false_or,Nat.reduceEqDiff,true_or,or_true,iff_false,true_iff,false_iff]<;>omega
 repeat' (first|(simp (disch:=try exact z0z) only[WA,simprocAttr,xM,L2,AC.l,AC.r])|apply j8|((first|apply n7|apply m9|apply l8|apply n8|apply n6|apply l9)<;>intro _))
 all_goals try omega
 all_goals refine tl 0 right bed pos to car rack _ _ rfl ?_
 all_goals
  cases right<;>simp only[L4,aO3,cT5,beq_iff_eq,true_and,and_true,reduceCtorEq,false_and,and_false,or_false,false_or,Nat.reduceEqDiff,true_or,or_true,iff_false,true_iff,false_iff]<;>omega
end
end Go.Proofs.YtgohenjcanfolaaGreatDoor
namespace Go.Proofs.YtgohenjcanfolaaGreatDoor
open Go Go.Itp
set_option maxRecDepth 100000
set_option maxHeartbeats 2000000
set_option linter.unusedSimpArgs false
set_option linter.unusedVariables false
def aQ:List D:=(List.range 10).flatMap fun k=> [sD (C5 k),sD (q8 k)]
section
variable (w:World) (n:Nat)
theorem bA3:∀ d ∈ aQ,∃ x,d= .sc x:=fun d hd=>by
 obtain ⟨k,_,hk⟩:=dL7.1 hd
 simp only[bX5,List.not_mem_nil,or_false] at hk
 rcases hk with rfl|rfl<;>exact ⟨_,rfl⟩
theorem QN (H:E9) (nx:Nat):LG (EN w (n+1)) 134 ⟨H,nx,nx⟩ [] (.ref nx 0 10 10) (.row 204 2 false false aQ):=by
 refine bW4 rfl rfl (fun _ _=>rfl) (cJ5 rfl) bA3 fun C hC h0=>⟨⟨(nx,.row 204 2 false false aQ)::H,nx+1,nx⟩,nx,?_,aQ5 _,?_⟩
 ·simp[j7]
 ·simp (disch:=try exact z0z) only[WA,simprocAttr,cP8]
  change gV C (some (.ref nx 0 10 10,some (.row 204 2 false false aQ),[])) _ _ _ _ _ _ _ _
  simp (disch:=try exact z0z) only[WA,simprocAttr]
  rw[O3]
  exact .refl _ _
theorem kK:m0 (EN w (n+1)) 134 [] (.ref 0 0 10 10) ⟨[(0,.row 204 2 false false aQ)],1,0⟩:=by
 refine vG rfl aW6 fun C hC h0=>?_
 simp (disch:=try exact z0z) only[WA,simprocAttr,cP8]
 change gV C (some (.ref 0 0 10 10,some (.row 204 2 false false aQ),[])) _ _ _ _ _ _ _ _
 simp (disch:=try exact z0z) only[WA,simprocAttr]
 exact .refl _ _
theorem GF (b:Nat) (hb:b<=1) (z:Int) (h0: -1000000<=z) (h1:z<=1000000):m0 (EN w (n+2)) 135 [.sc (.int .u8 b),.sc (.int .i64 z)] (r7 (aW b z)) ⟨[],0,0⟩:=by
 refine vF rfl fun C hC hz=>?_
 have hi:∀ st,E7 C.E 42 st [.sc (.int .i64 z)] (r7 (Lib.itoa z)):=fun st=>by rw[hC];exact ND w n st z (by omega) (by omega)
 have hs:rZ (some (.int .u8 b)) (some (.int .u8 (IntKind.u8.wrap ((b:Int)+1)))) (.sc (.string ⟨#[102,98]⟩))=some (r7 [if b=1 then 98 else 102]):=by
  rcases (by omega:b=0\/b=1) with rfl|rfl<;>rfl
 simp (disch:=try exact z0z) only[WA,simprocAttr,dB2,hs]
 have hu:=U5 (z:=z) (by omega) (by omega)
 have hc:=N8 [if b=1 then 98 else 102] (Lib.itoa z) (by simp;omega)
 refine O7 (hi _) ?_
 simp (disch:=try exact z0z) only[WA,simprocAttr,hc]
 exact d7 rfl hz rfl
def OW (op:Nat):V:= .agg [r7 (C5 op),r7 (q8 op)]
theorem KY {op:Nat} (h:op<10):C0 aQ (op*2) (some 2)=some (OW op):=by
 rcases (by omega:op=0\/op=1\/op=2\/op=3\/op=4\/op=5\/op=6\/op=7\/op=8\/op=9) with rfl|rfl|rfl|rfl|rfl|rfl|rfl|rfl|rfl|rfl<;>rfl
attribute [local irreducible] aQ
abbrev SX (i:E5):Itp.Obj:= .box 54 1 [.sc (.int .u8 i.op),.sc (.bool i.right),.sc (.int .u8 i.bed),.sc (.int .i64 i.pos),.sc (.int .i64 i.to),.sc (.int .i64 i.car),.sc (.int .i64 i.rack)]
abbrev eV (i:E5) (p:List UInt8):List (List UInt8):=C5 i.op::p.map (U8 i)
abbrev TI (i:E5) (k:Nat) (ob:Itp.Obj):E9:= [(4,itO ⟨(q8 i.op).toArray⟩ k),(3,ob),(0,SX i)]
def cL8 (i:E5) (p:List UInt8) (fr:D0) (st:n9):Prop:=
 (p= []/\fr= [(1,.ptr 0 0),(4,.ref 3 0 1 1),(17,.ptr 4 0)]/\st=⟨TI i 0 (.row 9 1 false false [sD (C5 i.op)]),5,0⟩)\/
 (0<p.length/\fr= [(1,.ptr 0 0),(4,.gr 2 3 (p.length+1)),(17,.ptr 4 0)]/\st=⟨TI i p.length (.gro 9 1 false ((eV i p).map sD)),5,0⟩)
theorem bL6 (i:E5) (hv:K5 i):m0 (EN w (n+3)) 91 [L2 i] (r7 (r8 i)) ⟨[],0,0⟩:=by
 refine vF rfl fun C hC h0=>?_
 have h5:=hv.op_lt
 have h9:=hv.bounds
 have ha:=KY h5.2
 have hy:=dN h5.2
 have he:C.E.rounds=B6:=by rw[hC,k9]
 have hf:=fun nx=>wP nx ⟨(q8 i.op).toArray⟩ (by rw[B1];omega)
 simp (disch:=try exact z0z) only[WA,simprocAttr,c91,L2]
 refine bE1 (by rw[hC];exact QN w (n+1) _ _) ?_
 simp (disch:=try exact z0z) only[WA,simprocAttr,ha,OW,JA,hf]
 refine r5 (fun m fr st=>∃ p r:List UInt8,m=r.length/\q8 i.op=p++r/\cL8 i p fr st) (q8 i.op).length ?_ ⟨_,_,?_,[],_,rfl,rfl,.inl ⟨rfl,rfl,rfl⟩⟩ ?_
 ·rw[he];unfold B6;omega
 ·exact o9 [(4,4),(3,3),(0,0)] 5 h0 rfl rfl rfl rfl
 rintro m fr st ⟨p,r,rfl,hs,h4⟩
 have g0:(q8 i.op).length=p.length+r.length:=by rw[hs];simp
 have hg:=UE i.op h5.2 h5.1
 cases r with
 |nil=>
  rw[dC9] at hs
  rcases h4 with ⟨rfl,rfl,rfl⟩|⟨h6,rfl,rfl⟩
  ·exact absurd hs hg
  have h3:=fun ob=>TP (q8 i.op) (by omega) (TI i p.length ob) 5 4 (by show some (itO ⟨(q8 i.op).toArray⟩ p.length)=_;rw[hs])
  have hh:((eV i p).map sD).length=p.length+1:=by simp
  have h8:join 32 (eV i p)=r8 i:=by unfold r8;rw[hs]
  have g1:=KD hv
  have hl:∀ st:n9,j7 st.own 3=some (.gro 9 1 false ((eV i p).map sD))->E7 C.E 136 st [.gr 2 3 (p.length+1),r7 [32]] (r7 (r8 i)):=fun st h=>by
   have h1:T4 st.own [.gr 2 3 (p.length+1),r7 [32]]=some [xH 2 (eV i p),r7 [32]]:=by
    have e3:D1 st.own (.gr 2 3 (p.length+1))=some (xH 2 (eV i p)):=by
     have:=WC (n:=p.length+1) h hh
     rw[this]
     simp
    show (D1 st.own (.gr 2 3 (p.length+1))).bind _=_
    rw[e3]
    rfl
   have hj:=(m0.ofO (cT0 w (n+1) ⟨[],0,0⟩ 2 (by decide) (eV i p) [32] (by simp;omega) (by rw[join_one,h8];omega)))
   rw[join_one,h8] at hj
   rw[hC]
   exact hj.flat rfl h1
  simp (disch:=try exact z0z) only[WA,simprocAttr,yW,P1,P5,h3]
  refine m8 (hl _ rfl) ?_
  repeat' (first|(simp (disch:=try exact z0z) only[WA,simprocAttr])|apply j8|((first|apply n7|apply m9|apply l8|apply n8|apply n6|apply l9)<;>intro _))
  exact d7 rfl h0 rfl
 |cons b r3=>
  have hm:b ∈ q8 i.op:=by rw[hs];simp
  have hb:=BR h5.2 b hm
  have hn:b.toNat<128:=by rcases hb with rfl|rfl|rfl|rfl|rfl<;>decide
  have h3:=fun ob=>BE (q8 i.op) p r3 b hs hn (by omega) (TI i p.length ob) 5 4 rfl
  have h7:∀ (x:List UInt8) (fr:D0) (st:n9),x=U8 i b->K7 C fr st [(1,.ptr 0 0),(4,.gr 2 3 (p.length+2)),(17,.ptr 4 0)] ⟨TI i (p.length+1) (.gro 9 1 false ((eV i p).map sD++ [sD x])),5,0⟩->
    ∃ m' fr' st',m'<(b::r3).length/\K7 C fr st fr' st'/\∃ p r:List UInt8,m'=r.length/\q8 i.op=p++r/\cL8 i p fr' st':=fun x fr st hx hw=>by
   subst hx
   refine ⟨r3.length,_,_,by simp,hw,p++ [b],r3,rfl,by rw[hs];simp,.inr ⟨by simp,?_,?_⟩⟩
   ·rw[bA4];rfl
   ·rw[bA4]
    simp[eV]
  have hi:∀ st z,-1000000<=z->z<=1000000->E7 C.E 42 st [.sc (.int .i64 z)] (r7 (Lib.itoa z)):=fun st z h1 h2=>by rw[hC];exact ND w (n+1) st z (by omega) (by omega)
  obtain ⟨ho,g2,g3,g4,g5⟩:=h9
  have hp:=fun st=>(GF w n i.bed ho i.pos (by omega) (by omega)).of hC rfl st rfl
  have hq:=fun st=>(GF w n (1 - i.bed) (by omega) i.to (by omega) (by omega)).of hC rfl st rfl
  have ht:IntKind.u8.wrap (1 - (i.bed:Int))=((1 - i.bed:Nat):Int):=by rw[nR _ (by omega) (by omega)];omega
  have d100:(((100:UInt8).toNat:Nat):Int)=100:=rfl
  have d110:(((110:UInt8).toNat:Nat):Int)=110:=rfl
  have d111:(((111:UInt8).toNat:Nat):Int)=111:=rfl
  have d99:(((99:UInt8).toNat:Nat):Int)=99:=rfl
  have d114:(((114:UInt8).toNat:Nat):Int)=114:=rfl
  rcases hb with rfl|rfl|rfl|rfl|rfl
  ·rcases h4 with ⟨rfl,rfl,rfl⟩|⟨h6,rfl,rfl⟩
   all_goals try simp only[dA2] at h3
   all_goals
    repeat' (first|(simp (disch:=try exact z0z) only[WA,simprocAttr,yW,P1,P5,h3,d100,d110,d111,d99,d114])|apply j8|((first|apply n7|apply m9|apply l8|apply n8|apply n6|apply l9)<;>intro _))
   all_goals exact h7 _ _ _ (by rename_i hr;simp[U8,hr]) (o9 [(4,4),(6,3),(0,0)] 5 h0 rfl rfl rfl rfl)
  ·rcases h4 with ⟨rfl,rfl,rfl⟩|⟨h6,rfl,rfl⟩
   all_goals try simp only[dA2] at h3
   all_goals
    repeat' (first|(simp (disch:=try exact z0z) only[WA,simprocAttr,yW,P1,P5,h3,d100,d110,d111,d99,d114])|apply j8|((first|apply n7|apply m9|apply l8|apply n8|apply n6|apply l9)<;>intro _))
    refine m8 (hp _) ?_
    repeat' (first|(simp (disch:=try exact z0z) only[WA,simprocAttr])|apply j8|((first|apply n7|apply m9|apply l8|apply n8|apply n6|apply l9)<;>intro _))
   all_goals exact h7 _ _ _ rfl (o9 [(4,4),(6,3),(0,0)] 5 h0 rfl rfl rfl rfl)
  ·rcases h4 with ⟨rfl,rfl,rfl⟩|⟨h6,rfl,rfl⟩
   all_goals try simp only[dA2] at h3
   all_goals
    repeat' (first|(simp (disch:=try exact z0z) only[WA,simprocAttr,yW,P1,P5,h3,d100,d110,d111,d99,d114,ht])|apply j8|((first|apply n7|apply m9|apply l8|apply n8|apply n6|apply l9)<;>intro _))
    refine m8 (hq _) ?_
    repeat' (first|(simp (disch:=try exact z0z) only[WA,simprocAttr])|apply j8|((first|apply n7|apply m9|apply l8|apply n8|apply n6|apply l9)<;>intro _))
   all_goals exact h7 _ _ _ rfl (o9 [(4,4),(6,3),(0,0)] 5 h0 rfl rfl rfl rfl)
  ·rcases h4 with ⟨rfl,rfl,rfl⟩|⟨h6,rfl,rfl⟩
   all_goals try simp only[dA2] at h3
   all_goals
    repeat' (first|(simp (disch:=try exact z0z) only[WA,simprocAttr,yW,P1,P5,h3,d100,d110,d111,d99,d114])|apply j8|((first|apply n7|apply m9|apply l8|apply n8|apply n6|apply l9)<;>intro _))
    refine m8 (hi _ _ (by omega) (by omega)) ?_
    repeat' (first|(simp (disch:=try exact z0z) only[WA,simprocAttr])|apply j8|((first|apply n7|apply m9|apply l8|apply n8|apply n6|apply l9)<;>intro _))
   all_goals exact h7 _ _ _ rfl (o9 [(4,4),(6,3),(0,0)] 5 h0 rfl rfl rfl rfl)
  ·rcases h4 with ⟨rfl,rfl,rfl⟩|⟨h6,rfl,rfl⟩
   all_goals try simp only[dA2] at h3
   all_goals
    repeat' (first|(simp (disch:=try exact z0z) only[WA,simprocAttr,yW,P1,P5,h3,d100,d110,d111,d99,d114])|apply j8|((first|apply n7|apply m9|apply l8|apply n8|apply n6|apply l9)<;>intro _))
    refine m8 (hi _ _ (by omega) (by omega)) ?_
    repeat' (first|(simp (disch:=try exact z0z) only[WA,simprocAttr])|apply j8|((first|apply n7|apply m9|apply l8|apply n8|apply n6|apply l9)<;>intro _))
   all_goals exact h7 _ _ _ rfl (o9 [(4,4),(6,3),(0,0)] 5 h0 rfl rfl rfl rfl)
end
set_option maxHeartbeats 20000000
section
variable (w:World) (n:Nat)
theorem VF {C:C8} (hC:C.E=EN w (n+1)) (h0:C.w0.nx=0) (o:Nat) (r:Bool) (b:Nat) (p t c k:Int) (o':Nat) (r':Bool) (b':Nat) (p' t' c' k':Int) (ok:Bool) (E:Bool) (R:Int)
  (hE:(decide ((o':Int)=o) && (r'==r && (decide ((b':Int)=b) && (decide (p'=p) && (decide (t'=t) && (decide (c'=c) && decide (k'=k)))))))=E)
  (h:R=if ok=true/\E=true/\b<=1/\L4 p/\L4 t then 0 else 8) {T:AC} (hT:T=AC.r (AC.r (AC.r (AC.r EP.code)))):
  gC C T [] [(1,.ptr 0 0),(3,.ptr 1 0),(4,.sc (.bool ok))] ⟨[(1,cC0 o' r' b' p' t' c' k'),(0,cC0 o r b p t c k)],2,0⟩ (fC C EP.res (.sc (.int .i64 R)) ⟨[],0,0⟩):=by
 have hp:=(cM6 w n p).of hC rfl
 have ht:=(cM6 w n t).of hC rfl
 simp only[EP,AC.r] at hT
 subst hT
 cases ok
 ·rw[aQ4 (by simp)] at h
  subst h
  simp (disch:=try exact z0z) only[WA,simprocAttr,EP]
  exact d7 rfl h0 rfl
 cases E
 ·rw[aQ4 (by simp)] at h
  subst h
  simp (disch:=try exact z0z) only[WA,simprocAttr,EP,hE]
  exact d7 rfl h0 rfl
 by_cases hb:b<=1
 case neg=>
  rw[aQ4 (fun hh=>hb hh.2.2.1)] at h
  subst h
  simp (disch:=try exact z0z) only[WA,simprocAttr,EP,hE]
  all_goals try omega
  exact d7 rfl h0 rfl
 by_cases h1:L4 p
 case neg=>
  rw[aQ4 (fun hh=>h1 hh.2.2.2.1)] at h
  subst h
  rw[dA7 h1] at hp
  simp (disch:=try exact z0z) only[WA,simprocAttr,EP,hE]
  all_goals try omega
  refine m8 (hp _ rfl) ?_
  simp (disch:=try exact z0z) only[WA,simprocAttr]
  exact d7 rfl h0 rfl
 rw[dA1 h1] at hp
 simp (disch:=try exact z0z) only[WA,simprocAttr,EP,hE]
 all_goals try omega
 refine m8 (hp _ rfl) ?_
 simp (disch:=try exact z0z) only[WA,simprocAttr]
 refine m8 (ht _ rfl) ?_
 by_cases h2:L4 t
 ·rw[aO9 ⟨rfl,rfl,hb,h1,h2⟩] at h
  subst h
  rw[dA1 h2]
  simp (disch:=try exact z0z) only[WA,simprocAttr]
  exact d7 rfl h0 rfl
 ·rw[aQ4 (fun hh=>h2 hh.2.2.2.2)] at h
  subst h
  rw[dA7 h2]
  simp (disch:=try exact z0z) only[WA,simprocAttr]
  exact d7 rfl h0 rfl
theorem VE (i:E5):m0 (EN w (n+2)) 25 [L2 i] (.sc (.int .i64 (if eJ i=true then 0 else 8))) ⟨[],0,0⟩:=by
 refine vF rfl fun C hC h0=>?_
 obtain ⟨T,hT⟩:∃ T,T=AC.r (AC.r (AC.r (AC.r EP.code))):=⟨_,rfl⟩
 have hc:EP.code= .seq (AC.l EP.code) (.seq (AC.l (AC.r EP.code)) (.seq (AC.l (AC.r (AC.r EP.code))) (.seq (AC.l (AC.r (AC.r (AC.r EP.code)))) T))):=by rw[hT];rfl
 rw[hc]
 obtain ⟨op,right,bed,pos,to,car,rack⟩:=i
 have key:∀ x:Prop,[Decidable x]->(K5 ⟨op,right,bed,pos,to,car,rack⟩↔x)->(if eJ ⟨op,right,bed,pos,to,car,rack⟩=true then (0:Int) else 8)=if x then 0 else 8:=fun x _ h=>by
  by_cases hx:x
  ·rw[aO9 hx,aO9 (K4.2 (h.2 hx))]
  ·rw[aQ4 hx,aQ4 (fun hh=>hx (h.1 (K4.1 hh)))]
 have tl:=fun (o':Nat) (r':Bool) (b':Nat) (p' t' c' k':Int) (ok E:Bool) (hE) (h)=>VF w n hC h0 op right bed pos to car rack o' r' b' p' t' c' k' ok E _ hE (key _ h) hT
 unfold K5 at tl
 have hf:=(cE5 w n car).of hC rfl
 by_cases h1:op=1\/op=2
 ·rcases h1 with h1|h1
  all_goals
   repeat' (first|(simp (disch:=try exact z0z) only[WA,simprocAttr,EP,L2,AC.l,AC.r])|apply j8|((first|apply n7|apply m9|apply l8|apply n8|apply n6|apply l9)<;>intro _))
   all_goals try omega
   refine m8 (hf _ rfl) ?_
   repeat' (first|(simp (disch:=try exact z0z) only[WA,simprocAttr])|apply j8|((first|apply n7|apply m9|apply l8|apply n8|apply n6|apply l9)<;>intro _))
   all_goals refine tl op false 0 0 0 car 0 _ _ rfl ?_
   all_goals
    cases right<;>simp only[L4,aO3,cT5,beq_iff_eq,true_and,and_true,reduceCtorEq,false_and,and_false,or_false,false_or,Nat.reduceEqDiff,true_or,or_true,iff_false,true_iff,false_iff]<;>omega
 by_cases h2:op=3\/op=4\/op=5
 ·rcases h2 with h2|h2|h2
  all_goals
   repeat' (first|(simp (disch:=try exact z0z) only[WA,simprocAttr,EP,L2,AC.l,AC.r])|apply j8|((first|apply n7|apply m9|apply l8|apply n8|apply n6|apply l9)<;>intro _))
   all_goals try omega
   refine m8 (hf _ rfl) ?_
   repeat' (first|(simp (disch:=try exact z0z) only[WA,simprocAttr])|apply j8|((first|apply n7|apply m9|apply l8|apply n8|apply n6|apply l9)<;>intro _))
   all_goals refine tl op right bed pos 0 car 0 _ _ rfl ?_
   all_goals
    cases right<;>simp only[L4,aO3,cT5,beq_iff_eq,true_and,and_true,reduceCtorEq,false_and,and_false,or_false,false_or,Nat.reduceEqDiff,true_or,or_true,iff_false,true_iff,false_iff]<;>omega
 by_cases h3:op=6
 ·all_goals
   simp (disch:=try exact z0z) only[WA,simprocAttr,EP,L2,AC.l,AC.r]
   all_goals try omega
   refine m8 (hf _ rfl) ?_
   repeat' (first|(simp (disch:=try exact z0z) only[WA,simprocAttr])|apply j8|((first|apply n7|apply m9|apply l8|apply n8|apply n6|apply l9)<;>intro _))
   all_goals refine tl op right bed pos to car 0 _ _ rfl ?_
   all_goals
    cases right<;>simp only[L4,aO3,cT5,beq_iff_eq,true_and,and_true,reduceCtorEq,false_and,and_false,or_false,false_or,Nat.reduceEqDiff,true_or,or_true,iff_false,true_iff,false_iff]<;>omega
 by_cases h4:op=7
 ·all_goals
   repeat' (first|(simp (disch:=try exact z0z) only[WA,simprocAttr,EP,L2,AC.l,AC.r])|apply j8|((first|apply n7|apply m9|apply l8|apply n8|apply n6|apply l9)<;>intro _))
   all_goals try omega
   all_goals refine tl op false bed pos to 0 0 _ _ rfl ?_
   all_goals
    cases right<;>simp only[L4,aO3,cT5,beq_iff_eq,true_and,and_true,reduceCtorEq,false_and,and_false,or_false,false_or,Nat.reduceEqDiff,true_or,or_true,iff_false,true_iff,false_iff]<;>omega
 by_cases h5:op=8
 ·all_goals
   repeat' (first|(simp (disch:=try exact z0z) only[WA,simprocAttr,EP,L2,AC.l,AC.r])|apply j8|((first|apply n7|apply m9|apply l8|apply n8|apply n6|apply l9)<;>intro _))
   all_goals try omega
   all_goals refine tl op false 0 0 0 0 rack _ _ rfl ?_
   all_goals
    cases right<;>simp only[L4,aO3,cT5,beq_iff_eq,true_and,and_true,reduceCtorEq,false_and,and_false,or_false,false_or,Nat.reduceEqDiff,true_or,or_true,iff_false,true_iff,false_iff]<;>omega
 by_cases h6:op=9
 ·all_goals
   repeat' (first|(simp (disch:=try exact z0z) only[WA,simprocAttr,EP,L2,AC.l,AC.r])|apply j8|((first|apply n7|apply m9|apply l8|apply n8|apply n6|apply l9)<;>intro _))
   all_goals try omega
   all_goals refine tl op false bed pos 0 0 0 _ _ rfl ?_
   all_goals
    cases right<;>simp only[L4,aO3,cT5,beq_iff_eq,true_and,and_true,reduceCtorEq,false_and,and_false,or_false,false_or,Nat.reduceEqDiff,true_or,or_true,iff_false,true_iff,false_iff]<;>omega
 rw[key False ?_]
 ·simp (disch:=try exact z0z) only[WA,simprocAttr,EP,L2,AC.l,AC.r]
  all_goals try omega
  exact d7 rfl h0 rfl
 ·unfold K5
  simp only[iff_false]
  omega
end
set_option maxHeartbeats 2000000
noncomputable def IJ (i:E5):List UInt8 × Int:=if eJ i=true then (r8 i,0) else ([],8)
section
variable (w:World) (n:Nat)
theorem bZ6 (i:E5):m0 (EN w (n+4)) 43 [L2 i] (.tup [r7 (IJ i).1,.sc (.int .i64 (IJ i).2)]) ⟨[],0,0⟩:=by
 refine vF rfl fun C hC h0=>?_
 have hi:=yQ w (n+1) i
 by_cases h:eJ i=true
 ·have e:IJ i=(r8 i,0):=aO9 h
  rw[e]
  rw[aO9 h] at hi
  have hl:=bL6 w n i (K4.1 h)
  unfold L2 at hi hl ⊢
  simp (disch:=try exact z0z) only[WA,simprocAttr,c43]
  refine cF hC hi ?_
  simp (disch:=try exact z0z) only[WA,simprocAttr]
  refine cF hC hl ?_
  repeat' (first|(simp (disch:=try exact z0z) only[WA,simprocAttr])|apply j8|((first|apply n7|apply m9|apply l8|apply n8|apply n6|apply l9)<;>intro _))
  exact d7 rfl h0 rfl
 ·have e:IJ i=([],8):=aQ4 h
  rw[e]
  rw[aQ4 h] at hi
  unfold L2 at hi ⊢
  simp (disch:=try exact z0z) only[WA,simprocAttr,c43]
  refine cF hC hi ?_
  simp (disch:=try exact z0z) only[WA,simprocAttr]
  exact d7 rfl h0 rfl
end
set_option maxHeartbeats 4000000
section
variable (w:World) (n:Nat)
theorem NV (z:Int) (h1: -1000000<=z) (h2:z<=1000000):m0 (EN w (n+2)) 94 [.sc (.int .i64 z)] (r7 (Lib.itoa z)) ⟨[],0,0⟩:=by
 refine vF rfl fun C hC h0=>?_
 rcases Int.lt_or_le z 0 with h|h
 ·have e:Lib.itoa z=45::Lib.decDigits z.natAbs:=by unfold Lib.itoa;rw[aO9 h]
  have hd:=GW w n z.natAbs (by omega)
  have hw:IntKind.i64.wrap (0 - z)=((z.natAbs:Nat):Int):=by rw[vA _ (by omega) (by omega)];omega
  have hl:=K3 11 z.natAbs (by simpa using (by omega:z.natAbs<1000000000000))
  have hc:=N8 [45] (Lib.decDigits z.natAbs) (by simp;omega)
  rw[e]
  simp (disch:=try exact z0z) only[WA,simprocAttr,c94,hw]
  all_goals try omega
  refine cF hC hd ?_
  simp (disch:=try exact z0z) only[WA,simprocAttr,hc]
  exact d7 rfl h0 rfl
 ·obtain ⟨u,rfl⟩:=cZ4 h
  have hd:=GW w n u (by omega)
  rw[Lib.itoa_nonneg]
  simp (disch:=try exact z0z) only[WA,simprocAttr,c94]
  all_goals try omega
  refine cF hC hd ?_
  repeat' (first|(simp (disch:=try exact z0z) only[WA,simprocAttr])|apply j8|((first|apply n7|apply m9|apply l8|apply n8|apply n6|apply l9)<;>intro _))
  exact d7 rfl h0 rfl
theorem aO0 (b:Nat) (z:Int) (h1: -1000000<=z) (h2:z<=1000000):m0 (EN w (n+3)) 139 [.sc (.int .u8 b),.sc (.int .i64 z)] (r7 (aW b z)) ⟨[],0,0⟩:=by
 refine vF rfl fun C hC h0=>?_
 have hd:=NV w n z h1 h2
 have hj:=U5 (z:=z) (by omega) (by omega)
 have hc:=fun c:UInt8=>N8 [c] (Lib.itoa z) (by simp;omega)
 by_cases hb:b=1
 ·have e:aW b z=98::Lib.itoa z:=by unfold aW;rw[aO9 hb]
  rw[e]
  simp (disch:=try exact z0z) only[WA,simprocAttr,cP9]
  all_goals try omega
  refine cF hC hd ?_
  simp (disch:=try exact z0z) only[WA,simprocAttr,hc]
  exact d7 rfl h0 rfl
 ·have e:aW b z=102::Lib.itoa z:=by unfold aW;rw[aQ4 hb]
  rw[e]
  simp (disch:=try exact z0z) only[WA,simprocAttr,cP9]
  all_goals try omega
  refine cF hC hd ?_
  simp (disch:=try exact z0z) only[WA,simprocAttr,hc]
  exact d7 rfl h0 rfl
def bM1:List D:=(List.range 10).map fun k=>sD (C5 k)
theorem aU3 {op:Nat} (h:op<10):C0 bM1 op none=some (r7 (C5 op)):=by
 rcases (by omega:op=0\/op=1\/op=2\/op=3\/op=4\/op=5\/op=6\/op=7\/op=8\/op=9) with rfl|rfl|rfl|rfl|rfl|rfl|rfl|rfl|rfl|rfl<;>rfl
theorem VG (op:Nat) (h:op<10):m0 (EN w (n+1)) 138 [.sc (.int .u8 op)] (r7 (C5 op)) ⟨[],0,0⟩:=by
 refine vF rfl fun C hC h0=>?_
 have hf:=aU3 h
 have h7:IntKind.i64.wrap (op:Int)=op:=vA _ (by omega) (by omega)
 simp (disch:=try exact z0z) only[WA,simprocAttr,dB3,h7]
 change gV C (some (.ref 0 0 10 10,some (.row 9 1 false false bM1),[])) _ _ _ _ _ _ _ _
 simp (disch:=try exact z0z) only[WA,simprocAttr,h7,hf]
 all_goals try omega
 exact d7 rfl h0 rfl
theorem LC (i:E5) (hv:K5 i):m0 (EN w (n+4)) 93 [L2 i] (r7 (r8 i)) ⟨[],0,0⟩:=by
 refine vF rfl fun C hC h0=>?_
 have ha:=hv.op_lt
 obtain ⟨hk,hg,hh,hm,ho⟩:=hv.bounds
 unfold L4 at hg hh
 have hn:=(VG w (n+2) i.op ha.2).of hC rfl
 have hp:=IN i.op ha.2
 have h9:=(NV w (n+1) i.car (by omega) (by omega)).of hC rfl
 have hi:=(NV w (n+1) i.rack (by omega) (by omega)).of hC rfl
 have h8:=(aO0 w n i.bed i.pos (by omega) (by omega)).of hC rfl
 have he:=(aO0 w n (1 - i.bed) i.to (by omega) (by omega)).of hC rfl
 have l1:=U5 (z:=i.car) (by omega) (by omega)
 have l2:=U5 (z:=i.rack) (by omega) (by omega)
 have l3:(aW i.bed i.pos).length<=14:=by have:=U5 (z:=i.pos) (by omega) (by omega);unfold aW;simp;omega
 have l4:(aW (1 - i.bed) i.to).length<=14:=by have:=U5 (z:=i.to) (by omega) (by omega);unfold aW;simp;omega
 have h7:IntKind.u8.wrap (1 - (i.bed:Int))=((1 - i.bed:Nat):Int):=by rw[nR _ (by omega) (by omega)];omega
 by_cases h1:i.op=1\/i.op=2
 ·have e:r8 i=C5 i.op++32::Lib.itoa i.car:=by unfold r8;rcases h1 with h|h<;>rw[h]<;>rfl
  rw[e]
  generalize C5 i.op=nm at*
  generalize Lib.itoa i.car=ic at*
  generalize Lib.itoa i.rack=ik at*
  generalize aW i.bed i.pos=n1 at*
  generalize aW (1 - i.bed) i.to=n2 at*
  cases hr:i.right
  all_goals
   repeat' (first|(simp (disch:=try exact z0z) only[WA,simprocAttr,c93,L2,hr])|apply j8|((first|apply n7|apply m9|apply l8|apply n8|apply n6|apply l9)<;>intro _))
   refine m8 (hn _ rfl) ?_
   repeat' (first|(simp (disch:=try exact z0z) only[WA,simprocAttr,N8,bL9])|apply j8|((first|apply n7|apply m9|apply l8|apply n8|apply n6|apply l9)<;>intro _))
   all_goals try omega
   all_goals refine m8 (h9 _ rfl) ?_
   all_goals repeat' (first|(simp (disch:=try exact z0z) only[WA,simprocAttr,N8,bL9,h7])|apply j8|((first|apply n7|apply m9|apply l8|apply n8|apply n6|apply l9)<;>intro _))
   all_goals exact d7 rfl h0 rfl
 by_cases h2:i.op=3\/i.op=4\/i.op=5
 ·have e:r8 i=C5 i.op++32::(if i.right=true then [43] else [45])++32::(aW i.bed i.pos++32::Lib.itoa i.car):=by unfold r8;rcases h2 with h|h|h<;>rw[h]<;>rfl
  rw[e]
  generalize C5 i.op=nm at*
  generalize Lib.itoa i.car=ic at*
  generalize Lib.itoa i.rack=ik at*
  generalize aW i.bed i.pos=n1 at*
  generalize aW (1 - i.bed) i.to=n2 at*
  cases hr:i.right
  all_goals
   repeat' (first|(simp (disch:=try exact z0z) only[WA,simprocAttr,c93,L2,hr])|apply j8|((first|apply n7|apply m9|apply l8|apply n8|apply n6|apply l9)<;>intro _))
   refine m8 (hn _ rfl) ?_
   repeat' (first|(simp (disch:=try exact z0z) only[WA,simprocAttr,N8,bL9])|apply j8|((first|apply n7|apply m9|apply l8|apply n8|apply n6|apply l9)<;>intro _))
   all_goals try omega
   all_goals refine O7 (h8 _ rfl) ?_
   all_goals repeat' (first|(simp (disch:=try exact z0z) only[WA,simprocAttr,N8,bL9,h7])|apply j8|((first|apply n7|apply m9|apply l8|apply n8|apply n6|apply l9)<;>intro _))
   all_goals refine O7 (h9 _ rfl) ?_
   all_goals repeat' (first|(simp (disch:=try exact z0z) only[WA,simprocAttr,N8,bL9,h7])|apply j8|((first|apply n7|apply m9|apply l8|apply n8|apply n6|apply l9)<;>intro _))
   all_goals exact d7 rfl h0 rfl
 by_cases h3:i.op=6
 ·have e:r8 i=C5 i.op++32::(if i.right=true then [43] else [45])++32::(aW i.bed i.pos++32::(aW (1 - i.bed) i.to++32::Lib.itoa i.car)):=by unfold r8;have h:=h3<;>rw[h]<;>rfl
  rw[e]
  generalize C5 i.op=nm at*
  generalize Lib.itoa i.car=ic at*
  generalize Lib.itoa i.rack=ik at*
  generalize aW i.bed i.pos=n1 at*
  generalize aW (1 - i.bed) i.to=n2 at*
  cases hr:i.right
  all_goals
   repeat' (first|(simp (disch:=try exact z0z) only[WA,simprocAttr,c93,L2,hr])|apply j8|((first|apply n7|apply m9|apply l8|apply n8|apply n6|apply l9)<;>intro _))
   refine m8 (hn _ rfl) ?_
   repeat' (first|(simp (disch:=try exact z0z) only[WA,simprocAttr,N8,bL9])|apply j8|((first|apply n7|apply m9|apply l8|apply n8|apply n6|apply l9)<;>intro _))
   all_goals try omega
   all_goals refine O7 (h8 _ rfl) ?_
   all_goals repeat' (first|(simp (disch:=try exact z0z) only[WA,simprocAttr,N8,bL9,h7])|apply j8|((first|apply n7|apply m9|apply l8|apply n8|apply n6|apply l9)<;>intro _))
   all_goals refine O7 (he _ rfl) ?_
   all_goals repeat' (first|(simp (disch:=try exact z0z) only[WA,simprocAttr,N8,bL9,h7])|apply j8|((first|apply n7|apply m9|apply l8|apply n8|apply n6|apply l9)<;>intro _))
   all_goals refine O7 (h9 _ rfl) ?_
   all_goals repeat' (first|(simp (disch:=try exact z0z) only[WA,simprocAttr,N8,bL9,h7])|apply j8|((first|apply n7|apply m9|apply l8|apply n8|apply n6|apply l9)<;>intro _))
   all_goals exact d7 rfl h0 rfl
 by_cases h4:i.op=7
 ·have e:r8 i=C5 i.op++32::(aW i.bed i.pos++32::aW (1 - i.bed) i.to):=by unfold r8;have h:=h4<;>rw[h]<;>rfl
  rw[e]
  generalize C5 i.op=nm at*
  generalize Lib.itoa i.car=ic at*
  generalize Lib.itoa i.rack=ik at*
  generalize aW i.bed i.pos=n1 at*
  generalize aW (1 - i.bed) i.to=n2 at*
  cases hr:i.right
  all_goals
   repeat' (first|(simp (disch:=try exact z0z) only[WA,simprocAttr,c93,L2,hr])|apply j8|((first|apply n7|apply m9|apply l8|apply n8|apply n6|apply l9)<;>intro _))
   refine m8 (hn _ rfl) ?_
   repeat' (first|(simp (disch:=try exact z0z) only[WA,simprocAttr,N8,bL9])|apply j8|((first|apply n7|apply m9|apply l8|apply n8|apply n6|apply l9)<;>intro _))
   all_goals try omega
   all_goals refine O7 (h8 _ rfl) ?_
   all_goals repeat' (first|(simp (disch:=try exact z0z) only[WA,simprocAttr,N8,bL9,h7])|apply j8|((first|apply n7|apply m9|apply l8|apply n8|apply n6|apply l9)<;>intro _))
   all_goals refine O7 (he _ rfl) ?_
   all_goals repeat' (first|(simp (disch:=try exact z0z) only[WA,simprocAttr,N8,bL9,h7])|apply j8|((first|apply n7|apply m9|apply l8|apply n8|apply n6|apply l9)<;>intro _))
   all_goals exact d7 rfl h0 rfl
 by_cases h5:i.op=8
 ·have e:r8 i=C5 i.op++32::Lib.itoa i.rack:=by unfold r8;have h:=h5<;>rw[h]<;>rfl
  rw[e]
  generalize C5 i.op=nm at*
  generalize Lib.itoa i.car=ic at*
  generalize Lib.itoa i.rack=ik at*
  generalize aW i.bed i.pos=n1 at*
  generalize aW (1 - i.bed) i.to=n2 at*
  cases hr:i.right
  all_goals
   repeat' (first|(simp (disch:=try exact z0z) only[WA,simprocAttr,c93,L2,hr])|apply j8|((first|apply n7|apply m9|apply l8|apply n8|apply n6|apply l9)<;>intro _))
   refine m8 (hn _ rfl) ?_
   repeat' (first|(simp (disch:=try exact z0z) only[WA,simprocAttr,N8,bL9])|apply j8|((first|apply n7|apply m9|apply l8|apply n8|apply n6|apply l9)<;>intro _))
   all_goals try omega
   all_goals refine m8 (hi _ rfl) ?_
   all_goals repeat' (first|(simp (disch:=try exact z0z) only[WA,simprocAttr,N8,bL9,h7])|apply j8|((first|apply n7|apply m9|apply l8|apply n8|apply n6|apply l9)<;>intro _))
   all_goals exact d7 rfl h0 rfl
 by_cases h6:i.op=9
 ·have e:r8 i=C5 i.op++32::aW i.bed i.pos:=by unfold r8;have h:=h6<;>rw[h]<;>rfl
  rw[e]
  generalize C5 i.op=nm at*
  generalize Lib.itoa i.car=ic at*
  generalize Lib.itoa i.rack=ik at*
  generalize aW i.bed i.pos=n1 at*
  generalize aW (1 - i.bed) i.to=n2 at*
  cases hr:i.right
  all_goals
   repeat' (first|(simp (disch:=try exact z0z) only[WA,simprocAttr,c93,L2,hr])|apply j8|((first|apply n7|apply m9|apply l8|apply n8|apply n6|apply l9)<;>intro _))
   refine m8 (hn _ rfl) ?_
   repeat' (first|(simp (disch:=try exact z0z) only[WA,simprocAttr,N8,bL9])|apply j8|((first|apply n7|apply m9|apply l8|apply n8|apply n6|apply l9)<;>intro _))
   all_goals try omega
   all_goals refine m8 (h8 _ rfl) ?_
   all_goals repeat' (first|(simp (disch:=try exact z0z) only[WA,simprocAttr,N8,bL9,h7])|apply j8|((first|apply n7|apply m9|apply l8|apply n8|apply n6|apply l9)<;>intro _))
   all_goals exact d7 rfl h0 rfl
 exfalso
 unfold K5 at hv
 omega
end
end Go.Proofs.YtgohenjcanfolaaGreatDoor
namespace Go.Itp
set_option linter.unusedVariables false
set_option linter.unusedSimpArgs false
structure Ev where
 kind:Nat
 ins:E5
 car:Int
def evC (x:Ev):List Value:= [.int .u8 x.kind,.int .u8 x.ins.op,.bool x.ins.right,.int .u8 x.ins.bed,.int .i64 x.ins.pos,.int .i64 x.ins.to,.int .i64 x.ins.car,.int .i64 x.ins.rack,.int .i64 x.car]
def eG (x:Ev):V:= .agg [.sc (.int .u8 x.kind),.sc (.int .u8 x.ins.op),.sc (.bool x.ins.right),.sc (.int .u8 x.ins.bed),.sc (.int .i64 x.ins.pos),.sc (.int .i64 x.ins.to),.sc (.int .i64 x.ins.car),.sc (.int .i64 x.ins.rack),.sc (.int .i64 x.car)]
def ev0:Ev:=⟨0,Q7,0⟩
instance:Inhabited Ev:=⟨ev0⟩
def PA (L:List Ev):List D:=L.flatMap fun a=>(evC a).map D.sc
theorem iU (L:List Ev):(PA L).length=L.length*9:=by
 induction L with
 |nil=>rfl
 |cons p L ih=>
  have e:PA (p::L)=(evC p).map D.sc++PA L:=by simp[PA]
  rw[e,bA4,ih];simp[evC];omega
theorem qQ (L:List Ev) (k:Nat) (hk:k<L.length):C0 (PA L) (k*9) (some 9)=some (eG L[k]!):=by
 have:=iQ (fun p:Ev=>(evC p).map D.sc) 9 L (fun _=>rfl) (by decide) k hk
 unfold PA
 rw[this]
 rfl
theorem RI (acc:List Ev) (x:Ev):PA (acc++ [x])=PA acc++ [.sc (.int .u8 x.kind),.sc (.int .u8 x.ins.op),.sc (.bool x.ins.right),.sc (.int .u8 x.ins.bed),.sc (.int .i64 x.ins.pos),.sc (.int .i64 x.ins.to),.sc (.int .i64 x.ins.car),.sc (.int .i64 x.ins.rack),.sc (.int .i64 x.car)]:=by
 simp[PA,evC]
def evP (x:Ev):Prop:=x.kind=1/\x.car=0/\K5 x.ins\/(x.kind=2\/x.kind=3)/\x.ins=Q7/\1<=x.car/\x.car<=6
open Classical in
noncomputable def S3 (x:Ev):Bool:=decide (evP x)
open Classical in
theorem X8 {x:Ev}:S3 x=true↔evP x:=by
 unfold S3
 constructor
 ·exact of_decide_eq_true
 ·intro h;exact dA1 h
noncomputable def xA (L:List Ev):Int:=if 2000<L.length then 4 else if L.all S3=true then 0 else 8
def pV:List UInt8:= [98,114,101,97,107,32]
def wH:List UInt8:= [109,101,110,100,32]
def tL (x:Ev):List UInt8:=if x.kind=1 then r8 x.ins else (if x.kind=2 then pV else wH)++Lib.itoa x.car
def ML (L:List Ev):List UInt8:=(L.map fun x=>tL x++ [10]).flatten
noncomputable def DJ (L:List Ev):List UInt8 × Int:=if xA L=0 then (if 40000<(ML L).length then ([],4) else (ML L,0)) else ([],xA L)
theorem RH (L:List Ev) (k:Nat) (hk:k<L.length):ML (L.take (k+1))=ML (L.take k)++(tL L[k]! ++ [10]):=by
 unfold ML
 rw[dD4 hk,dK6,List.flatten_append,bA7 _ k hk]
 simp
theorem MM {x:Ev} (h:evP x):(tL x).length<=100:=by
 rcases h with ⟨h1,h2,h3⟩|⟨h1,h2,h3,h4⟩
 ·unfold tL;rw[aO9 h1];exact KD h3
 ·have:=U5 (z:=x.car) (by omega) (by omega)
  unfold tL
  rw[aQ4 (by omega),bA4]
  split<;>simp only[pV,wH,bK2,dA2]<;>omega
theorem xQ {L:List Ev} (h:L.all S3=true):(ML L).length<=L.length*101:=by
 induction L with
 |nil=>simp[ML]
 |cons i L ih=>
  have e:ML (i::L)=tL i++ [10]++ML L:=by simp[ML]
  simp only[dD3,aO3] at h
  have h1:=MM (X8.1 h.1)
  have h2:=ih h.2
  rw[e,bA4,bA4,bK2]
  simp
  omega
def FC (l:List UInt8):Option Int:=match Lib.atoiAll l with
 | .ok v=>some v
 |_=>none
theorem aL1 {l:List UInt8} {v:Int} (h:FC l=some v):Lib.atoiAll l= .ok v:=by
 unfold FC at h
 split at h
 ·rename_i u hu;cases h;exact hu
 ·cases h
theorem IQ {l:List UInt8} (h:FC l=none) (v:Int):Lib.atoiAll l ≠ .ok v:=by
 intro e
 unfold FC at h
 rw[e] at h
 cases h
theorem fX {z:Int} (h0: -1000000<=z) (h1:z<=1000000):FC (Lib.itoa z)=some z:=by
 unfold FC
 rw[YN (by omega) (by omega)]
def rL (k:Nat) (r:List UInt8):Option Ev:=match FC r with
 |some c=>if Lib.itoa c=r/\1<=c/\c<=6 then some ⟨k,Q7,c⟩ else none
 |none=>none
noncomputable def N9 (s:List UInt8):Option Ev:=match F6 pV s with
 |some r=>rL 2 r
 |none=>match F6 wH s with
  |some r=>rL 3 r
  |none=>(W3 s).map fun i=>⟨1,i,0⟩
theorem bF {p s r:List UInt8} (h:F6 p s=some r):s=p++r:=by
 unfold F6 at h
 split at h
 ·rename_i hp
  cases h
  have:=List.take_append_drop p.length s
  rw[hp.2] at this
  exact this.symm
 ·cases h
theorem IS {k:Nat} {r:List UInt8} {x:Ev} (h:rL k r=some x):x=⟨k,Q7,x.car⟩/\1<=x.car/\x.car<=6/\r=Lib.itoa x.car:=by
 unfold rL at h
 split at h
 ·split at h
  ·rename_i c _ hc;cases h;exact ⟨rfl,hc.2.1,hc.2.2,hc.1.symm⟩
  ·cases h
 ·cases h
theorem IR {k:Nat} {c:Int} (h1:1<=c) (h2:c<=6):rL k (Lib.itoa c)=some ⟨k,Q7,c⟩:=by
 unfold rL
 rw[fX (by omega) (by omega)]
 exact aO9 ⟨rfl,h1,h2⟩
theorem bT5 (op:Nat) (h:op<10):C5 op ≠ [98,114,101,97,107]/\C5 op ≠ [109,101,110,100]:=by
 revert op;decide
theorem WR {i:E5} (h:K5 i) (r:List UInt8):r8 i ≠ pV++r/\r8 i ≠ wH++r:=by
 have hw:=eO i
 have ho:=bT5 i.op h.op_lt.2
 constructor
 ·intro e
  have:v7 32 (pV++r)= [98,114,101,97,107]::v7 32 r:=W9 (a:= [98,114,101,97,107]) r (by decide)
  rw[e,this] at hw
  exact ho.1 (List.cons.inj hw).1.symm
 ·intro e
  have:v7 32 (wH++r)= [109,101,110,100]::v7 32 r:=W9 (a:= [109,101,110,100]) r (by decide)
  rw[e,this] at hw
  exact ho.2 (List.cons.inj hw).1.symm
theorem CC {s:List UInt8} {i:E5} (h:W3 s=some i):K5 i/\r8 i=s:=by
 have:=uF s
 rw[h] at this
 exact this
theorem bY9 (r s:List UInt8):wH++r ≠ pV++s:=fun e=>by
 have:=congrArg List.head? e
 revert this;simp[pV,wH]
theorem ZT {s:List UInt8} {x:Ev} (h:N9 s=some x):evP x/\tL x=s:=by
 unfold N9 at h
 split at h
 ·rename_i r hr
  obtain ⟨h1,h2,h3,h4⟩:=IS h
  rw[h1]
  refine ⟨.inr ⟨.inl rfl,rfl,h2,h3⟩,?_⟩
  rw[bF hr,h4];rfl
 ·split at h
  ·rename_i r hr
   obtain ⟨h1,h2,h3,h4⟩:=IS h
   rw[h1]
   refine ⟨.inr ⟨.inr rfl,rfl,h2,h3⟩,?_⟩
   rw[bF hr,h4];rfl
  ·rw[aG4] at h
   obtain ⟨i,hi,rfl⟩:=h
   obtain ⟨h1,h2⟩:=CC hi
   exact ⟨.inl ⟨rfl,rfl,h1⟩,h2⟩
theorem bL5 {x:Ev} (h:evP x):N9 (tL x)=some x:=by
 obtain ⟨k,i,c⟩:=x
 rcases h with ⟨h1,h2,h3⟩|⟨h1,h2,h3,h4⟩
 ·simp only at h1 h2 h3
  subst h1 h2
  have e:tL ⟨1,i,0⟩=r8 i:=rfl
  rw[e]
  unfold N9
  cases hb:F6 pV (r8 i) with
  |some r=>exact absurd (bF hb) (WR h3 r).1
  |none=>
   cases hm:F6 wH (r8 i) with
   |some r=>exact absurd (bF hm) (WR h3 r).2
   |none=>simp only;rw[dO h3];rfl
 ·simp only at h1 h2 h3 h4
  subst h2
  rcases h1 with rfl|rfl
  ·have e:tL ⟨2,Q7,c⟩=pV++Lib.itoa c:=rfl
   rw[e]
   unfold N9
   rw[zH]
   exact IR h3 h4
  ·have e:tL ⟨3,Q7,c⟩=wH++Lib.itoa c:=rfl
   rw[e]
   unfold N9
   cases hb:F6 pV (wH++Lib.itoa c) with
   |some r=>exact absurd (bF hb) (bY9 _ _)
   |none=>
    simp only
    rw[zH]
    exact IR h3 h4
theorem uA {s:List UInt8} {x:Ev}:N9 s=some x↔evP x/\tL x=s:=⟨ZT,fun ⟨h1,h2⟩=>by rw[<- h2];exact bL5 h1⟩
noncomputable def eW:List (List UInt8)->List Ev->Option (List Ev)
 | [],acc=>some acc
 | [l],acc=>if l= [] then some acc else none
 |l::l2::ls,acc=>match N9 l with
  |some x=>eW (l2::ls) (acc++ [x])
  |none=>none
noncomputable def wO (s:List UInt8):List Ev × Int:=if 40000<s.length\/2000<(v7 10 s).length - 1 then ([],4) else match eW (v7 10 s) [] with
 |some L=>(L,0)
 |none=>([],12)
theorem UD (l:List UInt8) (acc:List Ev) (h:l ≠ []):eW [l] acc=none:=by rw[eW,aQ4 h]
theorem UC (acc:List Ev):eW [[]] acc=some acc:=by rw[eW,aO9 rfl]
theorem nB {l:List UInt8} {ls:List (List UInt8)} {acc:List Ev} {x:Ev} (hl:ls ≠ []) (h:N9 l=some x):eW (l::ls) acc=eW ls (acc++ [x]):=by
 cases ls with
 |nil=>exact absurd rfl hl
 |cons a r=>rw[eW,h]
theorem nA {l:List UInt8} {ls:List (List UInt8)} {acc:List Ev} (hl:ls ≠ []) (h:N9 l=none):eW (l::ls) acc=none:=by
 cases ls with
 |nil=>exact absurd rfl hl
 |cons a r=>rw[eW,h]
end Go.Itp
namespace Go.Proofs.YtgohenjcanfolaaGreatDoor
open Go Go.Itp
set_option maxRecDepth 100000
set_option maxHeartbeats 2000000
set_option linter.unusedSimpArgs false
set_option linter.unusedVariables false
section
variable (w:World) (n:Nat)
theorem xJ (l:List UInt8) (hl:l.length<=1000000) (h5:(X1 Tryz.prog w "strconv.ErrSyntax").isSome=true) (h6:(X1 Tryz.prog w "strconv.ErrRange").isSome=true):
  ∃ z:Int,(∀ z0,FC l=some z0->z=z0)/\((m0 (EN w (n+1)) 100 [r7 l] (.tup [.sc (.int .i64 z),.sc .nilIface]) ⟨[],0,0⟩)\/∃ cs:List Value,m0 (EN w (n+1)) 100 [r7 l] (.tup [.sc (.int .i64 z),.ifc 253 (.ptr 0 0)]) ⟨[(0,.box 280 1 (cs.map V.sc))],1,0⟩):=by
 have hs:(ByteArray.mk l.toArray).size<=281474976710656:=by rw[B1];omega
 cases hu:FC l with
 |some v=>exact ⟨v,fun z0 h=>Option.some.inj h,.inl (m0.ofO (bC0 w n ⟨[],0,0⟩ ⟨l.toArray⟩ v hs (aL1 hu)))⟩
 |none=>
  obtain ⟨k,cs,sp⟩:=bB8 w n ⟨l.toArray⟩ hs h5 h6 (IQ hu)
  exact ⟨k,fun z0 h=>(by cases h),.inr ⟨cs,sp⟩⟩
theorem mN {C:C8} {st:n9} {Q:V->n9->Prop} {l:List UInt8} {z:Int} (hC:C.E=EN w (n+1)) (hz:(m0 (EN w (n+1)) 100 [r7 l] (.tup [.sc (.int .i64 z),.sc .nilIface]) ⟨[],0,0⟩)\/∃ cs:List Value,m0 (EN w (n+1)) 100 [r7 l] (.tup [.sc (.int .i64 z),.ifc 253 (.ptr 0 0)]) ⟨[(0,.box 280 1 (cs.map V.sc))],1,0⟩)
  (h1:Q (.tup [.sc (.int .i64 z),.sc .nilIface]) st) (h2:∀ (o:Nat) (cs:List V),o=st.next->Q (.tup [.sc (.int .i64 z),.ifc 253 (.ptr o 0)]) ⟨(o,.box 280 1 cs)::st.own,st.next+1,st.ro⟩):T2 C 100 [r7 l] st Q:=by
 rcases hz with hz|⟨cs,hz⟩
 ·exact GD (by rw[hC];exact hz) rfl rfl (fun _=>rfl) h1
 ·refine bE (by rw[hC];exact hz) rfl rfl rfl ?_
  obtain ⟨H,nx,ro⟩:=st
  have:=h2 nx (mD nx (cs.map V.sc)) rfl
  simp only[pX,mD,wT,shO,S5,fA,O3,cZ5,cZ9,dJ3,dI5] at this ⊢
  exact this
theorem aJ3 (s:List UInt8) (hs:s.length<=1000000) (h5:(X1 Tryz.prog w "strconv.ErrSyntax").isSome=true) (h6:(X1 Tryz.prog w "strconv.ErrRange").isSome=true):
  ∃ (b:Nat) (z:Int),(m0 (EN w (n+4)) 147 [r7 s] (.tup [.sc (.int .u8 b),.sc (.int .i64 z)]) ⟨[],0,0⟩)/\b<=1/\∀ b0 z0,b0<=1-> -1000000<=z0->z0<=1000000->s=aW b0 z0->b=b0/\z=z0:=by
 by_cases hb:s.head? =some 98
 ·obtain ⟨z,h7,h8⟩:=xJ w (n+2) s.tail (by simp;omega) h5 h6
  refine ⟨1,z,?_,aQ5 _,fun b0 z0 h1 h2 h3 h4=>?_⟩
  ·refine vF rfl fun C hC h0=>?_
   have e:xD 98 s=(s.tail,true):=aO9 hb
   have hp:=QR w n s 98 hs
   rw[e] at hp
   simp (disch:=try exact z0z) only[WA,simprocAttr,cQ4]
   refine cF hC hp ?_
   simp (disch:=try exact z0z) only[WA,simprocAttr]
   refine mN w (n+2) hC h8 ?_ (fun o cs ho=>?_)
   all_goals
    repeat' (first|(simp (disch:=try exact z0z) only[WA,simprocAttr]))
    exact d7 rfl h0 rfl
  ·subst h4
   rcases (by omega:b0=0\/b0=1) with rfl|rfl
   ·exact absurd hb (by simp[aW])
   ·exact ⟨rfl,h7 z0 (fX h2 h3)⟩
 ·obtain ⟨z,h7,h8⟩:=xJ w (n+2) (xD 102 s).1 (by unfold xD;split<;>(try simp)<;>omega) h5 h6
  refine ⟨0,z,?_,by omega,fun b0 z0 h1 h2 h3 h4=>?_⟩
  ·refine vF rfl fun C hC h0=>?_
   have e:xD 98 s=(s,false):=aQ4 hb
   have hp:=QR w n s 98 hs
   have ht:=aY7 w n s 102 hs
   rw[e] at hp
   simp (disch:=try exact z0z) only[WA,simprocAttr,cQ4]
   refine cF hC hp ?_
   simp (disch:=try exact z0z) only[WA,simprocAttr]
   refine cF hC ht ?_
   repeat' (first|(simp (disch:=try exact z0z) only[WA,simprocAttr])|apply j8|((first|apply n7|apply m9|apply l8|apply n8|apply n6|apply l9)<;>intro _))
   refine mN w (n+2) hC h8 ?_ (fun o cs ho=>?_)
   all_goals
    repeat' (first|(simp (disch:=try exact z0z) only[WA,simprocAttr]))
    exact d7 rfl h0 rfl
  ·subst h4
   rcases (by omega:b0=0\/b0=1) with rfl|rfl
   ·refine ⟨rfl,h7 z0 ?_⟩
    have:(xD 102 (aW 0 z0)).1=Lib.itoa z0:=by unfold aW xD;simp
    rw[this]
    exact fX h2 h3
   ·exact absurd rfl hb
end
theorem cA4 {b:UInt8} (h:W1 b=true):Lib.digitVal b=some (b.toNat - 48):=by
 simp only[W1,aO3,cT5] at h
 unfold Lib.digitVal
 rw[aO9 h]
def fW (l:List UInt8):Option Int:=if l ≠ []/\l.length<=4/\(1<l.length->l[0]! ≠ 48)/\l.all W1=true then some (((Lib.decFrom 0 l).getD 0:Nat):Int) else none
section
variable (w:World) (n:Nat)
def wL (r:Option Int):V:= .tup [.sc (.int .i64 (r.getD 0)),.sc (.bool r.isSome)]
theorem NS (l:List UInt8) (hl:l.length<=1000000):m0 (EN w (n+1)) 189 [r7 l] (wL (fW l)) ⟨[],0,0⟩:=by
 refine dX rfl rfl (fun _ _=>rfl) (cJ5 rfl) (jC w) (by cases fW l<;>rfl) fun C hC h0=>?_
 have ho:=B1 l
 have no:¬ (l ≠ []/\l.length<=4/\(1<l.length->l[0]! ≠ 48)/\l.all W1=true)->fW l=none:=fun h=>by unfold fW;rw[aQ4 h]
 by_cases h1:l.length=0\/4<l.length
 ·rw[no (fun h=>by
   have:=dL2.2 h.1
   omega)]
  repeat' (first|(simp (disch:=try exact z0z) only[WA,simprocAttr,bZ4,wL])|apply j8|((first|apply n7|apply m9|apply l8|apply n8|apply n6|apply l9)<;>intro _))
  all_goals try omega
  all_goals exact d7 rfl h0 rfl
 have h4:=dH l .i64 (0:Nat) (by omega) (by omega)
 have h9:((l[0]!.toNat:Nat):Int)=48↔l[0]! =48:=by
  constructor
  ·intro h;apply UInt8.toNat_inj.1;rw[show (48:UInt8).toNat=48 by rfl];omega
  ·intro h;rw[h];rfl
 rw[cJ2] at h4
 simp only[Int.natCast_zero] at h4
 by_cases h2:1<l.length/\l[0]! =48
 ·rw[no (fun h=>h.2.2.1 h2.1 h2.2)]
  have h3:=h9.2 h2.2
  generalize l[0]!.toNat=B at*
  simp (disch:=try exact z0z) only[WA,simprocAttr,bZ4,wL,h4]
  all_goals try omega
  all_goals exact d7 rfl h0 rfl
 have h3:1<l.length->¬ ((l[0]!.toNat:Nat):Int)=48:=fun h hh=>h2 ⟨h,h9.1 hh⟩
 have h3:¬ 1<l.length\/¬ ((l[0]!.toNat:Nat):Int)=48:=by
  by_cases h:1<l.length
  ·exact .inr (h3 h)
  ·exact .inl h
 have hR:l.all W1=true->fW l=some (((Lib.decFrom 0 l).getD 0:Nat):Int):=fun h=>by
  unfold fW
  rw[aO9 ⟨dL2.1 (by omega),by omega,fun h5=>fun h6=>h2 ⟨h5,h6⟩,h⟩]
 generalize l[0]!.toNat=B at h4 h3
 repeat' (first|(simp (disch:=try exact z0z) only[WA,simprocAttr,bZ4,h4])|apply j8|((first|apply n7|apply m9|apply l8|apply n8|apply n6|apply l9)<;>intro _))
 all_goals try omega
 all_goals
  refine r5 (fun m fr st=>∃ k u:Nat,m=l.length - k/\k<=l.length/\u<10 ^ k/\(∀ j,j<k->W1 l[j]! =true)/\Lib.decFrom 0 (l.take k)=some u/\fr= [(0,r7 l),(4,.sc (.int .i64 u)),(5,.sc (.int .i64 k))]/\st=⟨[],0,0⟩) l.length ?_ ⟨_,_,.refl _ _,0,0,?_⟩ ?_
  ·rw[hC,k9];unfold B6;omega
  ·exact ⟨by omega,by omega,by decide,(fun j hj=>absurd hj (dM7 _)),rfl,rfl,rfl⟩
  rintro m fr st ⟨k,u,rfl,hk,hu,hd,hf,rfl,rfl⟩
  have hp:u<10000:=dJ0 hu (by have:=Nat.pow_le_pow_right (show 1<=10 by omega) (show k<=4 by omega);simpa using this)
  by_cases h7:k<l.length
  ·have hb:=dH l .i64 k (by omega) (by omega)
   rw[cJ2] at hb
   by_cases h8:W1 l[k]! =true
   ·have ha:=h8
    have hv:=cA4 h8
    have he:=Lib.decFrom_take l k 0 u l[k]! _ hf (by rw[cJ3 h7,bA7 l k h7]) hv
    have hg:=eR hd h8
    simp only[W1,aO3,cT5] at ha
    generalize l[k]!.toNat=b at hb he ha
    have e1:IntKind.u8.wrap ((b:Int) - 48)=((b - 48:Nat):Int):=by rw[nR _ (by omega) (by omega)];omega
    repeat' (first|(simp (disch:=try exact z0z) only[WA,simprocAttr,LT,hb,e1])|apply j8|((first|apply n7|apply m9|apply l8|apply n8|apply n6|apply l9)<;>intro _))
    all_goals try omega
    refine ⟨_,_,_,by omega,.refl _ _,k+1,u*10+(b - 48),rfl,h7,?_,hg,he,?_,rfl⟩
    ·rw[Nat.pow_succ];omega
    ·have:(10:Int)*u+((b - 48:Nat):Int)=((u*10+(b - 48):Nat):Int):=by omega
     rw[this];simp
   ·have e:fW l=none:=no fun h=>h8 (bB3.1 h.2.2.2 l[k]! (by rw[bA7 l k h7];exact cN3 h7))
    rw[e]
    have hm:¬ (48<=l[k]!.toNat/\l[k]!.toNat<=57):=fun h=>h8 (by simp only[W1,aO3,cT5];exact h)
    generalize l[k]!.toNat=b at hb hm
    repeat' (first|(simp (disch:=try exact z0z) only[WA,simprocAttr,LT,hb,wL])|apply j8|((first|apply n7|apply m9|apply l8|apply n8|apply n6|apply l9)<;>intro _))
    all_goals try omega
    all_goals exact d7 rfl h0 rfl
  ·have:k=l.length:=by omega
   subst this
   rw[dJ4] at hf
   have hn:l.all W1=true:=bB3.2 fun c hc=>by
    obtain ⟨i,hi,rfl⟩:=dL4 hc
    have:=hd i hi
    rw[bA7 l i hi] at this
    exact this
   rw[hR hn,hf]
   repeat' (first|(simp (disch:=try exact z0z) only[WA,simprocAttr,LT,wL,Option.getD])|apply j8|((first|apply n7|apply m9|apply l8|apply n8|apply n6|apply l9)<;>intro _))
   exact d7 rfl h0 rfl
theorem bF2 (l:List UInt8) (c:UInt8) (hl:l.length<=1000000):m0 (EN w (n+1)) 51 [r7 l,.sc (.int .u8 c.toNat)] (.sl 2 (v7 c l).length ((v7 c l).map sD)) ⟨[],0,0⟩:=by
 refine (cV4 w n l c hl).fin ?_ rfl rfl rfl (fun h=>by cases h)
 exact WC rfl (by simp)
end
theorem aF6:∀ (n u:Nat),u<=n->0<u->(Lib.decDigits u)[0]! ≠ 48
 |0,u,h,h2=>by omega
 |n+1,u,h,h2=>by
  rw[Lib.decDigits]
  split
  ·rename_i h3
   show UInt8.ofNat (48+u) ≠ 48
   intro e
   have:=congrArg UInt8.toNat e
   rw[UInt8.toNat_ofNat'] at this
   have e2:(48:UInt8).toNat=48:=rfl
   rw[e2] at this
   omega
  ·rename_i h3
   have ih:=aF6 n (u / 10) (by omega) (by omega)
   have hh:=X6 (u / 10)
   obtain ⟨a,r,hr⟩:∃ a r,Lib.decDigits (u / 10)=a::r:=by
    cases h4:Lib.decDigits (u / 10) with
    |nil=>exact absurd h4 hh
    |cons a r=>exact ⟨a,r,rfl⟩
   rw[hr] at ih ⊢
   exact ih
theorem TQ (u:Nat) (h:u<10000):fW (Lib.decDigits u)=some (u:Int):=by
 have hd:∀ c ∈ Lib.decDigits u,W1 c=true:=dA u u (aQ5 _)
 have h1:=K3 3 u (by omega)
 have h2:=X6 u
 have h3:=N4 u u (aQ5 _)
 have h4:1<(Lib.decDigits u).length->(Lib.decDigits u)[0]! ≠ 48:=fun hl=>by
  refine aF6 u u (aQ5 _) (cZ7 fun h0=>?_)
  subst h0
  rw[Lib.decDigits,dif_pos (by omega)] at hl
  simp at hl
 unfold fW
 rw[aO9 ⟨h2,h1,h4,bB3.2 hd⟩,h3]
 rfl
section
variable (w:World) (n:Nat)
theorem OC (s:List UInt8) (hs:s.length<=1000000):∃ (z:Int) (f:Bool),(m0 (EN w (n+2)) 149 [r7 s] (.tup [.sc (.int .i64 z),.sc (.bool f)]) ⟨[],0,0⟩)/\∀ z0,-1000<=z0->z0<=1000->s=Lib.itoa z0->z=z0:=by
 have hi:=B1 s
 cases s with
 |nil=>
  have hn:=NS w n [] (by simp)
  refine ⟨(fW []).getD 0,(fW []).isSome,?_,fun z0 _ _ h=>absurd h.symm aJ8⟩
  refine vF rfl fun C hC h0=>?_
  have hj:(ByteArray.mk ([]:List UInt8).toArray).size=0:=rfl
  unfold wL at hn
  simp (disch:=try exact z0z) only[WA,simprocAttr,bZ1]
  all_goals try omega
  all_goals refine cF hC hn ?_
  all_goals
   simp (disch:=try exact z0z) only[WA,simprocAttr]
   exact d7 rfl h0 rfl
 |cons b r=>
  have hz:(b::r).length=r.length+1:=rfl
  have h9:=dH (b::r) .i64 (0:Nat) (by omega) (by omega)
  rw[cJ2,show (b::r)[0]! =b from rfl] at h9
  simp only[Int.natCast_zero] at h9
  have he:((b.toNat:Nat):Int)=45↔b=45:=by
   constructor
   ·intro h;apply UInt8.toNat_inj.1;rw[show (45:UInt8).toNat=45 by rfl];omega
   ·intro h;rw[h];rfl
  by_cases hb:b=45
  ·have hn:=NS w n r (by omega)
   have e1:=sA (b::r) .i64 1 (by omega) (by omega)
   rw[show (1:Int).toNat=1 from rfl,show (b::r).drop 1=r from rfl] at e1
   have hk:IntKind.i64.wrap (0 - (fW r).getD 0)= -(fW r).getD 0\/True:= .inr trivial
   refine ⟨IntKind.i64.wrap (0 - (fW r).getD 0),(fW r).isSome && decide (0<(fW r).getD 0),?_,fun z0 h1 h2 h=>?_⟩
   ·refine vF rfl fun C hC h0=>?_
    have he:=he.2 hb
    generalize b.toNat=B at*
    unfold wL at hn
    simp (disch:=try exact z0z) only[WA,simprocAttr,bZ1,h9,e1]
    all_goals try omega
    refine cF hC hn ?_
    cases hu:(fW r).isSome
    ·simp (disch:=try exact z0z) only[WA,simprocAttr,hu,e1]
     all_goals exact d7 rfl h0 rfl
    ·simp (disch:=try exact z0z) only[WA,simprocAttr,hu,e1]
     all_goals exact d7 rfl h0 rfl
   ·rcases Int.lt_or_le z0 0 with ha|ha
    ·have e:Lib.itoa z0=45::Lib.decDigits z0.natAbs:=by unfold Lib.itoa;rw[aO9 ha]
     rw[e] at h
     rw[(List.cons.inj h).2,TQ _ (by omega),Option.getD_some,vA _ (by omega) (by omega)]
     omega
    ·have:=AM ha b (by rw[<- h];simp)
     rw[hb] at this
     exact absurd this (by decide)
  ·have hn:=NS w n (b::r) hs
   refine ⟨(fW (b::r)).getD 0,(fW (b::r)).isSome,?_,fun z0 h1 h2 h=>?_⟩
   ·refine vF rfl fun C hC h0=>?_
    have he:=mt he.1 hb
    generalize b.toNat=B at*
    unfold wL at hn
    simp (disch:=try exact z0z) only[WA,simprocAttr,bZ1,h9]
    all_goals try omega
    all_goals refine cF hC hn ?_
    all_goals
     simp (disch:=try exact z0z) only[WA,simprocAttr]
     exact d7 rfl h0 rfl
   ·rcases Int.lt_or_le z0 0 with ha|ha
    ·have e:Lib.itoa z0=45::Lib.decDigits z0.natAbs:=by unfold Lib.itoa;rw[aO9 ha]
     rw[e] at h
     exact absurd (List.cons.inj h).1 hb
    ·obtain ⟨u,rfl⟩:=cZ4 ha
     rw[h,Lib.itoa_nonneg,TQ _ (by omega)]
     rfl
theorem jG (s:List UInt8) (hs:s.length<=1000000):∃ (b:Nat) (z:Int) (f:Bool),(m0 (EN w (n+3)) 148 [r7 s] (.tup [.sc (.int .u8 b),.sc (.int .i64 z),.sc (.bool f)]) ⟨[],0,0⟩)/\∀ b0 z0,b0<=1-> -1000<=z0->z0<=1000->s=aW b0 z0->b=b0/\z=z0:=by
 have hi:=B1 s
 have bad:∀ {b0:Nat} {z0:Int},s=aW b0 z0->2<=s.length/\(s[0]! =98/\b0=1\/s[0]! =102/\b0 ≠ 1)/\s.drop 1=Lib.itoa z0:=fun {b0 z0} h=>by
  have:=dL2.2 (aJ8 (z:=z0))
  rw[h]
  unfold aW
  refine ⟨by simp;omega,?_,rfl⟩
  by_cases hb:b0=1
  ·rw[aO9 hb];exact .inl ⟨rfl,hb⟩
  ·rw[aQ4 hb];exact .inr ⟨rfl,hb⟩
 by_cases hl:s.length<2
 ·refine ⟨0,0,false,?_,fun b0 z0 _ _ _ h=>by have:=(bad h).1;omega⟩
  refine vF rfl fun C hC h0=>?_
  simp (disch:=try exact z0z) only[WA,simprocAttr,bD2]
  all_goals try omega
  exact d7 rfl h0 rfl
 have h9:=dH s .i64 (0:Nat) (by omega) (by omega)
 rw[cJ2] at h9
 simp only[Int.natCast_zero] at h9
 have hc:∀ c:UInt8,(((s[0]!).toNat:Nat):Int)=((c.toNat:Nat):Int)↔s[0]! =c:=fun c=>by
  constructor
  ·intro h;apply UInt8.toNat_inj.1;omega
  ·intro h;rw[h]
 have hf:=hc 98
 have hg:=hc 102
 rw[show (((98:UInt8).toNat:Nat):Int)=98 from rfl] at hf
 rw[show (((102:UInt8).toNat:Nat):Int)=102 from rfl] at hg
 have e1:=sA s .i64 1 (by omega) (by omega)
 rw[show (1:Int).toNat=1 from rfl] at e1
 by_cases h2:s[0]! =102\/s[0]! =98
 case neg=>
  refine ⟨0,0,false,?_,fun b0 z0 _ _ _ h=>?_⟩
  ·refine vF rfl fun C hC h0=>?_
   have n1:=mt hf.1 (fun h=>h2 (.inr h))
   have n2:=mt hg.1 (fun h=>h2 (.inl h))
   generalize (s[0]!).toNat=B at*
   simp (disch:=try exact z0z) only[WA,simprocAttr,bD2,h9]
   all_goals try omega
   all_goals exact d7 rfl h0 rfl
  ·rcases (bad h).2.1 with h3|h3
   ·exact absurd (.inr h3.1) h2
   ·exact absurd (.inl h3.1) h2
 obtain ⟨z,f,hn,hz⟩:=OC w n (s.drop 1) (by simp;omega)
 by_cases h3:s[0]! =98
 ·refine ⟨1,z,f,?_,fun b0 z0 h4 h5 h6 h=>?_⟩
  ·refine vF rfl fun C hC h0=>?_
   have n1:=hf.2 h3
   generalize (s[0]!).toNat=B at*
   simp (disch:=try exact z0z) only[WA,simprocAttr,bD2,h9,e1]
   all_goals try omega
   refine cF hC hn ?_
   simp (disch:=try exact z0z) only[WA,simprocAttr,h9]
   all_goals try omega
   exact d7 rfl h0 rfl
  ·obtain ⟨_,h7,h8⟩:=bad h
   refine ⟨?_,hz z0 h5 h6 h8⟩
   rcases h7 with h7|h7
   ·exact h7.2.symm
   ·rw[h3] at h7;exact absurd h7.1 (by decide)
 ·refine ⟨0,z,f,?_,fun b0 z0 h4 h5 h6 h=>?_⟩
  ·refine vF rfl fun C hC h0=>?_
   have n1:=mt hf.1 h3
   have n2:=hg.2 (h2.resolve_right h3)
   generalize (s[0]!).toNat=B at*
   simp (disch:=try exact z0z) only[WA,simprocAttr,bD2,h9,e1]
   all_goals try omega
   refine cF hC hn ?_
   simp (disch:=try exact z0z) only[WA,simprocAttr,h9]
   all_goals try omega
   exact d7 rfl h0 rfl
  ·obtain ⟨_,h7,h8⟩:=bad h
   refine ⟨?_,hz z0 h5 h6 h8⟩
   rcases h7 with h7|h7
   ·exact absurd h7.1 h3
   ·omega
end
def jY (nm:List UInt8):Nat->Int
 |0=> -1
 |k+1=>if 0<=jY nm k then jY nm k else if C5 k=nm then k else -1
theorem tV {nm:List UInt8}:∀ k,(∀ j,j<k->C5 j ≠ nm)->jY nm k= -1
 |0,_=>rfl
 |k+1,h=>by rw[jY,tV k (fun j hj=>h j (by omega)),aQ4 (by omega),aQ4 (h k (by omega))]
theorem MZ {nm:List UInt8} {i:Nat} (hi:C5 i=nm) (h:∀ j,j<i->C5 j ≠ nm):∀ k,i<k->jY nm k=i
 |0,hk=>by omega
 |k+1,hk=>by
  rw[jY]
  by_cases e:i=k
  ·subst e;rw[tV i h,aQ4 (by omega),aO9 hi]
  ·rw[MZ hi h k (by omega),aO9 (by omega)]
theorem AK (nm:List UInt8):∀ k,-1<=jY nm k/\jY nm k<k
 |0=>by simp[jY]
 |k+1=>by
  have:=AK nm k
  rw[jY]
  split
  ·omega
  ·split<;>omega
theorem aT6 {op:Nat} (h0:0<op) (h1:op<10):jY (C5 op) 10=op:=MZ rfl (fun j hj e=>by
  rcases dI6 j with h|h
  ·subst h;exact bM0 op h1 h0 e.symm
  ·have:=IM j (by omega) op h1 h h0 e
   omega) 10 h1
section
variable (w:World) (n:Nat)
theorem cE3 (st:n9) (b e:Nat) (nm a c:List UInt8) (hb:j7 st.own b=some (.box 9 e [r7 nm])) (hn:b ≠ st.next):E7 (EN w (n+1)) 146 st [.agg [r7 a,r7 c],.ptr b 0] (.sc (.bool (decide (a=nm)))):=by
 refine EH rfl rfl (fun _ _=>rfl) (cJ5 rfl) rfl fun C hC h0=>⟨⟨(st.next,.box 204 1 [r7 a,r7 c])::st.own,st.next+1,st.next⟩,?_⟩
 simp (disch:=try exact z0z) only[WA,simprocAttr,dB5,O3,hn,hb,T9]
 exact .refl _ _
theorem wD (st:n9) (b o e:Nat) (nm:List UInt8) (hb:j7 st.own b=some (.box 9 e [r7 nm])) (hn:b ≠ st.next) (ho:j7 st.own o=some (.row 204 2 false false aQ)):
  E7 (EN w (n+2)) 145 st [.ref o 0 10 10,.fn 146 [] [.ptr b 0]] (.sc (.int .i64 (jY nm 10))):=by
 refine EH rfl rfl (fun _ _=>rfl) (cJ5 rfl) rfl fun C hC h0=>⟨⟨st.own,st.next,st.next⟩,?_⟩
 simp (disch:=try exact z0z) only[WA,simprocAttr,cQ3]
 refine r5 (fun m fr st'=>∃ k:Nat,m=10 - k/\k<=10/\(∀ j,j<k->C5 j ≠ nm)/\fr= [(0,.ref o 0 10 10),(1,.fn 146 [] [.ptr b 0]),(7,.sc (.int .i64 ((10:Nat):Int))),(8,.sc (.int .i64 k))]/\st'=⟨st.own,st.next,st.next⟩) 10 ?_ ⟨_,_,.refl _ _,0,rfl,by omega,fun j hj=>absurd hj (dM7 _),rfl,rfl⟩ ?_
 ·rw[hC,k9];unfold B6;omega
 rintro m fr st' ⟨k,rfl,hk,hj,rfl,rfl⟩
 have h2:((10:Nat):Int)=10:=rfl
 by_cases h3:k<10
 ·have h4:=KY h3
  have hf:=cE3 w n ⟨st.own,st.next,st.next⟩ b e nm (C5 k) (q8 k) hb hn
  by_cases hx:C5 k=nm
  ·rw[dA1 hx] at hf
   rw[MZ hx hj 10 h3]
   simp (disch:=try exact z0z) only[WA,simprocAttr,LS,ho,h4,OW,h2]
   all_goals try omega
   refine m8 (by rw[hC];exact hf) ?_
   simp (disch:=try exact z0z) only[WA,simprocAttr]
   exact .refl _ _
  ·rw[dA7 hx] at hf
   simp (disch:=try exact z0z) only[WA,simprocAttr,LS,ho,h4,OW,h2]
   all_goals try omega
   refine m8 (by rw[hC];exact hf) ?_
   simp (disch:=try exact z0z) only[WA,simprocAttr]
   exact ⟨_,_,_,by omega,.refl _ _,k+1,rfl,h3,eR hj hx,rfl,rfl⟩
 ·have:k=10:=by omega
  subst this
  rw[tV 10 hj]
  simp (disch:=try exact z0z) only[WA,simprocAttr,LS,h2]
  all_goals try omega
  exact .refl _ _
end
set_option maxHeartbeats 4000000
theorem aD0 {op:Nat} (h:op<10):C0 aQ (op*2+1) none=some (r7 (q8 op)):=by
 rcases (by omega:op=0\/op=1\/op=2\/op=3\/op=4\/op=5\/op=6\/op=7\/op=8\/op=9) with rfl|rfl|rfl|rfl|rfl|rfl|rfl|rfl|rfl|rfl<;>rfl
attribute [local irreducible] aQ
theorem QQ (c:UInt8) (l:List UInt8):(P9 c l).1.length<=l.length/\(P9 c l).2.1.length<=l.length:=by
 unfold P9
 split
 ·constructor<;>simp
  omega
 ·exact ⟨aQ5 _,bA5 _⟩
theorem zG {c:UInt8} {a:List UInt8} (r:List UInt8) (h:c ∉ a):P9 c (a++c::r)=(a,r,true):=by
 have hi:=AJ r h
 unfold P9
 rw[aO9 (by omega),hi]
 simp
theorem GM {c:UInt8} {a:List UInt8} (h:c ∉ a):P9 c a=(a,[],false):=by
 have hi:=HN h
 unfold P9
 rw[aQ4 (by omega)]
theorem GN {i0:E5} (h:K5 i0):(P9 32 (r8 i0)).1=C5 i0.op/\(P9 32 (r8 i0)).2.1=eM i0 0:=by
 rw[bT4 h,zG _ (TN _).1]
 exact ⟨rfl,rfl⟩
theorem aR6 (i0:E5) (k:Nat) (h:k<(q8 i0.op).length):(P9 32 (eM i0 k)).1=U8 i0 (q8 i0.op)[k]! /\(P9 32 (eM i0 k)).2.1=eM i0 (k+1):=by
 by_cases hk:k+1=(q8 i0.op).length
 ·obtain ⟨h1,h2⟩:=aB1 i0 k hk
  rw[h1,h2,GM (BQ _ _).1]
  exact ⟨rfl,rfl⟩
 ·rw[aB2 i0 k (by omega),zG _ (BQ _ _).1]
  exact ⟨rfl,rfl⟩
def VB:Option E5->V
 |some i=> .tup [L2 i,.sc (.int .i64 0)]
 |none=> .tup [L2 Q7,.sc (.int .i64 12)]
section
variable (w:World) (n:Nat)
theorem aW1 {C:C8} (hC:C.E=EN w (n+5)) (h0:C.w0.nx=0) (s:List UInt8) (hs:s.length<=1000000) (hix:jY (P9 32 s).1 10<1):gC C bC9.code [] (P4 0 [r7 s]) ⟨[],0,0⟩ (fC C bC9.res (VB none) ⟨[],0,0⟩):=by
 have hcut:=aF4 w n s 32 (by omega)
 have hio:∀ st:n9,j7 st.own 1=some (.box 9 1 [r7 (P9 32 s).1])->1 ≠ st.next->j7 st.own 2=some (.row 204 2 false false aQ)->E7 (EN w (n+5)) 145 st [.ref 2 0 10 10,.fn 146 [] [.ptr 1 0]] (.sc (.int .i64 (jY (P9 32 s).1 10))):=fun st hb hn ho=>wD w (n+3) st 1 2 1 (P9 32 s).1 hb hn ho
 simp (disch:=try exact z0z) only[WA,simprocAttr,bC9]
 refine cF hC hcut ?_
 simp (disch:=try exact z0z) only[WA,simprocAttr]
 refine bE (by rw[hC];exact kK w (n+4)) rfl rfl rfl ?_
 simp (disch:=try exact z0z) only[WA,simprocAttr,pX,mD,wT,shO,S5,fA]
 refine m8 (by rw[hC];exact hio _ rfl (show (1:Nat) ≠ 3 from by decide) rfl) ?_
 simp (disch:=try exact z0z) only[WA,simprocAttr]
 all_goals try omega
 exact d7 rfl h0 rfl
abbrev CB (op:Nat) (k:Nat) (i:E5):E9:= [(2,itO ⟨(q8 op).toArray⟩ k),(1,SX i),(0,SX Q7)]
abbrev bQ0 (s:List UInt8) (op k:Nat) (rest:List UInt8) (i:E5):Prop:=∀ i0,K5 i0->s=r8 i0->i0.op=op/\rest=eM i0 k/\i=BP i0 k
theorem aW0 {C:C8} (hC:C.E=EN w (n+5)) (h0:C.w0.nx=0) (hes:(X1 Tryz.prog w "strconv.ErrSyntax").isSome=true) (her:(X1 Tryz.prog w "strconv.ErrRange").isSome=true) (s:List UInt8) (hs:s.length<=1000000) (op:Nat) (hop:0<op) (hop2:op<10) {K:List KF} {P:B9}
  (hgo:∀ i:E5,(∀ i0,K5 i0->s=r8 i0->i=i0)->∀ rest,gK C K (.exit 0) [(0,r7 s),(2,.ptr 0 0),(5,r7 rest),(8,.ptr 1 0),(32,.ptr 2 0),(33,.tup [.sc (.bool false)]),(34,.sc (.bool false))] ⟨CB op (q8 op).length i,3,0⟩ P)
  {fr0:D0} {st0:n9} {rest0:List UInt8} {i1:E5} (hr0:rest0.length<=s.length) (hq0:bQ0 s op 0 rest0 i1) (hst:K7 C fr0 st0 [(0,r7 s),(2,.ptr 0 0),(5,r7 rest0),(8,.ptr 1 0),(32,.ptr 2 0)] ⟨CB op 0 i1,3,0⟩):
  gL C [0,2,5,8,32] kI K fr0 st0 P:=by
 have hrn:C.E.rounds=B6:=by rw[hC,k9]
 have hpl:=dN hop2
 refine r5 (fun m fr st=>∃ (p r rest:List UInt8) (i:E5),m=r.length/\q8 op=p++r/\rest.length<=s.length/\bQ0 s op p.length rest i/\fr= [(0,r7 s),(2,.ptr 0 0),(5,r7 rest),(8,.ptr 1 0),(32,.ptr 2 0)]/\st=⟨CB op p.length i,3,0⟩) (q8 op).length ?_ ⟨_,_,hst,[],_,_,_,rfl,rfl,hr0,hq0,rfl,rfl⟩ ?_
 ·rw[hrn];unfold B6;omega
 rintro m fr st ⟨p,r,rest,i,rfl,hs1,hrl,hq,rfl,rfl⟩
 have hsl:(q8 op).length=p.length+r.length:=by rw[hs1];simp
 cases r with
 |nil=>
  rw[dC9] at hs1
  have hnx:=TP (q8 op) (by omega) (CB op p.length i) 3 2 (by show some (itO ⟨(q8 op).toArray⟩ p.length)=_;rw[hs1])
  have hgo:=hgo i (fun i0 h1 h2=>by
   obtain ⟨a,_,b⟩:=hq i0 h1 h2
   rw[b,<- hs1,<- a]
   exact aA1 h1) rest
  rw[show (q8 op).length=p.length from by rw[hs1]] at hgo
  simp (disch:=try exact z0z) only[WA,simprocAttr,kI,P1,P5,hnx]
  exact hgo
 |cons b r3=>
  have hmem:b ∈ q8 op:=by rw[hs1];simp
  have hb:=BR hop2 b hmem
  have hb128:b.toNat<128:=by rcases hb with rfl|rfl|rfl|rfl|rfl<;>decide
  have hnx:=BE (q8 op) p r3 b hs1 hb128 (by omega) (CB op p.length i) 3 2 rfl
  have hat:(q8 op)[p.length]! =b:=by rw[hs1];exact bB6 p r3 b
  have hlt:p.length<(q8 op).length:=by rw[hsl];simp
  have hcut:=aF4 w n rest 32 (by omega)
  have hcl:=QQ 32 rest
  have hqc:∀ i0,K5 i0->s=r8 i0->(P9 32 rest).1=U8 i0 b/\(P9 32 rest).2.1=eM i0 (p.length+1):=fun i0 h1 h2=>by
   obtain ⟨a,c,_⟩:=hq i0 h1 h2
   rw[c]
   have:=aR6 i0 p.length (by rw[a];exact hlt)
   rw[a,hat] at this
   exact this
  generalize hcu:(P9 32 rest).1=wd at*
  generalize hcr:(P9 32 rest).2.1=rest' at*
  generalize hcb:(P9 32 rest).2.2=fd at*
  have hdone:∀ (i':E5) (fr:D0) (st:n9),(∀ i0,K5 i0->s=r8 i0->i'=bS2 i0 i b)->K7 C fr st [(0,r7 s),(2,.ptr 0 0),(5,r7 rest'),(8,.ptr 1 0),(32,.ptr 2 0)] ⟨CB op (p.length+1) i',3,0⟩->
    ∃ m' fr' st',m'<(b::r3).length/\K7 C fr st fr' st'/\∃ (p r rest:List UInt8) (i:E5),m'=r.length/\q8 op=p++r/\rest.length<=s.length/\bQ0 s op p.length rest i/\fr'= [(0,r7 s),(2,.ptr 0 0),(5,r7 rest),(8,.ptr 1 0),(32,.ptr 2 0)]/\st'=⟨CB op p.length i,3,0⟩:=fun i' fr st hi hw=>by
   have hpl1:(p++ [b]).length=p.length+1:=by simp
   refine ⟨r3.length,_,_,by simp,hw,p++ [b],r3,rest',i',rfl,by rw[hs1];simp,by omega,fun i0 h1 h2=>?_,rfl,by rw[hpl1]⟩
   obtain ⟨a,c,d⟩:=hq i0 h1 h2
   rw[hpl1]
   refine ⟨a,(hqc i0 h1 h2).2,?_⟩
   rw[hi i0 h1 h2,d,aA2 i0 p.length (by rw[a];exact hlt),a,hat]
  have d100:(((100:UInt8).toNat:Nat):Int)=100:=rfl
  have d110:(((110:UInt8).toNat:Nat):Int)=110:=rfl
  have d111:(((111:UInt8).toNat:Nat):Int)=111:=rfl
  have d99:(((99:UInt8).toNat:Nat):Int)=99:=rfl
  have d114:(((114:UInt8).toNat:Nat):Int)=114:=rfl
  have h43:(⟨#[43]⟩:ByteArray)=⟨([43]:List UInt8).toArray⟩:=rfl
  have hwl:wd.length<=1000000:=by omega
  rcases hb with rfl|rfl|rfl|rfl|rfl
  ·simp (disch:=try exact z0z) only[WA,simprocAttr,kI,P1,P5,hnx,d100,d110,d111,d99,d114]
   refine cF hC hcut ?_
   simp (disch:=try exact z0z) only[WA,simprocAttr,d100,d110,d111,d99,d114,h43,T9]
   refine hdone ⟨i.op,decide (wd= [43]),i.bed,i.pos,i.to,i.car,i.rack⟩ _ _ (fun i0 h1 h2=>?_) (o9 [(2,2),(1,1),(0,0)] 3 h0 rfl rfl rfl rfl)
   rw[(hqc i0 h1 h2).1]
   unfold bS2 U8
   simp only[if_true]
   cases i0.right<;>rfl
  ·obtain ⟨hb,hz,hk,hble,hprop⟩:=aJ3 w (n+1) wd hwl hes her
   simp (disch:=try exact z0z) only[WA,simprocAttr,kI,P1,P5,hnx,d100,d110,d111,d99,d114]
   refine cF hC hcut ?_
   simp (disch:=try exact z0z) only[WA,simprocAttr,d100,d110,d111,d99,d114,h43,T9]
   refine cF hC hk ?_
   simp (disch:=try exact z0z) only[WA,simprocAttr]
   refine hdone ⟨i.op,i.right,hb,hz,i.to,i.car,i.rack⟩ _ _ (fun i0 h1 h2=>?_) (o9 [(2,2),(1,1),(0,0)] 3 h0 rfl rfl rfl rfl)
   have hbd:=h1.bounds
   unfold L4 at hbd
   obtain ⟨e1,e2⟩:=hprop i0.bed i0.pos hbd.1 (by omega) (by omega) (hqc i0 h1 h2).1
   rw[e1,e2]
   rfl
  ·obtain ⟨hb,hz,hk,hble,hprop⟩:=aJ3 w (n+1) wd hwl hes her
   simp (disch:=try exact z0z) only[WA,simprocAttr,kI,P1,P5,hnx,d100,d110,d111,d99,d114]
   refine cF hC hcut ?_
   simp (disch:=try exact z0z) only[WA,simprocAttr,d100,d110,d111,d99,d114,h43,T9]
   refine cF hC hk ?_
   simp (disch:=try exact z0z) only[WA,simprocAttr]
   refine hdone ⟨i.op,i.right,i.bed,i.pos,hz,i.car,i.rack⟩ _ _ (fun i0 h1 h2=>?_) (o9 [(2,2),(1,1),(0,0)] 3 h0 rfl rfl rfl rfl)
   have hbd:=h1.bounds
   unfold L4 at hbd
   obtain ⟨e1,e2⟩:=hprop (1 - i0.bed) i0.to (by omega) (by omega) (by omega) (hqc i0 h1 h2).1
   rw[e2]
   rfl
  ·obtain ⟨hz,hprop,hk⟩:=xJ w (n+4) wd hwl hes her
   simp (disch:=try exact z0z) only[WA,simprocAttr,kI,P1,P5,hnx,d100,d110,d111,d99,d114]
   refine cF hC hcut ?_
   simp (disch:=try exact z0z) only[WA,simprocAttr,d100,d110,d111,d99,d114,h43,T9]
   refine mN w (n+4) hC hk ?_ (fun o cs ho=>?_)
   all_goals
    try subst ho
    repeat' (first|(simp (disch:=try exact z0z) only[WA,simprocAttr])|apply j8|((first|apply n7|apply m9|apply l8|apply n8|apply n6|apply l9)<;>intro _))
    refine hdone ⟨i.op,i.right,i.bed,i.pos,i.to,hz,i.rack⟩ _ _ (fun i0 h1 h2=>?_) (o9 [(2,2),(1,1),(0,0)] 3 h0 rfl rfl rfl rfl)
    have hbd:=h1.bounds
    have e1:=hprop i0.car (by rw[(hqc i0 h1 h2).1];exact fX (by omega) (by omega))
    rw[e1]
    rfl
  ·obtain ⟨hz,hprop,hk⟩:=xJ w (n+4) wd hwl hes her
   simp (disch:=try exact z0z) only[WA,simprocAttr,kI,P1,P5,hnx,d100,d110,d111,d99,d114]
   refine cF hC hcut ?_
   simp (disch:=try exact z0z) only[WA,simprocAttr,d100,d110,d111,d99,d114,h43,T9]
   refine mN w (n+4) hC hk ?_ (fun o cs ho=>?_)
   all_goals
    try subst ho
    repeat' (first|(simp (disch:=try exact z0z) only[WA,simprocAttr])|apply j8|((first|apply n7|apply m9|apply l8|apply n8|apply n6|apply l9)<;>intro _))
    refine hdone ⟨i.op,i.right,i.bed,i.pos,i.to,i.car,hz⟩ _ _ (fun i0 h1 h2=>?_) (o9 [(2,2),(1,1),(0,0)] 3 h0 rfl rfl rfl rfl)
    have hbd:=h1.bounds
    have e1:=hprop i0.rack (by rw[(hqc i0 h1 h2).1];exact fX (by omega) (by omega))
    rw[e1]
    rfl
theorem aD {s:List UInt8} (h:∀ i,K5 i->r8 i ≠ s):W3 s=none:=(bY2 (r:=none) h).symm
theorem aJ5 {s:List UInt8} {i0:E5} (h:K5 i0) (hs:s=r8 i0):jY (P9 32 s).1 10=i0.op:=by
 rw[hs,(GN h).1]
 exact aT6 h.op_lt.1 h.op_lt.2
theorem cV5 (hes:(X1 Tryz.prog w "strconv.ErrSyntax").isSome=true) (her:(X1 Tryz.prog w "strconv.ErrRange").isSome=true) (s:List UInt8) (hs:s.length<=1000000):m0 (EN w (n+6)) 101 [r7 s] (VB (W3 s)) ⟨[],0,0⟩:=by
 refine dX rfl rfl (fun _ _=>rfl) (cJ5 rfl) (jC w) (by cases W3 s<;>rfl) fun C hC h0=>?_
 by_cases hix1:jY (P9 32 s).1 10<1
 ·rw[aD fun i0 h1 h2=>by
   have:=aJ5 h1 h2.symm
   have:=h1.op_lt
   omega]
  exact aW1 w n hC h0 s hs hix1
 obtain ⟨op,hix⟩:∃ op:Nat,jY (P9 32 s).1 10=op:=⟨(jY (P9 32 s).1 10).toNat,by omega⟩
 have hrg:=AK (P9 32 s).1 10
 have hop:0<op:=by omega
 have hop2:op<10:=by omega
 have hcut:=aF4 w n s 32 (by omega)
 have hio:∀ st:n9,j7 st.own 1=some (.box 9 1 [r7 (P9 32 s).1])->1 ≠ st.next->j7 st.own 2=some (.row 204 2 false false aQ)->E7 (EN w (n+5)) 145 st [.ref 2 0 10 10,.fn 146 [] [.ptr 1 0]] (.sc (.int .i64 op)):=fun st hb hn ho=>by
  rw[<- hix];exact wD w (n+3) st 1 2 1 (P9 32 s).1 hb hn ho
 have hrs:=fun nx=>wP nx ⟨(q8 op).toArray⟩ (by have:=dN hop2;rw[B1];omega)
 have hwu:IntKind.u8.wrap (op:Int)=op:=nR _ (by omega) (by omega)
 have hwo:=aD0 hop2
 have hcl:=QQ 32 s
 simp (disch:=try exact z0z) only[WA,simprocAttr,bC9]
 refine cF hC hcut ?_
 simp (disch:=try exact z0z) only[WA,simprocAttr]
 refine bE (by rw[hC];exact kK w (n+4)) rfl rfl rfl ?_
 simp (disch:=try exact z0z) only[WA,simprocAttr,pX,mD,wT,shO,S5,fA]
 refine m8 (by rw[hC];exact hio _ rfl (show (1:Nat) ≠ 3 from by decide) rfl) ?_
 simp (disch:=try exact z0z) only[WA,simprocAttr,hwu]
 all_goals try omega
 refine bE (by rw[hC];exact kK w (n+4)) rfl rfl rfl ?_
 simp (disch:=try exact z0z) only[WA,simprocAttr,pX,mD,wT,shO,S5,fA,hwo,JA,hrs]
 refine aW0 w n hC h0 hes her s hs op hop hop2 (fun i hi rest=>?_) (i1:=⟨op,false,0,0,0,0,0⟩) hcl.2 (fun i0 h1 h2=>?_) (o9 [(5,2),(3,1),(0,0)] 3 h0 rfl rfl rfl rfl)
 ·have hbi:=yQ w (n+3) i
  by_cases hv:eJ i=true
  ·have hl:=bL6 w (n+2) i (K4.1 hv)
   rw[aO9 hv] at hbi
   unfold L2 at hbi hl
   by_cases ht:r8 i=s
   ·have hr:W3 s=some i:=by rw[<- ht];exact dO (K4.1 hv)
    rw[hr]
    simp (disch:=try exact z0z) only[WA,simprocAttr]
    refine cF hC hbi ?_
    simp (disch:=try exact z0z) only[WA,simprocAttr]
    refine cF hC hl ?_
    simp (disch:=try exact z0z) only[WA,simprocAttr,ht]
    exact d7 rfl h0 rfl
   ·rw[aD fun i0 h1 h2=>ht (by rw[hi i0 h1 h2.symm];exact h2)]
    simp (disch:=try exact z0z) only[WA,simprocAttr]
    refine cF hC hbi ?_
    simp (disch:=try exact z0z) only[WA,simprocAttr]
    refine cF hC hl ?_
    simp (disch:=try exact z0z) only[WA,simprocAttr,ht,T9]
    exact d7 rfl h0 rfl
  ·rw[aD fun i0 h1 h2=>hv (by rw[hi i0 h1 h2.symm];exact K4.2 h1)]
   rw[aQ4 hv] at hbi
   unfold L2 at hbi
   simp (disch:=try exact z0z) only[WA,simprocAttr]
   refine cF hC hbi ?_
   simp (disch:=try exact z0z) only[WA,simprocAttr]
   exact d7 rfl h0 rfl
 ·have h3:=aJ5 h1 h2
  have h4:i0.op=op:=by omega
  refine ⟨h4,?_,?_⟩
  ·rw[h2];exact (GN h1).2
  ·rw[aA3,h4]
end
end Go.Proofs.YtgohenjcanfolaaGreatDoor
namespace Go.Proofs.YtgohenjcanfolaaGreatDoor
open Go Go.Itp
set_option maxRecDepth 100000
set_option maxHeartbeats 2000000
set_option linter.unusedSimpArgs false
set_option linter.unusedVariables false
abbrev Z9:AC:=AC.r (AC.r (AC.r (AC.r (AC.r (AC.r R1.code)))))
abbrev aA:AC:=AC.r Z9
abbrev aB:AC:=AC.r aA
abbrev aC:AC:=AC.r aB
abbrev UT:AC:=AC.r aC
abbrev YH (s:List UInt8) (ws:List (List UInt8)) (a:Nat) (e:D0):D0:=(0,r7 s)::(2,.ptr 0 0)::(4,xH 2 ws)::(5,.ptr 1 0)::(7,.sc (.int .i64 a))::e
abbrev rdE (k:Nat) (e:D0):Prop:=e= []\/e= [(k,.sc (.bool false))]
abbrev ER (i:E5):n9:=⟨[(1,SX i),(0,SX Q7)],2,0⟩
section
variable (w:World) (n:Nat)
theorem dG1 {C:C8} {X:AC} {P:B9} (s:List UInt8) (ws:List (List UInt8)) (i:E5) (hwl:ws.length<=1000) (ho:i.op<10)
  (h1:3<=i.op/\i.op<=6/\1<ws.length->gC C X [] (YH s ws 2 []) (ER ⟨i.op,decide (ws[1]! = [43]),i.bed,i.pos,i.to,i.car,i.rack⟩) P)
  (h2:¬ (3<=i.op/\i.op<=6/\1<ws.length)->gC C X [] (YH s ws 1 [(40,.sc (.bool false))]) (ER i) P):
  gC C (.seq (AC.l Z9) X) [] (YH s ws 1 []) (ER i) P:=by
 have hwm:(ws.map sD).length=ws.length:=by rw[cZ0]
 have h43:(⟨#[43]⟩:ByteArray)=⟨([43]:List UInt8).toArray⟩:=rfl
 have t1:ws[Int.toNat 1]! =ws[1]! :=rfl
 by_cases hc:3<=i.op/\i.op<=6/\1<ws.length
 ·have h1:=h1 hc
  obtain ⟨c1,c2,c3⟩:=hc
  simp (disch:=try exact z0z) only[WA,simprocAttr,aC,aB,aA,Z9,R1,AC.l,AC.r,P3,t1,h43,T9]
  all_goals try (exfalso;omega)
  exact h1
 ·have h2:=h2 hc
  repeat' (first|(simp (disch:=try exact z0z) only[WA,simprocAttr,aC,aB,aA,Z9,R1,AC.l,AC.r,P3,t1,h43,T9])|apply j8|((first|apply n7|apply m9|apply l8|apply n8|apply n6|apply l9)<;>intro _))
  all_goals try omega
  all_goals exact h2
theorem dG2 {C:C8} (hC:C.E=EN w (n+3)) {X:AC} {P:B9} {e:D0} (he:rdE 40 e) (s:List UInt8) (ws:List (List UInt8)) (i:E5) (a:Nat) (hwl:ws.length<=1000) (hx:∀ x ∈ ws,x.length<=1000000) (ha:a<=10) (ho:i.op<10)
  (h1:3<=i.op/\i.op ≠ 8/\a<ws.length->∀ b z,(∀ b0 z0,b0<=1-> -1000<=z0->z0<=1000->ws[a]! =aW b0 z0->b=b0/\z=z0)->gC C X [] (YH s ws (a+1) []) (ER ⟨i.op,i.right,b,z,i.to,i.car,i.rack⟩) P)
  (h2:¬ (3<=i.op/\i.op ≠ 8/\a<ws.length)->gC C X [] (YH s ws a [(59,.sc (.bool false))]) (ER i) P):
  gC C (.seq (AC.l aA) X) [] (YH s ws a e) (ER i) P:=by
 rcases he with rfl|rfl
 ·have hwm:(ws.map sD).length=ws.length:=by rw[cZ0]
  by_cases hc:3<=i.op/\i.op ≠ 8/\a<ws.length
  ·obtain ⟨c1,c2,c3⟩:=id hc
   have hm:ws[a]! ∈ ws:=by rw[bA7 ws a c3];exact cN3 _
   obtain ⟨b,z,f,hn,hp⟩:=jG w n ws[a]! (hx _ hm)
   have h1:=h1 hc b z hp
   simp (disch:=try exact z0z) only[WA,simprocAttr,aC,aB,aA,Z9,R1,AC.l,AC.r,P3]
   all_goals try omega
   refine cF hC hn ?_
   simp (disch:=try exact z0z) only[WA,simprocAttr]
   exact h1
  ·have h2:=h2 hc
   repeat' (first|(simp (disch:=try exact z0z) only[WA,simprocAttr,aC,aB,aA,Z9,R1,AC.l,AC.r,P3])|apply j8|((first|apply n7|apply m9|apply l8|apply n8|apply n6|apply l9)<;>intro _))
   all_goals try omega
   all_goals exact h2
 ·have hwm:(ws.map sD).length=ws.length:=by rw[cZ0]
  by_cases hc:3<=i.op/\i.op ≠ 8/\a<ws.length
  ·obtain ⟨c1,c2,c3⟩:=id hc
   have hm:ws[a]! ∈ ws:=by rw[bA7 ws a c3];exact cN3 _
   obtain ⟨b,z,f,hn,hp⟩:=jG w n ws[a]! (hx _ hm)
   have h1:=h1 hc b z hp
   simp (disch:=try exact z0z) only[WA,simprocAttr,aC,aB,aA,Z9,R1,AC.l,AC.r,P3]
   all_goals try omega
   refine cF hC hn ?_
   simp (disch:=try exact z0z) only[WA,simprocAttr]
   exact h1
  ·have h2:=h2 hc
   repeat' (first|(simp (disch:=try exact z0z) only[WA,simprocAttr,aC,aB,aA,Z9,R1,AC.l,AC.r,P3])|apply j8|((first|apply n7|apply m9|apply l8|apply n8|apply n6|apply l9)<;>intro _))
   all_goals try omega
   all_goals exact h2
theorem dG3 {C:C8} (hC:C.E=EN w (n+3)) {X:AC} {P:B9} {e:D0} (he:rdE 59 e) (s:List UInt8) (ws:List (List UInt8)) (i:E5) (a:Nat) (hwl:ws.length<=1000) (hx:∀ x ∈ ws,x.length<=1000000) (ha:a<=10) (ho:i.op<10)
  (h1:(i.op=6\/i.op=7)/\a<ws.length->∀ z,(∀ b0 z0,b0<=1-> -1000<=z0->z0<=1000->ws[a]! =aW b0 z0->z=z0)->gC C X [] (YH s ws (a+1) []) (ER ⟨i.op,i.right,i.bed,i.pos,z,i.car,i.rack⟩) P)
  (h2:¬ ((i.op=6\/i.op=7)/\a<ws.length)->gC C X [] (YH s ws a [(86,.sc (.bool false))]) (ER i) P):
  gC C (.seq (AC.l aB) X) [] (YH s ws a e) (ER i) P:=by
 rcases he with rfl|rfl
 ·have hwm:(ws.map sD).length=ws.length:=by rw[cZ0]
  by_cases hc:(i.op=6\/i.op=7)/\a<ws.length
  ·obtain ⟨c1,c3⟩:=id hc
   have hm:ws[a]! ∈ ws:=by rw[bA7 ws a c3];exact cN3 _
   obtain ⟨b,z,f,hn,hp⟩:=jG w n ws[a]! (hx _ hm)
   have h1:=h1 hc z (fun b0 z0 e1 e2 e3 e4=>(hp b0 z0 e1 e2 e3 e4).2)
   repeat' (first|(simp (disch:=try exact z0z) only[WA,simprocAttr,aC,aB,aA,Z9,R1,AC.l,AC.r,P3])|apply j8|((first|apply n7|apply m9|apply l8|apply n8|apply n6|apply l9)<;>intro _))
   all_goals try omega
   all_goals refine cF hC hn ?_
   all_goals
    repeat' (first|(simp (disch:=try exact z0z) only[WA,simprocAttr])|apply j8|((first|apply n7|apply m9|apply l8|apply n8|apply n6|apply l9)<;>intro _))
    exact h1
  ·have h2:=h2 hc
   repeat' (first|(simp (disch:=try exact z0z) only[WA,simprocAttr,aC,aB,aA,Z9,R1,AC.l,AC.r,P3])|apply j8|((first|apply n7|apply m9|apply l8|apply n8|apply n6|apply l9)<;>intro _))
   all_goals try omega
   all_goals exact h2
 ·have hwm:(ws.map sD).length=ws.length:=by rw[cZ0]
  by_cases hc:(i.op=6\/i.op=7)/\a<ws.length
  ·obtain ⟨c1,c3⟩:=id hc
   have hm:ws[a]! ∈ ws:=by rw[bA7 ws a c3];exact cN3 _
   obtain ⟨b,z,f,hn,hp⟩:=jG w n ws[a]! (hx _ hm)
   have h1:=h1 hc z (fun b0 z0 e1 e2 e3 e4=>(hp b0 z0 e1 e2 e3 e4).2)
   repeat' (first|(simp (disch:=try exact z0z) only[WA,simprocAttr,aC,aB,aA,Z9,R1,AC.l,AC.r,P3])|apply j8|((first|apply n7|apply m9|apply l8|apply n8|apply n6|apply l9)<;>intro _))
   all_goals try omega
   all_goals refine cF hC hn ?_
   all_goals
    repeat' (first|(simp (disch:=try exact z0z) only[WA,simprocAttr])|apply j8|((first|apply n7|apply m9|apply l8|apply n8|apply n6|apply l9)<;>intro _))
    exact h1
  ·have h2:=h2 hc
   repeat' (first|(simp (disch:=try exact z0z) only[WA,simprocAttr,aC,aB,aA,Z9,R1,AC.l,AC.r,P3])|apply j8|((first|apply n7|apply m9|apply l8|apply n8|apply n6|apply l9)<;>intro _))
   all_goals try omega
   all_goals exact h2
theorem dG4 {C:C8} (hC:C.E=EN w (n+3)) {X:AC} {P:B9} {e:D0} (he:rdE 86 e) (s:List UInt8) (ws:List (List UInt8)) (i:E5) (a:Nat) (hwl:ws.length<=1000) (hx:∀ x ∈ ws,x.length<=1000000) (ha:a<=10) (ho:i.op<10)
  (h1:i.op ≠ 7/\i.op ≠ 9/\a<ws.length->∀ z,(∀ z0,-1000<=z0->z0<=1000->ws[a]! =Lib.itoa z0->z=z0)->gC C X [] [(0,r7 s),(2,.ptr 0 0),(5,.ptr 1 0)] (ER (if i.op=8 then ⟨i.op,i.right,i.bed,i.pos,i.to,i.car,z⟩ else ⟨i.op,i.right,i.bed,i.pos,i.to,z,i.rack⟩)) P)
  (h2:¬ (i.op ≠ 7/\i.op ≠ 9/\a<ws.length)->gC C X [] (YH s ws a [(112,.sc (.bool false))]) (ER i) P):
  gC C (.seq (AC.l aC) X) [] (YH s ws a e) (ER i) P:=by
 rcases he with rfl|rfl
 ·have hwm:(ws.map sD).length=ws.length:=by rw[cZ0]
  by_cases hc:i.op ≠ 7/\i.op ≠ 9/\a<ws.length
  ·obtain ⟨c1,c2,c3⟩:=id hc
   have hm:ws[a]! ∈ ws:=by rw[bA7 ws a c3];exact cN3 _
   obtain ⟨z,f,hn,hp⟩:=OC w (n+1) ws[a]! (hx _ hm)
   have h1:=h1 hc z hp
   by_cases h8:i.op=8
   ·rw[aO9 h8] at h1
    simp (disch:=try exact z0z) only[WA,simprocAttr,aC,aB,aA,Z9,R1,AC.l,AC.r,P3]
    all_goals try omega
    refine cF hC hn ?_
    simp (disch:=try exact z0z) only[WA,simprocAttr]
    all_goals try (exfalso;omega)
    exact h1
   ·rw[aQ4 h8] at h1
    simp (disch:=try exact z0z) only[WA,simprocAttr,aC,aB,aA,Z9,R1,AC.l,AC.r,P3]
    all_goals try omega
    refine cF hC hn ?_
    simp (disch:=try exact z0z) only[WA,simprocAttr]
    all_goals try (exfalso;omega)
    exact h1
  ·have h2:=h2 hc
   repeat' (first|(simp (disch:=try exact z0z) only[WA,simprocAttr,aC,aB,aA,Z9,R1,AC.l,AC.r,P3])|apply j8|((first|apply n7|apply m9|apply l8|apply n8|apply n6|apply l9)<;>intro _))
   all_goals try omega
   all_goals exact h2
 ·have hwm:(ws.map sD).length=ws.length:=by rw[cZ0]
  by_cases hc:i.op ≠ 7/\i.op ≠ 9/\a<ws.length
  ·obtain ⟨c1,c2,c3⟩:=id hc
   have hm:ws[a]! ∈ ws:=by rw[bA7 ws a c3];exact cN3 _
   obtain ⟨z,f,hn,hp⟩:=OC w (n+1) ws[a]! (hx _ hm)
   have h1:=h1 hc z hp
   by_cases h8:i.op=8
   ·rw[aO9 h8] at h1
    simp (disch:=try exact z0z) only[WA,simprocAttr,aC,aB,aA,Z9,R1,AC.l,AC.r,P3]
    all_goals try omega
    refine cF hC hn ?_
    simp (disch:=try exact z0z) only[WA,simprocAttr]
    all_goals try (exfalso;omega)
    exact h1
   ·rw[aQ4 h8] at h1
    simp (disch:=try exact z0z) only[WA,simprocAttr,aC,aB,aA,Z9,R1,AC.l,AC.r,P3]
    all_goals try omega
    refine cF hC hn ?_
    simp (disch:=try exact z0z) only[WA,simprocAttr]
    all_goals try (exfalso;omega)
    exact h1
  ·have h2:=h2 hc
   repeat' (first|(simp (disch:=try exact z0z) only[WA,simprocAttr,aC,aB,aA,Z9,R1,AC.l,AC.r,P3])|apply j8|((first|apply n7|apply m9|apply l8|apply n8|apply n6|apply l9)<;>intro _))
   all_goals try omega
   all_goals exact h2
end
end Go.Proofs.YtgohenjcanfolaaGreatDoor
