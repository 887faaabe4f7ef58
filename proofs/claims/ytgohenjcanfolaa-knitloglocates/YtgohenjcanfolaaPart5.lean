/- What is proved: the law KnitlogLocates returns true for every input.
   Texts: C44VA, H44V, P41a, P41b, P41c, P41d, P41e, N44a, N44b, N44c, N44d, K33a, K33b, N44e, N44f, N44g, N44h, N44i, N44j, N44k, N44l, N44m, N44n, N44o, N44p, N44q, N44r.
-/
import Derived.Test.YtgohenjcanfolaaPart4
import Derived.Test.YtgohenjcanfolaaProg
import Derived.KernelRfl
import Derived.Lib.Join
namespace Go.Proofs.Ytgohenjcanfolaa
open Go Go.Itp
set_option maxRecDepth 100000
def c3:p5:=⟨zS [f7 4 (.mov zf)] [0,1] (.seq (zS [d8 15 0,V8 16 4 15,d8 17 16,B8 18 17 (.mov (zT 1)),B8 19 17 (.callF 4 [.tmp 18]),f7 20 (.pick (zT 17) zt (zT 19))] [0,1,20] (zC 20 (zS [f7 4 (.mov zt)] [4] .ret) .skip)) (zS [d8 22 0,d8 23 1,f7 24 (.callF 5 [(zT 22),(zT 23)]),d8 21 24,Y0 25 21 0,Y0 26 21 1,Y0 27 21 2,d8 5 25,d8 6 26,d8 7 27] [0,1,5,6,7] (zS [d8 29 0,d8 30 1,f7 31 (.callF 6 [(zT 29),(zT 30)]),d8 28 31,Y0 32 28 0,Y0 33 28 1,Y0 34 28 2,d8 8 32,d8 9 33,d8 10 34] [0,5,6,7,8,9,10] (zS [d8 36 0,V8 37 7 36,d8 35 37,Y0 38 35 0,Y0 39 35 1,f7 11 (.alloc 31 [(1,(.int .i64 0)),(1,(.slice none 0 0))]),⟨none,none,.store 2 (zT 11) (zT 38)⟩,d8 12 39] [0,5,6,7,8,9,10,11,12] (zS [d8 41 0,V8 42 8 41,d8 40 42,Y0 43 40 0,Y0 44 40 1,f7 13 (.alloc 31 [(1,(.int .i64 0)),(1,(.slice none 0 0))]),⟨none,none,.store 2 (zT 13) (zT 43)⟩,d8 14 44] [5,6,7,8,9,10,11,12,13,14] (zS [d8 45 5,d8 46 8,o8 47 45 .eql (zT 46),d8 48 47,r8 49 48 (.mov (zT 6)),r8 50 48 (.mov (zT 9)),r8 51 48 (.bin .eql (zT 49) (zT 50)),f7 52 (.pick (zT 48) (zT 51) zf),d8 53 52,r8 54 53 (.mov (zT 7)),r8 55 53 (.mov (zT 10)),r8 56 53 (.bin .eql (zT 54) (zT 55)),f7 57 (.pick (zT 53) (zT 56) zf),d8 58 57,r8 59 58 (.load (some 2) (zT 11)),r8 60 58 (.load (some 2) (zT 13)),r8 61 58 (.callF 9 [(zT 59),(zT 60)]),f7 62 (.pick (zT 58) (zT 61) zf),d8 63 62,r8 64 63 (.mov (zT 12)),r8 65 63 (.mov (zT 14)),r8 66 63 (.bin .eql (zT 64) (zT 65)),f7 67 (.pick (zT 63) (zT 66) zf),d8 4 67] [4] .ret)))))),68,[(4,none)],true⟩
def c4:p5:=⟨zS [f7 2 (.mov zf)] [0] (zS [d8 3 0,f7 4 (.len false (zT 3)),o8 5 4 .gtr (p9 300),d8 6 5,r8 7 6 (.mov (zT 0)),r8 8 6 (.len false (zT 7)),r8 9 6 (.bin .leq (zT 8) (p9 2000)),f7 10 (.pick (zT 6) (zT 9) zf),d8 11 10,B8 12 11 (.mov (zT 0)),B8 13 11 (.len false (zT 12)),B8 14 11 (.bin .gtr (zT 13) (p9 2100)),f7 15 (.pick (zT 11) zt (zT 14)),d8 2 15] [2] .ret),16,[(2,none)],true⟩
def rY:AC:= zS [o8 35 34 .lss (p9 5)] [7,33,34,35] (.seq (zC 35 .skip (.exit 0)) (.seq (.block 1 (zS [d8 36 34,f7 37 (.idxV 5 1 none (zT 33) (zT 34)),d8 9 36,d8 10 37] [7,9,10,33,34] (zS [d8 39 10,f7 40 (.callV (zT 39) []),d8 38 40,Y0 41 38 0,Y0 42 38 1,d8 11 41,d8 12 42] [7,9,11,12,33,34] (zS [d8 43 12] [7,9,11,33,34,43] (zC 43 (zS [d8 44 9,f7 45 (.convI .u8 (zT 44)),d8 46 11,d8 4 45,d8 5 46,A2 6 0] [4,5,6] .ret) .skip))))) (.ops [o8 47 34 .add (p9 1),d8 34 47] [7,33,34])))
def c5:p5:=⟨zS [f7 2 (.box 22 (zT 0)),f7 3 (.box 22 (zT 1)),f7 4 (.mov (G4 0)),A2 5 0,A2 6 0] [2,3] (.seq (zS [A0 13 2,f7 14 (.len false (zT 13)),A0 15 3,f7 16 (.len false (zT 15)),f7 17 (.mm true (zT 14) (zT 16)),o8 18 17 .gtr (p9 2000)] [2,3,18] (zC 18 (zS [f7 4 (.mov (G4 0)),A2 5 0,A2 6 4] [4,5,6] .ret) .skip)) (.seq (zS [A0 19 2,A0 20 3,f7 21 (.mkRow 22 1 2 [(.slice none 0 0)] [(0,1,(zT 19)),(1,1,(zT 20))]),V8 22 11 21,f7 23 (.callF 10 [(zT 22),(.func 12)])] [2,3,23] (zC 23 (zS [f7 4 (.mov (G4 0)),A2 5 0,A2 6 8] [4,5,6] .ret) .skip)) (zS [A0 24 2,A0 25 3,f7 26 (.callF 14 [(zT 24),(zT 25)]),f7 7 (.alloc 3 [(1,(.int .i64 0))]),⟨none,none,.store 1 (zT 7) (zT 26)⟩] [2,3,7] (zS [f7 27 (.mkFn 15 [] [(zT 2),(zT 3)]),f7 28 (.mkFn 17 [] [(zT 7),(zT 3)]),f7 29 (.mkFn 18 [] [(zT 2),(zT 3)]),f7 30 (.mkFn 20 [] [(zT 3),(zT 2)]),f7 31 (.mkFn 21 [] [(zT 7),(zT 2),(zT 3)]),f7 32 (.build [.nilFunc,.nilFunc,.nilFunc,.nilFunc,.nilFunc] [(0,1,(zT 27)),(1,1,(zT 28)),(2,1,(zT 29)),(3,1,(zT 30)),(4,1,(zT 31))]),f7 8 (.alloc 48 [(5,.nilFunc)]),⟨none,none,.store 5 (zT 8) (zT 32)⟩] [7,8] (.seq (zS [f7 33 (.load (some 5) (zT 8)),A2 34 0] [7,33,34] (.block 0 (.loop [7,33,34] rY))) (.seq (.draw [A0 48 7,f7 4 (.mov (G4 5))] [d8 5 48,A2 6 0] [[],[]] [4,5,6]) .ret)))))),49,[(4,none),(5,none),(6,none)],true⟩
def c6:p5:=⟨zS [f7 4 (.mov (G4 0)),A2 5 0,A2 6 0] [0,1] (.seq (zS [d8 8 0,V8 9 22 8,o8 10 9 .neq (p9 0),d8 11 10,B8 12 11 (.mov (zT 1)),B8 13 11 (.callF 22 [.tmp 12]),B8 14 11 (.bin .neq (zT 13) (p9 0)),f7 15 (.pick (zT 11) zt (zT 14))] [0,1,15] (zC 15 (zS [f7 4 (.mov (G4 0)),A2 5 0,A2 6 4] [4,5,6] .ret) .skip)) (.seq (zS [d8 16 0,V8 17 23 16,d8 18 17,B8 19 18 (.mov (zT 1)),B8 20 18 (.callF 23 [.tmp 19]),f7 21 (.pick (zT 18) zt (zT 20))] [0,1,21] (zC 21 (zS [f7 4 (.mov (G4 0)),A2 5 0,A2 6 8] [4,5,6] .ret) .skip)) (zS [d8 22 0,d8 23 1,f7 24 (.callF 24 [(zT 22),(zT 23)]),d8 7 24] [0,1,7] (.seq (zS [d8 25 7,d8 26 1,f7 27 (.len false (zT 26)),o8 28 25 .eql (zT 27),d8 29 28,r8 30 29 (.mov (zT 1)),r8 31 29 (.len false (zT 30)),r8 32 29 (.mov (zT 0)),r8 33 29 (.len false (zT 32)),r8 34 29 (.bin .lss (zT 31) (zT 33)),f7 35 (.pick (zT 29) (zT 34) zf)] [0,1,7,35] (zC 35 (zS [d8 36 1,f7 37 (.len false (zT 36)),f7 4 (.mov (G4 1)),d8 5 37,A2 6 0] [4,5,6] .ret) .skip)) (.seq (zS [d8 38 7,d8 39 1,f7 40 (.len false (zT 39)),o8 41 38 .eql (zT 40),d8 42 41,r8 43 42 (.mov (zT 7)),r8 44 42 (.mov (zT 0)),r8 45 42 (.len false (zT 44)),r8 46 42 (.bin .eql (zT 43) (zT 45)),f7 47 (.pick (zT 42) (zT 46) zf)] [0,1,7,47] (zC 47 (zS [f7 4 (.mov (G4 0)),A2 5 0,A2 6 0] [4,5,6] .ret) .skip)) (.seq (zS [d8 48 0,d8 49 1,f7 50 (.callF 25 [(zT 48),(zT 49)]),o8 51 50 .geq (p9 0)] [0,1,7,51] (zC 51 (zS [d8 52 0,d8 53 1,f7 54 (.callF 25 [(zT 52),(zT 53)]),f7 4 (.mov (G4 2)),d8 5 54,A2 6 0] [4,5,6] .ret) .skip)) (.seq (zS [d8 55 1,d8 56 0,f7 57 (.callF 25 [(zT 55),(zT 56)]),o8 58 57 .geq (p9 0)] [0,1,7,58] (zC 58 (zS [d8 59 1,
  d8 60 0,f7 61 (.callF 25 [(zT 59),(zT 60)]),f7 4 (.mov (G4 3)),d8 5 61,A2 6 0] [4,5,6] .ret) .skip)) (.seq (.seq (.draw [d8 62 0,f7 63 (.len false (zT 62)),d8 64 1,f7 65 (.len false (zT 64)),o8 66 63 .eql (zT 65),d8 67 66,r8 68 67 (.mov (zT 0)),r8 69 67 (.mov (zT 7)),r8 70 67 (.bin .add (zT 69) (p9 1)),r8 71 67 (.slc 7 (zT 68) (some (zT 70)) none none),r8 72 67 (.mov (zT 1)),r8 73 67 (.mov (zT 7)),r8 74 67 (.bin .add (zT 73) (p9 1)),r8 75 67 (.slc 7 (zT 72) (some (zT 74)) none none)] [r8 76 67 (.callF 26 [(zT 71),(zT 75)]),f7 77 (.pick (zT 67) (zT 76) zf)] [[],[],[],[],[],[],[],[],[],[],[],[],[],[]] [7,77]) (zC 77 (zS [d8 78 7,f7 4 (.mov (G4 4)),d8 5 78,A2 6 0] [4,5,6] .ret) .skip)) (zS [d8 79 7,f7 4 (.mov (G4 5)),d8 5 79,A2 6 0] [4,5,6] .ret))))))))),80,[(4,none),(5,none),(6,none)],true⟩
def HT:AC:= zS [o8 80 79 .lss (zT 78)] [0,2,4,5,6,77,78,79,80] (.seq (zC 80 .skip (.exit 6)) (.seq (.block 7 (zS [f7 81 (.idxS 7 (zT 77) (zT 79)),f7 82 (.load (some 7) (zT 81)),f7 8 (.alloc 40 [(1,(.int .u8 0)),(1,(.bool false)),(1,(.int .u8 0)),(4,(.int .i64 0))]),⟨none,none,.store 7 (zT 8) (zT 82)⟩] [0,2,4,5,6,8,77,78,79] (.seq (zS [y9 83 3 8,A0 84 83,o8 85 84 .lss (p9 0),d8 86 85,B8 87 86 (.fldA 3 (zT 8)),B8 88 86 (.load none (zT 87)),B8 89 86 (.fldA 0 (zT 4)),B8 90 86 (.load none (zT 89)),B8 91 86 (.bin .geq (zT 88) (zT 90)),f7 92 (.pick (zT 86) zt (zT 91))] [0,2,4,5,6,8,77,78,79,92] (zC 92 (zS [f7 93 (.build [(.int .i64 0),(.slice none 0 0)] []),⟨none,none,.store 2 (zT 2) (zT 93)⟩,A2 3 12] [2,3] .ret) .skip)) (zS [f7 94 (.build [(.int .u8 0),(.bool false),(.int .i64 0),(.int .i64 0)] [(0,1,(G4 8))]),f7 9 (.alloc 53 [(1,(.int .u8 0)),(1,(.bool false)),(2,(.int .i64 0))]),⟨none,none,.store 4 (zT 9) (zT 94)⟩] [0,2,4,5,6,8,9,77,78,79] (.seq (zS [y9 95 0 8,A0 96 95,o8 97 96 .neq (G4 5)] [0,2,4,5,6,8,9,77,78,79,97] (zC 97 (.ops [y9 98 2 8,A0 99 98,o8 100 99 .eql (G4 1),f7 101 (.build [(.int .u8 0),(.bool false),(.int .i64 0),(.int .i64 0)] [(0,1,(G4 1)),(1,1,(zT 100))]),⟨none,none,.store 4 (zT 9) (zT 101)⟩] [0,2,4,5,6,8,9,77,78,79]) .skip)) (.ops [d8 102 6,y9 103 3 8,A0 104 103,f7 105 (.load (some 4) (zT 9)),f7 106 (.idxS 4 (zT 102) (zT 104)),⟨none,none,.store 4 (zT 106) (zT 105)⟩] [0,2,4,5,6,77,78,79])))))) (.ops [o8 107 79 .add (p9 1),d8 79 107] [0,2,4,5,6,77,78,79])))
def ZH:AC:= .seq (zS [d8 56 5,f7 57 (.len false (zT 56)),o8 58 57 .gtr (p9 0),d8 59 58,r8 60 59 (.mov (zT 5)),r8 61 59 (.idxS 7 (zT 60) (p9 0)),r8 62 59 (.fldA 0 (zT 61)),r8 63 59 (.load none (zT 62)),r8 64 59 (.bin .eql (zT 63) (G4 7)),f7 65 (.pick (zT 59) (zT 64) zf)] [0,2,4,5,6,65] (zC 65 .skip (.exit 4))) (.block 5 (.ops [d8 66 5,f7 67 (.slc 7 (zT 66) (some (p9 1)) none none),d8 5 67] [0,2,4,5,6]))
def VQ:AC:= .seq (zS [d8 43 5,f7 44 (.len false (zT 43)),o8 45 44 .gtr (p9 0),d8 46 45,r8 47 46 (.fldA 0 (zT 4)),r8 48 46 (.load none (zT 47)),r8 49 46 (.bin .gtr (zT 48) (p9 0)),f7 50 (.pick (zT 46) (zT 49) zf)] [0,2,4,5,50] (zC 50 .skip (.exit 2))) (.block 3 (zS [y9 51 0 4,A0 52 51,f7 53 (.mkSlice 53 4 24 [(.int .u8 0),(.bool false),(.int .i64 0),(.int .i64 0)] (zT 52) (zT 52)),d8 6 53] [0,2,4,5,6] (zS [d8 54 5,V8 55 27 54,d8 5 55] [0,2,4,5,6] (.seq (.block 4 (.loop [0,2,4,5,6] ZH)) (.seq (zS [d8 68 5,f7 69 (.len false (zT 68)),y9 70 0 4,A0 71 70,o8 72 69 .lss (zT 71)] [0,2,4,5,6,72] (zC 72 (zS [f7 73 (.build [(.int .i64 0),(.slice none 0 0)] []),⟨none,none,.store 2 (zT 2) (zT 73)⟩,A2 3 12] [2,3] .ret) .skip)) (.seq (zS [d8 74 5,y9 75 0 4,A0 76 75,f7 77 (.slc 7 (zT 74) none (some (zT 76)) none),f7 78 (.len false (zT 77)),A2 79 0] [0,2,4,5,6,77,78,79] (.block 6 (.loop [0,2,4,5,6,77,78,79] HT))) (zS [d8 108 5,y9 109 0 4,A0 110 109,f7 111 (.slc 7 (zT 108) (some (zT 110)) none none),d8 5 111] [0,2,4,5,6] (.ops [y9 112 1 4,A0 113 112,d8 114 6,f7 115 (.build [(.bool false),(.slice none 0 0)] [(1,1,(zT 114))]),f7 116 (.mkRow 55 2 1 [(.bool false),(.slice none 0 0)] [(0,2,(zT 115))]),f7 117 (.app 55 2 32 (zT 113) (zT 116)),y9 118 1 4,⟨none,none,.store 1 (zT 118) (zT 117)⟩] [0,2,4,5]))))))))
def VT:AC:= .seq (zS [d8 21 5,f7 22 (.len false (zT 21)),o8 23 22 .gtr (p9 0),d8 24 23,r8 25 24 (.mov (zT 5)),r8 26 24 (.idxS 7 (zT 25) (p9 0)),r8 27 24 (.fldA 0 (zT 26)),r8 28 24 (.load none (zT 27)),r8 29 24 (.bin .eql (zT 28) (G4 3)),f7 30 (.pick (zT 24) (zT 29) zf),d8 31 30,r8 32 31 (.mov (zT 5)),r8 33 31 (.idxS 7 (zT 32) (p9 0)),r8 34 31 (.fldA 1 (zT 33)),r8 35 31 (.load none (zT 34)),f7 36 (.pick (zT 31) (zT 35) zf)] [0,2,4,5,36] (zC 36 .skip (.exit 0))) (.block 1 (zS [y9 37 0 4,A0 38 37,o8 39 38 .add (p9 1),y9 40 0 4,⟨none,none,.store 1 (zT 40) (zT 39)⟩] [0,2,4,5] (.ops [d8 41 5,f7 42 (.slc 7 (zT 41) (some (p9 1)) none none),d8 5 42] [0,2,4,5])))
def c7:p5:=⟨zS [f7 2 (.alloc 31 [(1,(.int .i64 0)),(1,(.slice none 0 0))]),A2 3 0] [0,2] (.seq (zS [d8 12 0,f7 13 (.len false (zT 12)),o8 14 13 .gtr (p9 2000)] [0,2,14] (zC 14 (zS [f7 15 (.build [(.int .i64 0),(.slice none 0 0)] []),⟨none,none,.store 2 (zT 2) (zT 15)⟩,A2 3 4] [2,3] .ret) .skip)) (zS [f7 4 (.alloc 31 [(1,(.int .i64 0)),(1,(.slice none 0 0))])] [0,2,4] (zS [d8 16 0,d8 17 0,f7 18 (.len false (zT 17)),f7 19 (.mm false (p9 1) (zT 18)),f7 20 (.slc 7 (zT 16) (some (zT 19)) none none),d8 5 20] [0,2,4,5] (.seq (.block 0 (.loop [0,2,4,5] VT)) (.seq (.block 2 (.loop [0,2,4,5] VQ)) (.seq (zS [f7 120 (.load (some 2) (zT 4)),V8 121 28 120,d8 119 121,Y0 122 119 0,Y0 123 119 1,d8 10 122,d8 11 123] [0,2,4,10,11] (zS [d8 124 11,o8 125 124 .neq (p9 0),d8 126 125,B8 127 126 (.mov (zT 10)),B8 128 126 (.mov (zT 0)),B8 129 126 (.callF 16 [(zT 127),(zT 128)]),B8 130 126 (.un .not (zT 129)),f7 131 (.pick (zT 126) zt (zT 130))] [2,4,131] (zC 131 (zS [f7 132 (.build [(.int .i64 0),(.slice none 0 0)] []),⟨none,none,.store 2 (zT 2) (zT 132)⟩,A2 3 12] [2,3] .ret) .skip))) (zS [f7 133 (.load (some 2) (zT 4)),⟨none,none,.store 2 (zT 2) (zT 133)⟩,A2 3 0] [2,3] .ret))))))),134,[(2,(some (some 2))),(3,none)],true⟩
def yG:AC:= .seq (zS [d8 68 8,d8 69 4,o8 70 68 .lss (zT 69)] [0,2,4,5,6,7,8,70] (zC 70 .skip (.exit 6))) (.seq (.block 7 (.seq (zS [d8 73 6,d8 74 0,f7 75 (.len false (zT 74)),o8 76 73 .eql (zT 75),d8 77 76,B8 78 77 (.mov (zT 0)),B8 79 77 (.mov (zT 6)),B8 80 77 (.idxS 7 (zT 78) (zT 79)),B8 81 77 (.fldA 3 (zT 80)),B8 82 77 (.load none (zT 81)),B8 83 77 (.bin .lss (zT 82) (p9 0)),f7 84 (.pick (zT 77) zt (zT 83)),d8 85 84,B8 86 85 (.mov (zT 0)),B8 87 85 (.mov (zT 6)),B8 88 85 (.idxS 7 (zT 86) (zT 87)),B8 89 85 (.fldA 3 (zT 88)),B8 90 85 (.load none (zT 89)),B8 91 85 (.mov (zT 4)),B8 92 85 (.bin .geq (zT 90) (zT 91)),f7 93 (.pick (zT 85) zt (zT 92))] [0,2,4,5,6,7,8,93] (zC 93 (zS [f7 94 (.build [(.int .i64 0),(.slice none 0 0)] []),⟨none,none,.store 2 (zT 2) (zT 94)⟩,A2 3 12] [2,3] .ret) .skip)) (zS [d8 95 0,d8 96 6,f7 97 (.idxS 7 (zT 95) (zT 96)),y9 98 2 97,A0 99 98,o8 100 99 .eql (G4 1),f7 101 (.build [(.int .u8 0),(.bool false),(.int .i64 0),(.int .i64 0)] [(0,1,(G4 1)),(1,1,(zT 100))]),f7 9 (.alloc 53 [(1,(.int .u8 0)),(1,(.bool false)),(2,(.int .i64 0))]),⟨none,none,.store 4 (zT 9) (zT 101)⟩] [0,2,4,5,6,7,8,9] (.seq (zS [d8 102 0,d8 103 6,f7 104 (.idxS 7 (zT 102) (zT 103)),y9 105 0 104,A0 106 105,o8 107 106 .eql (G4 5)] [0,2,4,5,6,7,8,9,107] (zC 107 (.ops [f7 108 (.build [(.int .u8 0),(.bool false),(.int .i64 0),(.int .i64 0)] [(0,1,(G4 8))]),⟨none,none,.store 4 (zT 9) (zT 108)⟩] [0,2,4,5,6,7,8,9]) .skip)) (.seq (.draw [d8 109 7,d8 110 0,d8 111 6,f7 112 (.idxS 7 (zT 110) (zT 111)),y9 113 3 112,A0 114 113,f7 115 (.load (some 4) (zT 9))] [f7 116 (.idxS 4 (zT 109) (zT 114)),⟨none,none,.store 4 (zT 116) (zT 115)⟩] [[],[],[],[],[],[],[]] [0,2,4,5,6,7,8]) (.ops [d8 117 6,o8 118 117 .add (p9 1),d8 6 118] [0,2,4,5,6,7,8])))))) (.ops [d8 71 8,o8 72 71 .add (p9 1),d8 8 72] [0,2,4,5,6,7,8]))
def ZI:AC:= .seq (zS [d8 52 6,d8 53 0,f7 54 (.len false (zT 53)),o8 55 52 .lss (zT 54),d8 56 55,r8 57 56 (.mov (zT 0)),r8 58 56 (.mov (zT 6)),r8 59 56 (.idxS 7 (zT 57) (zT 58)),r8 60 56 (.fldA 0 (zT 59)),r8 61 56 (.load none (zT 60)),r8 62 56 (.bin .eql (zT 61) (G4 7)),f7 63 (.pick (zT 56) (zT 62) zf)] [0,2,4,5,6,63] (zC 63 .skip (.exit 4))) (.block 5 (.ops [d8 64 6,o8 65 64 .add (p9 1),d8 6 65] [0,2,4,5,6]))
def VU:AC:= .seq (zS [d8 44 6,d8 45 0,f7 46 (.len false (zT 45)),o8 47 44 .lss (zT 46),d8 48 47,r8 49 48 (.mov (zT 4)),r8 50 48 (.bin .gtr (zT 49) (p9 0)),f7 51 (.pick (zT 48) (zT 50) zf)] [0,2,4,5,6,51] (zC 51 .skip (.exit 2))) (.block 3 (.seq (.block 4 (.loop [0,2,4,5,6] ZI)) (zS [d8 66 4,f7 67 (.mkSlice 53 4 24 [(.int .u8 0),(.bool false),(.int .i64 0),(.int .i64 0)] (zT 66) (zT 66)),d8 7 67] [0,2,4,5,6,7] (.seq (zS [A2 8 0] [0,2,4,5,6,7,8] (.block 6 (.loop [0,2,4,5,6,7,8] yG))) (.ops [y9 119 1 5,A0 120 119,d8 121 7,f7 122 (.build [(.bool false),(.slice none 0 0)] [(1,1,(zT 121))]),f7 123 (.mkRow 55 2 1 [(.bool false),(.slice none 0 0)] [(0,2,(zT 122))]),f7 124 (.app 55 2 32 (zT 120) (zT 123)),y9 125 1 5,⟨none,none,.store 1 (zT 125) (zT 124)⟩] [0,2,4,5,6])))))
def VV:AC:= .seq (zS [d8 16 4,f7 17 (.bin .add (p9 1) (zT 16)),d8 18 0,f7 19 (.len false (zT 18)),o8 20 17 .lss (zT 19),d8 21 20,r8 22 21 (.mov (zT 0)),r8 23 21 (.mov (zT 4)),r8 24 21 (.bin .add (p9 1) (zT 23)),r8 25 21 (.idxS 7 (zT 22) (zT 24)),r8 26 21 (.fldA 0 (zT 25)),r8 27 21 (.load none (zT 26)),r8 28 21 (.bin .eql (zT 27) (G4 3)),f7 29 (.pick (zT 21) (zT 28) zf),d8 30 29,r8 31 30 (.mov (zT 0)),r8 32 30 (.mov (zT 4)),r8 33 30 (.bin .add (p9 1) (zT 32)),r8 34 30 (.idxS 7 (zT 31) (zT 33)),r8 35 30 (.fldA 1 (zT 34)),r8 36 30 (.load none (zT 35)),f7 37 (.pick (zT 30) (zT 36) zf)] [0,2,4,37] (zC 37 .skip (.exit 0))) (.block 1 (.ops [d8 38 4,o8 39 38 .add (p9 1),d8 4 39] [0,2,4]))
def c8:p5:=⟨zS [f7 2 (.alloc 31 [(1,(.int .i64 0)),(1,(.slice none 0 0))]),A2 3 0] [0,2] (.seq (zS [d8 12 0,V8 13 22 12,o8 14 13 .neq (p9 0)] [0,2,14] (zC 14 (zS [f7 15 (.build [(.int .i64 0),(.slice none 0 0)] []),⟨none,none,.store 2 (zT 2) (zT 15)⟩,A2 3 4] [2,3] .ret) .skip)) (zS [A2 4 0] [0,2,4] (.seq (.block 0 (.loop [0,2,4] VV)) (zS [d8 40 4,f7 41 (.build [(.int .i64 0),(.slice none 0 0)] [(0,1,(zT 40))]),f7 5 (.alloc 31 [(1,(.int .i64 0)),(1,(.slice none 0 0))]),⟨none,none,.store 2 (zT 5) (zT 41)⟩] [0,2,4,5] (.seq (zS [d8 42 4,f7 43 (.bin .add (p9 1) (zT 42)),d8 6 43] [0,2,4,5,6] (.block 2 (.loop [0,2,4,5,6] VU))) (zS [f7 127 (.load (some 2) (zT 5)),V8 128 29 127,d8 126 128,Y0 129 126 0,Y0 130 126 1,d8 10 129,d8 11 130] [0,2,5,10,11] (.seq (zS [d8 131 11,o8 132 131 .neq (p9 0),d8 133 132,B8 134 133 (.mov (zT 10)),B8 135 133 (.mov (zT 0)),B8 136 133 (.callF 26 [(zT 134),(zT 135)]),B8 137 133 (.un .not (zT 136)),f7 138 (.pick (zT 133) zt (zT 137))] [2,5,138] (zC 138 (zS [f7 139 (.build [(.int .i64 0),(.slice none 0 0)] []),⟨none,none,.store 2 (zT 2) (zT 139)⟩,A2 3 12] [2,3] .ret) .skip)) (zS [f7 140 (.load (some 2) (zT 5)),⟨none,none,.store 2 (zT 2) (zT 140)⟩,A2 3 0] [2,3] .ret)))))))),141,[(2,(some (some 2))),(3,none)],true⟩
def aQ4:AC:= .seq (zS [d8 20 5,y9 21 1 2,A0 22 21,f7 23 (.len false (zT 22)),o8 24 20 .lss (zT 23)] [2,3,5,24] (zC 24 .skip (.exit 0))) (.seq (.block 1 (.seq (.draw [y9 27 1 2,A0 28 27,d8 29 5,f7 30 (.idxS 2 (zT 28) (zT 29)),y9 31 0 30,A0 32 31,y9 33 1 3,A0 34 33,d8 35 5,f7 36 (.idxS 2 (zT 34) (zT 35)),y9 37 0 36,A0 38 37,f7 39 (.eqB true (zT 32) (zT 38)),d8 40 39,B8 41 40 (.fldA 1 (zT 2)),B8 42 40 (.load none (zT 41)),B8 43 40 (.mov (zT 5)),B8 44 40 (.idxS 2 (zT 42) (zT 43)),B8 45 40 (.fldA 1 (zT 44)),B8 46 40 (.load none (zT 45)),B8 47 40 (.fldA 1 (zT 3)),B8 48 40 (.load none (zT 47)),B8 49 40 (.mov (zT 5)),B8 50 40 (.idxS 2 (zT 48) (zT 49)),B8 51 40 (.fldA 1 (zT 50)),B8 52 40 (.load none (zT 51))] [B8 53 40 (.callF 30 [(zT 46),(zT 52)]),B8 54 40 (.un .not (zT 53)),f7 55 (.pick (zT 40) zt (zT 54))] [[],[],[],[],[],[],[],[],[],[],[],[],[],[],[],[],[],[],[],[],[],[],[],[],[],[]] [2,3,5,55]) (zC 55 (zS [f7 4 (.mov zf)] [4] .ret) .skip))) (.ops [d8 25 5,o8 26 25 .add (p9 1),d8 5 26] [2,3,5]))
def c9:p5:=⟨zS [f7 2 (.box 31 (zT 0)),f7 3 (.box 31 (zT 1)),f7 4 (.mov zf)] [2,3] (.seq (zS [y9 6 0 2,A0 7 6,y9 8 0 3,A0 9 8,o8 10 7 .neq (zT 9),d8 11 10,B8 12 11 (.fldA 1 (zT 2)),B8 13 11 (.load none (zT 12)),B8 14 11 (.len false (zT 13)),B8 15 11 (.fldA 1 (zT 3)),B8 16 11 (.load none (zT 15)),B8 17 11 (.len false (zT 16)),B8 18 11 (.bin .neq (zT 14) (zT 17)),f7 19 (.pick (zT 11) zt (zT 18))] [2,3,19] (zC 19 (zS [f7 4 (.mov zf)] [4] .ret) .skip)) (.seq (zS [A2 5 0] [2,3,5] (.block 0 (.loop [2,3,5] aQ4))) (zS [f7 4 (.mov zt)] [4] .ret))),56,[(4,none)],true⟩
def c10:p5:=⟨zS [f7 4 (.mov zf)] [0,1] (zS [d8 5 0,d8 6 1,f7 7 (.callF 31 [(zT 5),(zT 6)]),o8 8 7 .geq (p9 0),d8 4 8] [4] .ret),9,[(4,none)],true⟩
def zE:AC:= zS [o8 28 27 .lss (zT 26)] [6,25,26,27,28] (.seq (zC 28 .skip (.exit 2)) (.seq (.block 3 (zS [f7 29 (.idxS 1 (zT 25) (zT 27)),A0 30 29,d8 8 30] [6,8,25,26,27] (.ops [d8 31 6,d8 32 8,f7 33 (.app 40 7 40 (zT 31) (zT 32)),d8 6 33] [6,25,26,27]))) (.ops [o8 34 27 .add (p9 1),d8 27 34] [6,25,26,27])))
def QZ:AC:= zS [o8 12 11 .lss (zT 10)] [0,3,9,10,11,12] (.seq (zC 12 .skip (.exit 0)) (.seq (.block 1 (zS [f7 13 (.idxS 1 (zT 9) (zT 11)),A0 14 13,d8 5 14] [0,3,5,9,10,11] (zS [d8 15 3,d8 16 5,f7 17 (.len false (zT 16)),o8 18 15 .add (zT 17),d8 3 18] [0,3,9,10,11] (zS [d8 19 3,o8 20 19 .lss (p9 0)] [0,3,9,10,11,20] (zC 20 (.ops [f7 21 (.mkIf 9 (.const (.string ⟨#[108,101,110,32,111,117,116,32,111,102,32,114,97,110,103,101]⟩))),⟨none,none,.bad⟩] [0,3,9,10,11]) .skip))))) (.ops [o8 22 11 .add (p9 1),d8 11 22] [0,3,9,10,11])))
def c11:p5:=⟨zS [f7 2 (.mov (.const (.slice none 0 0)))] [0] (zS [A2 3 0] [0,3] (.seq (zS [d8 9 0,f7 10 (.len false (zT 9)),A2 11 0] [0,3,9,10,11] (.block 0 (.loop [0,3,9,10,11] QZ))) (zS [d8 23 3,f7 24 (.callF 32 [(.const (.slice none 0 0)),(zT 23)]),d8 6 24] [0,6] (.seq (zS [d8 25 0,f7 26 (.len false (zT 25)),A2 27 0] [6,25,26,27] (.block 2 (.loop [6,25,26,27] zE))) (zS [d8 35 6,d8 2 35] [2] .ret))))),36,[(2,none)],true⟩
def c12:p5:=⟨zS [f7 1 (.box 40 (zT 0)),f7 2 (.mov zf)] [1] (zS [f7 3 (.load (some 7) (zT 1)),V8 4 13 3,o8 5 4 .neq (p9 0),d8 2 5] [2] .ret),6,[(2,none)],true⟩
def sF:p5:=⟨zS [f7 1 (.box 40 (zT 0)),A2 2 0] [1] (zS [y9 6 5 1,A0 7 6,o8 8 7 .geq (p9 1),d8 9 8,r8 10 9 (.fldA 5 (zT 1)),r8 11 9 (.load none (zT 10)),r8 12 9 (.bin .leq (zT 11) (p9 6)),f7 13 (.pick (zT 9) (zT 12) zf),d8 3 13] [1,3] (zS [f7 14 (.load (some 7) (zT 1)),f7 4 (.alloc 40 [(1,(.int .u8 0)),(1,(.bool false)),(1,(.int .u8 0)),(4,(.int .i64 0))]),⟨none,none,.store 7 (zT 4) (zT 14)⟩] [1,3,4] (zS [y9 15 0 4,⟨none,none,.store 1 (zT 15) (G4 0)⟩] [1,3,4] (zS [f7 5 (.mov zt)] [1,3,4,5] (.seq (zS [y9 16 0 1,A0 17 16] [1,3,4,5,17] (.block 0 (.seq (zS [o8 19 17 .eql (G4 1),d8 18 19] [1,3,4,5,17,18] (zC 18 .skip (.ops [o8 20 17 .eql (G4 2),d8 18 20] [1,3,4,5,17,18]))) (zC 18 (zS [y9 21 5 4,⟨none,none,.store 1 (zT 21) (p9 0)⟩] [1,3,4] (.ops [d8 22 3,d8 5 22] [1,4,5])) (.seq (zS [o8 24 17 .eql (G4 3),d8 23 24] [1,3,4,5,17,23] (zC 23 .skip (zS [o8 25 17 .eql (G4 4),d8 23 25] [1,3,4,5,17,23] (zC 23 .skip (.ops [o8 26 17 .eql (G4 5),d8 23 26] [1,3,4,5,17,23]))))) (zC 23 (zS [y9 27 1 4,⟨none,none,.store 1 (zT 27) zf⟩,y9 28 2 4,⟨none,none,.store 1 (zT 28) (G4 0)⟩,y9 29 3 4,⟨none,none,.store 1 (zT 29) (p9 0)⟩,y9 30 5 4,⟨none,none,.store 1 (zT 30) (p9 0)⟩] [1,3,4] (.ops [d8 31 3,d8 5 31] [1,4,5])) (zS [o8 33 17 .eql (G4 6),d8 32 33] [1,3,4,5,17,32] (zC 32 (zS [y9 34 6 1,A0 35 34,f7 36 (.build [(.int .u8 0),(.bool false),(.int .u8 0),(.int .i64 0),(.int .i64 0),(.int .i64 0),(.int .i64 0)] [(6,1,(zT 35))]),⟨none,none,.store 7 (zT 4) (zT 36)⟩] [1,3,4] (.ops [d8 37 3,d8 5 37] [1,4,5])) (zS [o8 39 17 .eql (G4 7),d8 38 39] [1,4,5,17,38] (zC 38 (.ops [y9 40 2 4,⟨none,none,.store 1 (zT 40) (G4 0)⟩,y9 41 3 4,⟨none,none,.store 1 (zT 41) (p9 0)⟩,y9 42 4 4,⟨none,none,.store 1 (zT 42) (p9 0)⟩] [1,4,5]) (zS [o8 44 17 .eql (G4 8),d8 43 44] [1,4,5,17,43]
  (zC 43 (zS [y9 45 6 4,⟨none,none,.store 1 (zT 45) (p9 0)⟩] [1,4] (.ops [y9 46 6 1,A0 47 46,y9 48 6 1,A0 49 48,f7 50 (.un .neg (zT 49)),f7 51 (.mm true (zT 47) (zT 50)),o8 52 51 .leq (p9 8),d8 53 52,r8 54 53 (.fldA 6 (zT 1)),r8 55 53 (.load none (zT 54)),r8 56 53 (.bin .geq (zT 55) (p9 (-8))),f7 57 (.pick (zT 53) (zT 56) zf),d8 5 57] [1,4,5])) (zS [o8 59 17 .eql (G4 9),d8 58 59] [1,4,5,58] (zC 58 (.ops [y9 60 2 4,⟨none,none,.store 1 (zT 60) (G4 0)⟩,y9 61 3 4,⟨none,none,.store 1 (zT 61) (p9 0)⟩] [1,4,5]) (.ops [f7 5 (.mov zf)] [1,4,5]))))))))))))))) (.seq (zS [d8 62 5,f7 63 (.un .not (zT 62)),d8 64 63,B8 65 64 (.load (some 7) (zT 4)),B8 66 64 (.build [(.int .u8 0),(.bool false),(.int .u8 0),(.int .i64 0),(.int .i64 0),(.int .i64 0),(.int .i64 0)] []),B8 67 64 (.eqAgg true [(0,0),(1,2),(2,0),(3,0),(4,0),(5,0),(6,0)] (zT 65) (zT 66)),f7 68 (.pick (zT 64) zt (zT 67)),d8 69 68,B8 70 69 (.fldA 2 (zT 1)),B8 71 69 (.load none (zT 70)),B8 72 69 (.bin .gtr (zT 71) (G4 1)),f7 73 (.pick (zT 69) zt (zT 72)),d8 74 73,B8 75 74 (.fldA 3 (zT 1)),B8 76 74 (.load none (zT 75)),B8 77 74 (.callF 33 [.tmp 76]),B8 78 74 (.un .not (zT 77)),f7 79 (.pick (zT 74) zt (zT 78)),d8 80 79,B8 81 80 (.fldA 4 (zT 1)),B8 82 80 (.load none (zT 81)),B8 83 80 (.callF 33 [.tmp 82]),B8 84 80 (.un .not (zT 83)),f7 85 (.pick (zT 80) zt (zT 84))] [85] (zC 85 (zS [A2 2 8] [2] .ret) .skip)) (zS [A2 2 0] [2] .ret))))))),86,[(2,none)],true⟩
def RA:AC:= .seq (.seq (.draw [d8 6 5,d8 7 0,f7 8 (.len false (zT 7)),d8 9 1,f7 10 (.len false (zT 9)),f7 11 (.mm false (zT 8) (zT 10)),o8 12 6 .lss (zT 11),d8 13 12,r8 14 13 (.mov (zT 0)),r8 15 13 (.mov (zT 5)),r8 16 13 (.idxS 7 (zT 14) (zT 15)),r8 17 13 (.load (some 7) (zT 16)),r8 18 13 (.mov (zT 1)),r8 19 13 (.mov (zT 5)),r8 20 13 (.idxS 7 (zT 18) (zT 19)),r8 21 13 (.load (some 7) (zT 20))] [r8 22 13 (.eqAgg false [(0,0),(1,2),(2,0),(3,0),(4,0),(5,0),(6,0)] (zT 17) (zT 21)),f7 23 (.pick (zT 13) (zT 22) zf)] [[],[],[],[],[],[],[],[],[],[],[],[],[],[],[],[]] [0,1,5,23]) (zC 23 .skip (.exit 0))) (.block 1 (.ops [d8 24 5,o8 25 24 .add (p9 1),d8 5 25] [0,1,5]))
def c14:p5:=⟨zS [A2 4 0] [0,1] (zS [A2 5 0] [0,1,5] (.seq (.block 0 (.loop [0,1,5] RA)) (zS [d8 26 5,d8 4 26] [4] .ret))),27,[(4,none)],true⟩
def c15:p5:=⟨zS [A2 2 0,f7 3 (.mov zf)] [0,1] (zS [A0 4 0,A0 5 1,f7 6 (.callF 16 [(zT 4),(zT 5)]),A2 2 0,d8 3 6] [2,3] .ret),7,[(2,none),(3,none)],true⟩
def RB:AC:= zS [o8 14 13 .lss (zT 12)] [0,1,12,13,14] (.seq (zC 14 .skip (.exit 0)) (.seq (.block 1 (zS [d8 15 13,d8 5 15] [0,1,5,12,13] (.seq (.draw [d8 16 0,d8 17 5,f7 18 (.idxS 7 (zT 16) (zT 17)),f7 19 (.load (some 7) (zT 18)),d8 20 1,d8 21 5,f7 22 (.idxS 7 (zT 20) (zT 21)),f7 23 (.load (some 7) (zT 22))] [f7 24 (.eqAgg true [(0,0),(1,2),(2,0),(3,0),(4,0),(5,0),(6,0)] (zT 19) (zT 23))] [[],[],[],[],[],[],[],[]] [0,1,12,13,24]) (zC 24 (zS [f7 4 (.mov zf)] [4] .ret) .skip)))) (.ops [o8 25 13 .add (p9 1),d8 13 25] [0,1,12,13])))
def c16:p5:=⟨zS [f7 4 (.mov zf)] [0,1] (.seq (zS [d8 6 0,f7 7 (.len false (zT 6)),d8 8 1,f7 9 (.len false (zT 8)),o8 10 7 .neq (zT 9)] [0,1,10] (zC 10 (zS [f7 4 (.mov zf)] [4] .ret) .skip)) (.seq (zS [d8 11 0,f7 12 (.len false (zT 11)),A2 13 0] [0,1,12,13] (.block 0 (.loop [0,1,12,13] RB))) (zS [f7 4 (.mov zt)] [4] .ret))),26,[(4,none)],true⟩
def c17:p5:=⟨zS [A2 2 0,f7 3 (.mov zf)] [0,1] (.seq (.draw [A0 4 0,A0 5 0,A0 6 1,f7 7 (.len false (zT 6)),o8 8 5 .eql (zT 7),d8 2 4] [d8 3 8] [[],[],[],[],[],[]] [2,3]) .ret),9,[(2,none),(3,none)],true⟩
def c18:p5:=⟨zS [A2 2 0,f7 3 (.mov zf)] [0,1] (zS [A0 4 0,A0 5 1,f7 6 (.callF 19 [(zT 4),(zT 5)]),Y0 7 6 0,Y0 8 6 1,d8 2 7,d8 3 8] [2,3] .ret),9,[(2,none),(3,none)],true⟩
def RC:AC:= .seq (.seq (.draw [d8 27 6,o8 28 27 .gtr (p9 0),d8 29 28,r8 30 29 (.mov (zT 0)),r8 31 29 (.mov (zT 6)),r8 32 29 (.bin .sub (zT 31) (p9 1)),r8 33 29 (.idxS 7 (zT 30) (zT 32)),r8 34 29 (.load (some 7) (zT 33)),r8 35 29 (.mov (zT 0)),r8 36 29 (.mov (zT 6)),r8 37 29 (.idxS 7 (zT 35) (zT 36)),r8 38 29 (.load (some 7) (zT 37))] [r8 39 29 (.eqAgg false [(0,0),(1,2),(2,0),(3,0),(4,0),(5,0),(6,0)] (zT 34) (zT 38)),f7 40 (.pick (zT 29) (zT 39) zf)] [[],[],[],[],[],[],[],[],[],[],[],[]] [0,6,40]) (zC 40 .skip (.exit 0))) (.block 1 (.ops [d8 41 6,o8 42 41 .sub (p9 1),d8 6 42] [0,6]))
def c19:p5:=⟨zS [A2 4 0,f7 5 (.mov zf)] [0,1] (zS [d8 7 0,d8 8 1,f7 9 (.callF 14 [(zT 7),(zT 8)]),d8 6 9] [0,1,6] (.seq (.seq (.draw [d8 10 0,f7 11 (.len false (zT 10)),d8 12 1,f7 13 (.len false (zT 12)),o8 14 13 .add (p9 1),o8 15 11 .neq (zT 14),d8 16 15,B8 17 16 (.mov (zT 0)),B8 18 16 (.mov (zT 6)),B8 19 16 (.bin .add (zT 18) (p9 1)),B8 20 16 (.slc 7 (zT 17) (some (zT 19)) none none),B8 21 16 (.mov (zT 1)),B8 22 16 (.mov (zT 6)),B8 23 16 (.slc 7 (zT 21) (some (zT 22)) none none)] [B8 24 16 (.callF 16 [(zT 20),(zT 23)]),B8 25 16 (.un .not (zT 24)),f7 26 (.pick (zT 16) zt (zT 25))] [[],[],[],[],[],[],[],[],[],[],[],[],[],[]] [0,6,26]) (zC 26 (zS [A2 4 0,f7 5 (.mov zf)] [4,5] .ret) .skip)) (.seq (.block 0 (.loop [0,6] RC)) (zS [d8 43 6,d8 4 43,f7 5 (.mov zt)] [4,5] .ret)))),44,[(4,none),(5,none)],true⟩
def c20:p5:=⟨zS [A2 2 0,f7 3 (.mov zf)] [0,1] (zS [A0 4 0,A0 5 1,f7 6 (.callF 19 [(zT 4),(zT 5)]),Y0 7 6 0,Y0 8 6 1,d8 2 7,d8 3 8] [2,3] .ret),9,[(2,none),(3,none)],true⟩
def c21:p5:=⟨zS [A2 3 0,f7 4 (.mov zf)] [0,1,2] (.seq (.draw [A0 5 0,A0 6 1,f7 7 (.len false (zT 6)),A0 8 2,f7 9 (.len false (zT 8)),o8 10 7 .eql (zT 9),d8 11 10,r8 12 11 (.load none (zT 1)),r8 13 11 (.load none (zT 0)),r8 14 11 (.bin .add (zT 13) (p9 1)),r8 15 11 (.slc 7 (zT 12) (some (zT 14)) none none),r8 16 11 (.load none (zT 2)),r8 17 11 (.load none (zT 0)),r8 18 11 (.bin .add (zT 17) (p9 1)),r8 19 11 (.slc 7 (zT 16) (some (zT 18)) none none),r8 20 11 (.callF 16 [(zT 15),(zT 19)]),f7 21 (.pick (zT 11) (zT 20) zf),d8 3 5] [d8 4 21] [[],[],[],[],[],[],[],[],[],[],[],[],[],[],[],[],[],[]] [3,4]) .ret),22,[(3,none),(4,none)],true⟩
def c22:p5:=⟨zS [A2 2 0] [0] (.seq (zS [d8 3 0,f7 4 (.len false (zT 3)),o8 5 4 .gtr (p9 2000)] [5] (zC 5 (zS [A2 2 4] [2] .ret) .skip)) (zS [A2 2 0] [2] .ret)),6,[(2,none)],true⟩
def RD:AC:= .seq (zS [d8 4 3,d8 5 0,f7 6 (.len false (zT 5)),o8 7 4 .lss (zT 6)] [0,3,7] (zC 7 .skip (.exit 0))) (.seq (.block 1 (zS [d8 10 0,d8 11 3,f7 12 (.idxS 7 (zT 10) (zT 11)),f7 13 (.load (some 7) (zT 12)),V8 14 34 13,o8 15 14 .neq (p9 0)] [0,3,15] (zC 15 (zS [f7 2 (.mov zt)] [2] .ret) .skip))) (.ops [d8 8 3,o8 9 8 .add (p9 1),d8 3 9] [0,3]))
def c23:p5:=⟨zS [f7 2 (.mov zf)] [0] (.seq (zS [A2 3 0] [0,3] (.block 0 (.loop [0,3] RD))) (zS [f7 2 (.mov zf)] [2] .ret)),16,[(2,none)],true⟩
def HL:AC:= .seq (.seq (.draw [d8 6 5,d8 7 0,f7 8 (.len false (zT 7)),o8 9 6 .lss (zT 8),d8 10 9,r8 11 10 (.mov (zT 5)),r8 12 10 (.mov (zT 1)),r8 13 10 (.len false (zT 12)),r8 14 10 (.bin .lss (zT 11) (zT 13)),f7 15 (.pick (zT 10) (zT 14) zf),d8 16 15,r8 17 16 (.mov (zT 0)),r8 18 16 (.mov (zT 5)),r8 19 16 (.idxS 7 (zT 17) (zT 18)),r8 20 16 (.load (some 7) (zT 19)),r8 21 16 (.mov (zT 1)),r8 22 16 (.mov (zT 5)),r8 23 16 (.idxS 7 (zT 21) (zT 22)),r8 24 16 (.load (some 7) (zT 23))] [r8 25 16 (.eqAgg false [(0,0),(1,2),(2,0),(3,0),(4,0),(5,0),(6,0)] (zT 20) (zT 24)),f7 26 (.pick (zT 16) (zT 25) zf)] [[],[],[],[],[],[],[],[],[],[],[],[],[],[],[],[],[],[],[]] [0,1,5,26]) (zC 26 .skip (.exit 0))) (.block 1 (.ops [d8 27 5,o8 28 27 .add (p9 1),d8 5 28] [0,1,5]))
def c24:p5:=⟨zS [A2 4 0] [0,1] (zS [A2 5 0] [0,1,5] (.seq (.block 0 (.loop [0,1,5] HL)) (zS [d8 29 5,d8 4 29] [4] .ret))),30,[(4,none)],true⟩
def RE:AC:= .seq (zS [d8 12 5,d8 13 0,d8 14 1,f7 15 (.callF 24 [(zT 13),(zT 14)]),o8 16 12 .leq (zT 15)] [0,1,5,16] (zC 16 .skip (.exit 0))) (.seq (.block 1 (zS [d8 19 0,d8 20 5,f7 21 (.callF 35 [(zT 19),(zT 20)]),d8 22 1,f7 23 (.callF 26 [(zT 21),(zT 22)])] [0,1,5,23] (zC 23 (zS [d8 24 5,d8 4 24] [4] .ret) .skip))) (.ops [d8 17 5,o8 18 17 .add (p9 1),d8 5 18] [0,1,5]))
def c25:p5:=⟨zS [A2 4 0] [0,1] (.seq (zS [d8 6 0,f7 7 (.len false (zT 6)),d8 8 1,f7 9 (.len false (zT 8)),o8 10 9 .add (p9 1),o8 11 7 .neq (zT 10)] [0,1,11] (zC 11 (zS [f7 4 (.mov (p9 (-1)))] [4] .ret) .skip)) (.seq (zS [A2 5 0] [0,1,5] (.block 0 (.loop [0,1,5] RE))) (zS [f7 4 (.mov (p9 (-1)))] [4] .ret))),25,[(4,none)],true⟩
def RF:AC:= .seq (zS [d8 11 5,d8 12 0,f7 13 (.len false (zT 12)),o8 14 11 .lss (zT 13)] [0,1,5,14] (zC 14 .skip (.exit 0))) (.seq (.block 1 (.seq (.draw [d8 17 0,d8 18 5,f7 19 (.idxS 7 (zT 17) (zT 18)),f7 20 (.load (some 7) (zT 19)),d8 21 1,d8 22 5,f7 23 (.idxS 7 (zT 21) (zT 22)),f7 24 (.load (some 7) (zT 23))] [f7 25 (.eqAgg true [(0,0),(1,2),(2,0),(3,0),(4,0),(5,0),(6,0)] (zT 20) (zT 24))] [[],[],[],[],[],[],[],[]] [0,1,5,25]) (zC 25 (zS [f7 4 (.mov zf)] [4] .ret) .skip))) (.ops [d8 15 5,o8 16 15 .add (p9 1),d8 5 16] [0,1,5]))
def c26:p5:=⟨zS [f7 4 (.mov zf)] [0,1] (.seq (zS [d8 6 0,f7 7 (.len false (zT 6)),d8 8 1,f7 9 (.len false (zT 8)),o8 10 7 .neq (zT 9)] [0,1,10] (zC 10 (zS [f7 4 (.mov zf)] [4] .ret) .skip)) (.seq (zS [A2 5 0] [0,1,5] (.block 0 (.loop [0,1,5] RF))) (zS [f7 4 (.mov zt)] [4] .ret))),26,[(4,none)],true⟩
def c27:p5:=⟨zS [f7 2 (.mov (.const (.slice none 0 0)))] [0] (.seq (zS [d8 3 0,f7 4 (.eqNil 1 false (zT 3) (.const (.slice none 0 0)))] [0,4] (zC 4 (zS [f7 2 (.mov (.const (.slice none 0 0)))] [2] .ret) .skip)) (zS [f7 5 (.mkRow 40 7 0 [(.int .u8 0),(.bool false),(.int .u8 0),(.int .i64 0),(.int .i64 0),(.int .i64 0),(.int .i64 0)] []),d8 6 0,f7 7 (.app 40 7 40 (zT 5) (zT 6)),d8 2 7] [2] .ret)),8,[(2,none)],true⟩
def aP:AC:= zS [o8 55 54 .lss (zT 53)] [1,5,7,8,11,42,43,52,53,54,55] (.seq (zC 55 .skip (.exit 4)) (.seq (.block 5 (zS [d8 56 54,f7 57 (.idxS 4 (zT 52) (zT 54)),f7 58 (.load (some 4) (zT 57)),f7 13 (.alloc 53 [(1,(.int .u8 0)),(1,(.bool false)),(2,(.int .i64 0))]),d8 12 56,⟨none,none,.store 4 (zT 13) (zT 58)⟩] [1,5,7,8,11,12,13,42,43,52,53,54] (zS [f7 14 (.mov (G4 0))] [1,5,7,8,11,12,13,14,42,43,52,53,54] (.seq (zS [y9 59 1 13,A0 60 59] [1,5,7,8,11,12,13,14,42,43,52,53,54,60] (zC 60 (.ops [f7 14 (.mov (G4 1))] [1,5,7,8,11,12,13,14,42,43,52,53,54]) .skip)) (zS [f7 15 (.mov (G4 5))] [1,5,7,8,11,12,13,14,15,42,43,52,53,54] (.seq (zS [y9 61 0 13,A0 62 61,o8 63 62 .eql (G4 1)] [1,5,7,8,11,12,14,15,42,43,52,53,54,63] (zC 63 (zS [f7 15 (.mov (G4 3))] [1,5,7,8,11,12,14,15,42,43,52,53,54] (.seq (zS [d8 64 7,d8 65 12,f7 66 (.idxS 1 (zT 64) (zT 65)),A0 67 66,d8 68 14,o8 69 67 .neq (zT 68)] [1,5,7,8,11,12,14,15,42,43,52,53,54,69] (zC 69 (.ops [d8 70 5,d8 71 7,d8 72 12,f7 73 (.idxS 1 (zT 71) (zT 72)),A0 74 73,d8 75 12,d8 76 12,f7 77 (.build [(.int .u8 0),(.bool false),(.int .u8 0),(.int .i64 0),(.int .i64 0),(.int .i64 0),(.int .i64 0)] [(0,1,(G4 7)),(2,1,(zT 74)),(3,1,(zT 75)),(4,1,(zT 76))]),f7 78 (.mkRow 40 7 1 [(.int .u8 0),(.bool false),(.int .u8 0),(.int .i64 0),(.int .i64 0),(.int .i64 0),(.int .i64 0)] [(0,7,(zT 77))]),f7 79 (.app 40 7 40 (zT 70) (zT 78)),d8 5 79] [1,5,7,8,11,12,14,15,42,43,52,53,54]) .skip)) (.ops [d8 80 7,d8 81 12,d8 82 14,f7 83 (.idxS 1 (zT 80) (zT 81)),⟨none,none,.store 1 (zT 83) (zT 82)⟩] [1,5,7,8,11,12,15,42,43,52,53,54]))) .skip)) (.ops [d8 84 11,d8 85 15,d8 86 8,o8 87 86 .and (p9 1),o8 88 87 .eql (p9 1),d8 89 7,d8 90 12,f7 91 (.idxS 1 (zT 89) (zT 90)),A0 92 91,d8 93 12,f7 94 (.build [(.int .u8 0),(.bool false),(.int .u8 0),(.int .i64 0),(.int .i64 0),(.int .i64 0),(.int .i64 0)] [(0,1,(zT 85)),(1,1,(zT 88)),(2,1,(zT 92)),(3,1,(zT 93)),(5,1,(p9 1))]),f7 95 (.mkRow 40 7 1 [(.int .u8 0),(.bool false),(.int .u8 0),(.int .i64 0),(.int .i64 0),(.int .i64 0),(.int .i64 0)] [(0,7,(zT 94))]),f7 96 (.app 40 7 40 (zT 84) (zT 95)),d8 11 96] [1,5,7,8,11,42,43,52,53,54]))))))) (.ops [o8 97 54 .add (p9 1),d8 54 97] [1,5,7,8,11,42,43,52,53,54])))
 
def HM:AC:= zS [o8 44 43 .lss (zT 42)] [1,5,7,42,43,44] (.seq (zC 44 .skip (.exit 2)) (.seq (.block 3 (zS [d8 45 43,d8 8 45] [1,5,7,8,42,43] (zS [f7 47 (.load (some 2) (zT 1)),d8 48 8,f7 49 (.callF 38 [(zT 47),(zT 48)]),d8 46 49,Y0 50 46 0,Y0 51 46 1,d8 9 50,d8 10 51] [1,5,7,8,9,42,43] (zS [f7 11 (.mov (.const (.slice none 0 0)))] [1,5,7,8,9,11,42,43] (.seq (zS [d8 52 9,f7 53 (.len false (zT 52)),A2 54 0] [1,5,7,8,11,42,43,52,53,54] (.block 4 (.loop [1,5,7,8,11,42,43,52,53,54] aP))) (.seq (zS [d8 98 8,o8 99 98 .and (p9 1),o8 100 99 .eql (p9 0)] [1,5,7,11,42,43,100] (zC 100 (.ops [d8 101 11,V8 102 39 101] [1,5,7,11,42,43]) .skip)) (.ops [d8 103 5,d8 104 11,f7 105 (.app 40 7 40 (zT 103) (zT 104)),d8 5 105] [1,5,7,42,43]))))))) (.ops [o8 106 43 .add (p9 1),d8 43 106] [1,5,7,42,43])))
def zF:AC:= zS [o8 29 28 .lss (zT 27)] [1,5,27,28,29] (.seq (zC 29 .skip (.exit 0)) (.seq (.block 1 (zS [d8 30 28,d8 6 30] [1,5,6,27,28] (.ops [d8 31 5,d8 32 6,f7 33 (.build [(.int .u8 0),(.bool false),(.int .u8 0),(.int .i64 0),(.int .i64 0),(.int .i64 0),(.int .i64 0)] [(0,1,(G4 3)),(1,1,zt),(3,1,(zT 32)),(5,1,(p9 1))]),f7 34 (.mkRow 40 7 1 [(.int .u8 0),(.bool false),(.int .u8 0),(.int .i64 0),(.int .i64 0),(.int .i64 0),(.int .i64 0)] [(0,7,(zT 33))]),f7 35 (.app 40 7 40 (zT 31) (zT 34)),d8 5 35] [1,5,27,28]))) (.ops [o8 36 28 .add (p9 1),d8 28 36] [1,5,27,28])))
def c28:p5:=⟨zS [f7 1 (.box 31 (zT 0)),f7 2 (.mov (.const (.slice none 0 0))),A2 3 0] [1] (.seq (zS [f7 16 (.load (some 2) (zT 1)),V8 17 36 16,d8 4 17] [1,4] (zS [d8 18 4,o8 19 18 .neq (p9 0)] [1,4,19] (zC 19 (zS [d8 20 4,f7 2 (.mov (.const (.slice none 0 0))),d8 3 20] [2,3] .ret) .skip))) (.seq (zS [f7 21 (.load (some 2) (zT 1)),V8 22 37 21,f7 23 (.un .not (zT 22))] [1,23] (zC 23 (zS [f7 2 (.mov (.const (.slice none 0 0))),A2 3 2] [2,3] .ret) .skip)) (zS [f7 24 (.build [(.int .u8 0),(.bool false),(.int .u8 0),(.int .i64 0),(.int .i64 0),(.int .i64 0),(.int .i64 0)] [(0,1,(G4 1)),(5,1,(p9 1))]),f7 25 (.mkRow 40 7 1 [(.int .u8 0),(.bool false),(.int .u8 0),(.int .i64 0),(.int .i64 0),(.int .i64 0),(.int .i64 0)] [(0,7,(zT 24))]),d8 5 25] [1,5] (.seq (zS [y9 26 0 1,A0 27 26,A2 28 0] [1,5,27,28] (.block 0 (.loop [1,5,27,28] zF))) (zS [y9 37 0 1,A0 38 37,f7 39 (.mkSlice 5 1 1 [(.int .u8 0)] (zT 38) (zT 38)),d8 7 39] [1,5,7] (.seq (zS [y9 40 1 1,A0 41 40,f7 42 (.len false (zT 41)),A2 43 0] [1,5,7,42,43] (.block 2 (.loop [1,5,7,42,43] HM))) (.seq (zS [d8 107 5,f7 108 (.len false (zT 107)),o8 109 108 .gtr (p9 2000)] [5,109] (zC 109 (zS [f7 2 (.mov (.const (.slice none 0 0))),A2 3 4] [2,3] .ret) .skip)) (zS [d8 110 5,d8 2 110,A2 3 0] [2,3] .ret)))))))),111,[(2,none),(3,none)],true⟩
def tO:AC:= .seq (zS [d8 93 10,d8 94 8,f7 95 (.len false (zT 94)),o8 96 93 .lss (zT 95)] [1,4,5,7,8,10,96] (zC 96 .skip (.exit 6))) (.seq (.block 7 (zS [d8 99 10,d8 11 99] [1,4,5,7,8,10,11] (.seq (zS [d8 100 7,o8 101 100 .rem (p9 2),o8 102 101 .eql (p9 0)] [1,4,5,7,8,10,11,102] (zC 102 (.ops [d8 103 8,f7 104 (.len false (zT 103)),o8 105 104 .sub (p9 1),d8 106 10,o8 107 105 .sub (zT 106),d8 11 107] [1,4,5,7,8,10,11]) .skip)) (zS [d8 108 7,o8 109 108 .rem (p9 2),o8 110 109 .eql (p9 1),d8 111 5,d8 112 11,f7 113 (.idxS 1 (zT 111) (zT 112)),A0 114 113,d8 115 11,f7 116 (.build [(.int .u8 0),(.bool false),(.int .u8 0),(.int .i64 0),(.int .i64 0),(.int .i64 0),(.int .i64 0)] [(0,1,(G4 3)),(1,1,(zT 110)),(2,1,(zT 114)),(3,1,(zT 115)),(5,1,(p9 1))]),f7 12 (.alloc 40 [(1,(.int .u8 0)),(1,(.bool false)),(1,(.int .u8 0)),(4,(.int .i64 0))]),⟨none,none,.store 7 (zT 12) (zT 116)⟩] [1,4,5,7,8,10,11,12] (.seq (zS [d8 117 8,d8 118 11,f7 119 (.idxS 4 (zT 117) (zT 118)),y9 120 0 119,A0 121 120,o8 122 121 .eql (G4 8)] [1,4,5,7,8,10,12,122] (zC 122 (.ops [y9 123 0 12,⟨none,none,.store 1 (zT 123) (G4 5)⟩] [1,4,5,7,8,10,12]) .skip)) (.ops [d8 124 4,f7 125 (.load (some 7) (zT 12)),f7 126 (.mkRow 40 7 1 [(.int .u8 0),(.bool false),(.int .u8 0),(.int .i64 0),(.int .i64 0),(.int .i64 0),(.int .i64 0)] [(0,7,(zT 125))]),f7 127 (.app 40 7 40 (zT 124) (zT 126)),d8 4 127] [1,4,5,7,8,10])))))) (.ops [d8 97 10,o8 98 97 .add (p9 1),d8 10 98] [1,4,5,7,8,10]))
def qN:AC:= .seq (zS [d8 50 9,d8 51 8,f7 52 (.len false (zT 51)),o8 53 50 .lss (zT 52)] [1,4,5,7,8,9,53] (zC 53 .skip (.exit 4))) (.seq (.block 5 (.seq (.draw [d8 56 8,d8 57 9,f7 58 (.idxS 4 (zT 56) (zT 57)),y9 59 0 58,A0 60 59,o8 61 60 .eql (G4 1),d8 62 61,r8 63 62 (.mov (zT 8)),r8 64 62 (.mov (zT 9)),r8 65 62 (.idxS 4 (zT 63) (zT 64)),r8 66 62 (.fldA 1 (zT 65)),r8 67 62 (.load none (zT 66)),r8 68 62 (.mov (zT 5)),r8 69 62 (.mov (zT 9)),r8 70 62 (.idxS 1 (zT 68) (zT 69)),r8 71 62 (.load none (zT 70)),r8 72 62 (.bin .eql (zT 71) (G4 1))] [r8 73 62 (.eqB true (zT 67) (zT 72)),f7 74 (.pick (zT 62) (zT 73) zf)] [[],[],[],[],[],[],[],[],[],[],[],[],[],[],[],[],[]] [1,4,5,7,8,9,74]) (zC 74 (zS [d8 75 4,d8 76 5,d8 77 9,f7 78 (.idxS 1 (zT 76) (zT 77)),A0 79 78,d8 80 9,d8 81 9,f7 82 (.build [(.int .u8 0),(.bool false),(.int .u8 0),(.int .i64 0),(.int .i64 0),(.int .i64 0),(.int .i64 0)] [(0,1,(G4 7)),(2,1,(zT 79)),(3,1,(zT 80)),(4,1,(zT 81))]),f7 83 (.mkRow 40 7 1 [(.int .u8 0),(.bool false),(.int .u8 0),(.int .i64 0),(.int .i64 0),(.int .i64 0),(.int .i64 0)] [(0,7,(zT 82))]),f7 84 (.app 40 7 40 (zT 75) (zT 83)),d8 4 84] [1,4,5,7,8,9] (.ops [d8 85 5,d8 86 9,d8 87 5,d8 88 9,f7 89 (.idxS 1 (zT 87) (zT 88)),A0 90 89,f7 91 (.bin .sub (G4 1) (zT 90)),f7 92 (.idxS 1 (zT 85) (zT 86)),⟨none,none,.store 1 (zT 92) (zT 91)⟩] [1,4,5,7,8,9])) .skip))) (.ops [d8 54 9,o8 55 54 .add (p9 1),d8 9 55] [1,4,5,7,8,9]))
def HN:AC:= .seq (zS [d8 37 7,y9 38 1 1,A0 39 38,f7 40 (.len false (zT 39)),o8 41 37 .lss (zT 40)] [1,4,5,7,41] (zC 41 .skip (.exit 2))) (.seq (.block 3 (zS [y9 44 1 1,A0 45 44,d8 46 7,f7 47 (.idxS 2 (zT 45) (zT 46)),f7 48 (.load (some 2) (zT 47)),V8 49 42 48,d8 8 49] [1,4,5,7,8] (.seq (zS [A2 9 0] [1,4,5,7,8,9] (.block 4 (.loop [1,4,5,7,8,9] qN))) (zS [A2 10 0] [1,4,5,7,8,10] (.block 6 (.loop [1,4,5,7,8,10] tO)))))) (.ops [d8 42 7,o8 43 42 .add (p9 1),d8 7 43] [1,4,5,7]))
def zG:AC:= .seq (zS [d8 26 6,y9 27 0 1,A0 28 27,o8 29 26 .lss (zT 28)] [1,4,5,6,29] (zC 29 .skip (.exit 0))) (.seq (.block 1 (.ops [d8 32 4,d8 33 6,f7 34 (.build [(.int .u8 0),(.bool false),(.int .u8 0),(.int .i64 0),(.int .i64 0),(.int .i64 0),(.int .i64 0)] [(0,1,(G4 3)),(1,1,zt),(3,1,(zT 33)),(5,1,(p9 1))]),f7 35 (.mkRow 40 7 1 [(.int .u8 0),(.bool false),(.int .u8 0),(.int .i64 0),(.int .i64 0),(.int .i64 0),(.int .i64 0)] [(0,7,(zT 34))]),f7 36 (.app 40 7 40 (zT 32) (zT 35)),d8 4 36] [1,4,5,6])) (.ops [d8 30 6,o8 31 30 .add (p9 1),d8 6 31] [1,4,5,6]))
def c29:p5:=⟨zS [f7 1 (.box 31 (zT 0)),f7 2 (.mov (.const (.slice none 0 0))),A2 3 0] [1] (.seq (zS [f7 13 (.load (some 2) (zT 1)),V8 14 40 13,o8 15 14 .neq (p9 0)] [1,15] (zC 15 (zS [f7 16 (.load (some 2) (zT 1)),V8 17 40 16,f7 2 (.mov (.const (.slice none 0 0))),d8 3 17] [2,3] .ret) .skip)) (.seq (zS [f7 18 (.load (some 2) (zT 1)),V8 19 41 18,f7 20 (.un .not (zT 19))] [1,20] (zC 20 (zS [f7 2 (.mov (.const (.slice none 0 0))),A2 3 2] [2,3] .ret) .skip)) (zS [f7 21 (.build [(.int .u8 0),(.bool false),(.int .u8 0),(.int .i64 0),(.int .i64 0),(.int .i64 0),(.int .i64 0)] [(0,1,(G4 1)),(5,1,(p9 1))]),f7 22 (.mkRow 40 7 1 [(.int .u8 0),(.bool false),(.int .u8 0),(.int .i64 0),(.int .i64 0),(.int .i64 0),(.int .i64 0)] [(0,7,(zT 21))]),d8 4 22] [1,4] (zS [y9 23 0 1,A0 24 23,f7 25 (.mkSlice 5 1 1 [(.int .u8 0)] (zT 24) (zT 24)),d8 5 25] [1,4,5] (.seq (zS [A2 6 0] [1,4,5,6] (.block 0 (.loop [1,4,5,6] zG))) (.seq (zS [A2 7 0] [1,4,5,7] (.block 2 (.loop [1,4,5,7] HN))) (.seq (zS [d8 128 4,f7 129 (.len false (zT 128)),o8 130 129 .gtr (p9 2000)] [4,130] (zC 130 (zS [f7 2 (.mov (.const (.slice none 0 0))),A2 3 4] [2,3] .ret) .skip)) (zS [d8 131 4,d8 2 131,A2 3 0] [2,3] .ret)))))))),132,[(2,none),(3,none)],true⟩
def RG:AC:= .seq (zS [d8 11 5,d8 12 0,f7 13 (.len false (zT 12)),o8 14 11 .lss (zT 13)] [0,1,5,14] (zC 14 .skip (.exit 0))) (.seq (.block 1 (.seq (.draw [d8 17 0,d8 18 5,f7 19 (.idxS 4 (zT 17) (zT 18)),f7 20 (.load (some 4) (zT 19)),d8 21 1,d8 22 5,f7 23 (.idxS 4 (zT 21) (zT 22)),f7 24 (.load (some 4) (zT 23))] [f7 25 (.eqAgg true [(0,0),(1,2),(2,0),(3,0)] (zT 20) (zT 24))] [[],[],[],[],[],[],[],[]] [0,1,5,25]) (zC 25 (zS [f7 4 (.mov zf)] [4] .ret) .skip))) (.ops [d8 15 5,o8 16 15 .add (p9 1),d8 5 16] [0,1,5]))
def c30:p5:=⟨zS [f7 4 (.mov zf)] [0,1] (.seq (zS [d8 6 0,f7 7 (.len false (zT 6)),d8 8 1,f7 9 (.len false (zT 8)),o8 10 7 .neq (zT 9)] [0,1,10] (zC 10 (zS [f7 4 (.mov zf)] [4] .ret) .skip)) (.seq (zS [A2 5 0] [0,1,5] (.block 0 (.loop [0,1,5] RG))) (zS [f7 4 (.mov zt)] [4] .ret))),26,[(4,none)],true⟩
def RH:AC:= zS [o8 9 8 .lss (zT 7)] [0,1,7,8,9] (.seq (zC 9 .skip (.exit 0)) (.seq (.block 1 (zS [d8 10 8,d8 5 10] [0,1,5,7,8] (zS [d8 11 1,d8 12 0,d8 13 5,f7 14 (.idxS 7 (zT 12) (zT 13)),f7 15 (.load (some 7) (zT 14)),f7 16 (.callV (zT 11) [.tmp 15])] [0,1,5,7,8,16] (zC 16 (zS [d8 17 5,d8 4 17] [4] .ret) .skip)))) (.ops [o8 18 8 .add (p9 1),d8 8 18] [0,1,7,8])))
def c31:p5:=⟨zS [A2 4 0] [0,1] (.seq (zS [d8 6 0,f7 7 (.len false (zT 6)),A2 8 0] [0,1,7,8] (.block 0 (.loop [0,1,7,8] RH))) (zS [f7 4 (.mov (p9 (-1)))] [4] .ret)),19,[(4,none)],true⟩
def c32:p5:=⟨zS [f7 4 (.mov (.const (.slice none 0 0)))] [0,1] (.seq (zS [d8 5 1,o8 6 5 .lss (p9 0)] [0,1,6] (zC 6 (.ops [f7 7 (.mkIf 9 (.const (.string ⟨#[99,97,110,110,111,116,32,98,101,32,110,101,103,97,116,105,118,101]⟩))),⟨none,none,.bad⟩] [0,1]) .skip)) (.seq (zS [d8 8 1,d8 9 0,f7 10 (.cap (zT 9)),d8 11 0,f7 12 (.len false (zT 11)),o8 13 10 .sub (zT 12),o8 14 8 .sub (zT 13),d8 1 14] [0,1] (zS [d8 15 1,o8 16 15 .gtr (p9 0)] [0,1,16] (zC 16 (.ops [d8 17 0,d8 18 0,f7 19 (.cap (zT 18)),f7 20 (.slc 7 (zT 17) none (some (zT 19)) none),d8 21 1,f7 22 (.appMk 40 7 40 [(.int .u8 0),(.bool false),(.int .u8 0),(.int .i64 0),(.int .i64 0),(.int .i64 0),(.int .i64 0)] (zT 20) (zT 21)),d8 23 0,f7 24 (.len false (zT 23)),f7 25 (.slc 7 (zT 22) none (some (zT 24)) none),d8 0 25] [0]) .skip))) (zS [d8 26 0,d8 4 26] [4] .ret))),27,[(4,none)],true⟩
def c33:p5:=⟨zS [f7 2 (.mov zf)] [0] (zS [d8 3 0,f7 4 (.bin .geq (zT 3) (p9 (-100))),d8 5 4,r8 6 5 (.mov (zT 0)),r8 7 5 (.bin .leq (zT 6) (p9 100)),f7 8 (.pick (zT 5) (zT 7) zf),d8 2 8] [2] .ret),9,[(2,none)],true⟩
def yB:p5:=⟨zS [f7 1 (.box 40 (zT 0)),A2 2 0] [1] (zS [y9 5 0 1,A0 6 5,f7 7 (.build [(.int .u8 0),(.bool false),(.int .u8 0),(.int .i64 0),(.int .i64 0),(.int .i64 0),(.int .i64 0)] [(0,1,(zT 6))]),f7 3 (.alloc 40 [(1,(.int .u8 0)),(1,(.bool false)),(1,(.int .u8 0)),(4,(.int .i64 0))]),⟨none,none,.store 7 (zT 3) (zT 7)⟩] [1,3] (zS [f7 4 (.mov zt)] [1,3,4] (.seq (zS [y9 8 0 1,A0 9 8] [1,3,4,9] (.block 0 (.seq (zS [o8 11 9 .eql (G4 1),d8 10 11] [1,3,4,9,10] (zC 10 .skip (.ops [o8 12 9 .eql (G4 2),d8 10 12] [1,3,4,9,10]))) (zC 10 (zS [y9 13 5 1,A0 14 13,y9 15 5 3,⟨none,none,.store 1 (zT 15) (zT 14)⟩] [1,3] (.ops [y9 16 5 1,A0 17 16,V8 18 43 17,d8 4 18] [1,3,4])) (.seq (zS [o8 20 9 .eql (G4 3),d8 19 20] [1,3,4,9,19] (zC 19 .skip (zS [o8 21 9 .eql (G4 4),d8 19 21] [1,3,4,9,19] (zC 19 .skip (.ops [o8 22 9 .eql (G4 5),d8 19 22] [1,3,4,9,19]))))) (zC 19 (.seq (.drawW [⟨y9 23 1 1,[],none⟩,⟨A0 24 23,[],none⟩,⟨y9 25 2 1,[0,1],none⟩,⟨A0 26 25,[0,1],none⟩,⟨y9 27 3 1,[0,1,2,3],none⟩,⟨A0 28 27,[0,1,2,3],none⟩,⟨y9 29 5 1,[0,1,2,3,4,5],none⟩,⟨A0 30 29,[0,1,2,3,4,5],none⟩,⟨y9 31 1 3,[2,3,4,5,6,7],none⟩,⟨⟨none,none,.store 1 (zT 31) (zT 24)⟩,[2,3,4,5,6,7],none⟩,⟨y9 32 2 3,[4,5,6,7],none⟩,⟨⟨none,none,.store 1 (zT 32) (zT 26)⟩,[4,5,6,7],none⟩,⟨y9 33 3 3,[6,7],none⟩,⟨⟨none,none,.store 1 (zT 33) (zT 28)⟩,[6,7],none⟩] [y9 34 5 3,⟨none,none,.store 1 (zT 34) (zT 30)⟩] [1,3]) (.ops [y9 35 5 1,A0 36 35,V8 37 43 36,d8 4 37] [1,3,4])) (zS [o8 39 9 .eql (G4 6),d8 38 39] [1,3,4,9,38] (zC 38 (zS [f7 40 (.load (some 7) (zT 1)),⟨none,none,.store 7 (zT 3) (zT 40)⟩] [1,3] (zS [y9 41 6 3,⟨none,none,.store 1 (zT 41) (p9 0)⟩] [1,3] (.ops [y9 42 5 1,A0 43 42,V8 44 43 43,d8 4 44] [1,3,4]))) (zS [o8 46 9 .eql (G4 7),d8 45 46] [1,3,4,9,45] (zC 45 (.drawW [⟨y9 47 2 1,[],none⟩,⟨A0 48 47,[],none⟩,⟨y9 49 3 1,[0,1],none⟩,⟨A0 50 49,[0,1],none⟩,
  ⟨y9 51 4 1,[0,1,2,3],none⟩,⟨A0 52 51,[0,1,2,3],none⟩,⟨y9 53 2 3,[2,3,4,5],none⟩,⟨⟨none,none,.store 1 (zT 53) (zT 48)⟩,[2,3,4,5],none⟩,⟨y9 54 3 3,[4,5],none⟩,⟨⟨none,none,.store 1 (zT 54) (zT 50)⟩,[4,5],none⟩] [y9 55 4 3,⟨none,none,.store 1 (zT 55) (zT 52)⟩] [1,3,4]) (zS [o8 57 9 .eql (G4 8),d8 56 57] [1,3,4,9,56] (zC 56 (zS [y9 58 6 1,A0 59 58,y9 60 6 3,⟨none,none,.store 1 (zT 60) (zT 59)⟩] [1,3] (.ops [y9 61 6 1,A0 62 61,f7 63 (.bin .geq (zT 62) (p9 (-8))),d8 64 63,r8 65 64 (.fldA 6 (zT 1)),r8 66 64 (.load none (zT 65)),r8 67 64 (.bin .leq (zT 66) (p9 8)),f7 68 (.pick (zT 64) (zT 67) zf),d8 4 68] [1,3,4])) (zS [o8 70 9 .eql (G4 9),d8 69 70] [1,3,4,69] (zC 69 (.drawW [⟨y9 71 2 1,[],none⟩,⟨A0 72 71,[],none⟩,⟨y9 73 3 1,[0,1],none⟩,⟨A0 74 73,[0,1],none⟩,⟨y9 75 2 3,[2,3],none⟩,⟨⟨none,none,.store 1 (zT 75) (zT 72)⟩,[2,3],none⟩] [y9 76 3 3,⟨none,none,.store 1 (zT 76) (zT 74)⟩] [1,3,4]) (zS [A2 2 8] [2] .ret))))))))))))))) (.seq (zS [d8 77 4,f7 78 (.un .not (zT 77)),d8 79 78,B8 80 79 (.load (some 7) (zT 3)),B8 81 79 (.load (some 7) (zT 1)),B8 82 79 (.eqAgg true [(0,0),(1,2),(2,0),(3,0),(4,0),(5,0),(6,0)] (zT 80) (zT 81)),f7 83 (.pick (zT 79) zt (zT 82)),d8 84 83,B8 85 84 (.fldA 2 (zT 1)),B8 86 84 (.load none (zT 85)),B8 87 84 (.bin .gtr (zT 86) (G4 1)),f7 88 (.pick (zT 84) zt (zT 87)),d8 89 88,B8 90 89 (.fldA 3 (zT 1)),B8 91 89 (.load none (zT 90)),B8 92 89 (.callF 44 [.tmp 91]),B8 93 89 (.un .not (zT 92)),f7 94 (.pick (zT 89) zt (zT 93)),d8 95 94,B8 96 95 (.fldA 4 (zT 1)),B8 97 95 (.load none (zT 96)),B8 98 95 (.callF 44 [.tmp 97]),B8 99 95 (.un .not (zT 98)),f7 100 (.pick (zT 95) zt (zT 99))] [100] (zC 100 (zS [A2 2 8] [2] .ret) .skip)) (zS [A2 2 0] [2] .ret))))),101,[(2,none)],true⟩
def c35:p5:=⟨zS [f7 4 (.mov (.const (.slice none 0 0)))] [0,1] (.seq (.draw [f7 5 (.mkRow 40 7 0 [(.int .u8 0),(.bool false),(.int .u8 0),(.int .i64 0),(.int .i64 0),(.int .i64 0),(.int .i64 0)] []),d8 6 0,d8 7 1,f7 8 (.slc 7 (zT 6) none (some (zT 7)) none),f7 9 (.app 40 7 40 (zT 5) (zT 8)),d8 10 0,d8 11 1,o8 12 11 .add (p9 1),f7 13 (.slc 7 (zT 10) (some (zT 12)) none none)] [f7 14 (.app 40 7 40 (zT 9) (zT 13)),d8 4 14] [[],[false],[false,false],[true,true,false],[],[false,false,false,false,false],[false,false,false,false,false,false],[true,false,false,false,false,false,false],[true,true,true,false,false,false,false,false]] [4]) .ret),15,[(4,none)],true⟩
def YY:AC:= (.ops [f7 4 (.alloc 78 [(3,(.int .i64 0))]),⟨none,none,.store 3 (zT 4) (zT 20)⟩] [2,4])
def RI:AC:= (.block 1 (zS [y9 21 2 4,A0 22 21,o8 23 22 .neq (p9 0)] [2,4,23] (zC 23 (zS [y9 24 2 4,A0 25 24,⟨none,none,.store 1 (zT 2) (zT 25)⟩] [] .ret) .skip)))
def c36:p5:=⟨zS [f7 1 (.box 31 (zT 0)),f7 2 (.alloc 24 [(1,(.int .i64 0))])] [1,2] (.seq (zS [y9 5 1 1,A0 6 5,f7 7 (.len false (zT 6)),o8 8 7 .gtr (p9 100)] [1,2,8] (zC 8 (zS [⟨none,none,.store 1 (zT 2) (p9 4)⟩] [2] .ret) .skip)) (.seq (zS [y9 9 0 1,A0 10 9,o8 11 10 .lss (p9 0),d8 12 11,B8 13 12 (.fldA 0 (zT 1)),B8 14 12 (.load none (zT 13)),B8 15 12 (.bin .gtr (zT 14) (p9 200)),f7 16 (.pick (zT 12) zt (zT 15))] [1,2,16] (zC 16 (zS [⟨none,none,.store 1 (zT 2) (p9 8)⟩] [2] .ret) .skip)) (.seq (zS [f7 17 (.load (some 2) (zT 1)),V8 18 45 17] [2,18] (.block 0 (.rangeF (zT 18) [19,20] [2] YY RI))) (zS [⟨none,none,.store 1 (zT 2) (p9 0)⟩] [2] .ret)))),26,[(2,(some none))],true⟩
def RJ:AC:= zS [o8 9 8 .lss (zT 7)] [1,6,7,8,9] (.seq (zC 9 .skip (.exit 0)) (.seq (.block 1 (zS [f7 10 (.idxS 2 (zT 6) (zT 8)),f7 11 (.load (some 2) (zT 10)),f7 4 (.alloc 55 [(1,(.bool false)),(1,(.slice none 0 0))]),⟨none,none,.store 2 (zT 4) (zT 11)⟩] [1,4,6,7,8] (zS [y9 12 1 4,A0 13 12,f7 14 (.callF 46 [(zT 13),(.func 47)])] [1,6,7,8,14] (zC 14 (zS [f7 2 (.mov zf)] [2] .ret) .skip)))) (.ops [o8 15 8 .add (p9 1),d8 8 15] [1,6,7,8])))
def c37:p5:=⟨zS [f7 1 (.box 31 (zT 0)),f7 2 (.mov zf)] [1] (.seq (zS [y9 5 1 1,A0 6 5,f7 7 (.len false (zT 6)),A2 8 0] [1,6,7,8] (.block 0 (.loop [1,6,7,8] RJ))) (zS [y9 16 0 1,A0 17 16,o8 18 17 .leq (p9 101),d8 2 18] [2] .ret)),19,[(2,none)],true⟩
def c38:p5:=⟨zS [f7 2 (.box 31 (zT 0)),f7 4 (.mov (.const (.slice none 0 0))),A2 5 0] [1,2] (.seq (zS [f7 7 (.load (some 2) (zT 2)),V8 8 36 7,d8 6 8] [1,2,6] (zS [d8 9 6,o8 10 9 .neq (p9 0)] [1,2,6,10] (zC 10 (zS [d8 11 6,f7 4 (.mov (.const (.slice none 0 0))),d8 5 11] [4,5] .ret) .skip))) (.seq (zS [d8 12 1,o8 13 12 .lss (p9 0),d8 14 13,B8 15 14 (.mov (zT 1)),B8 16 14 (.fldA 1 (zT 2)),B8 17 14 (.load none (zT 16)),B8 18 14 (.len false (zT 17)),B8 19 14 (.bin .geq (zT 15) (zT 18)),f7 20 (.pick (zT 14) zt (zT 19))] [1,2,20] (zC 20 (zS [f7 4 (.mov (.const (.slice none 0 0))),A2 5 2] [4,5] .ret) .skip)) (.seq (zS [y9 21 1 2,A0 22 21,d8 23 1,f7 24 (.idxS 2 (zT 22) (zT 23)),y9 25 0 24,A0 26 25] [1,2,26] (zC 26 (zS [y9 27 1 2,A0 28 27,d8 29 1,f7 30 (.idxS 2 (zT 28) (zT 29)),y9 31 1 30,A0 32 31,V8 33 48 32,Y0 34 33 0,Y0 35 33 1,d8 4 34,d8 5 35] [4,5] .ret) .skip)) (zS [y9 36 1 2,A0 37 36,d8 38 1,f7 39 (.idxS 2 (zT 37) (zT 38)),y9 40 1 39,A0 41 40,V8 42 49 41,d8 4 42,A2 5 0] [4,5] .ret)))),43,[(4,none),(5,none)],true⟩
def YZ:AC:= .seq (zS [d8 7 2,d8 8 3,o8 9 7 .lss (zT 8)] [0,2,3,9] (zC 9 .skip (.exit 0))) (.seq (.block 1 (.drawW [⟨d8 14 0,[],none⟩,⟨d8 15 2,[0],none⟩,⟨d8 16 0,[0,1],none⟩,⟨d8 17 3,[0,1,2],none⟩,⟨d8 18 0,[0,1,2,3],none⟩,⟨d8 19 3,[0,1,2,3,4],none⟩,⟨f7 20 (.idxS 7 (zT 18) (zT 19)),[0,1,2,3],none⟩,⟨f7 21 (.load (some 7) (zT 20)),[0,1,2,3],none⟩,⟨d8 22 0,[0,1,2,3,4,5,6,7],none⟩,⟨d8 23 2,[0,1,2,3,4,5,6,7,8],none⟩,⟨f7 24 (.idxS 7 (zT 22) (zT 23)),[0,1,2,3,4,5,6,7],none⟩,⟨f7 25 (.load (some 7) (zT 24)),[0,1,2,3,4,5,6,7],none⟩,⟨f7 26 (.idxS 7 (zT 14) (zT 15)),[2,3],none⟩,⟨⟨none,none,.store 7 (zT 26) (zT 21)⟩,[2,3],none⟩] [f7 27 (.idxS 7 (zT 16) (zT 17)),⟨none,none,.store 7 (zT 27) (zT 25)⟩] [0,2,3])) (.ops [d8 10 2,o8 11 10 .add (p9 1),d8 12 3,o8 13 12 .sub (p9 1),d8 2 11,d8 3 13] [0,2,3]))
def c39:p5:=⟨zS [d8 4 0,f7 5 (.len false (zT 4)),o8 6 5 .sub (p9 1),A2 2 0,d8 3 6] [0,2,3] (.block 0 (.loop [0,2,3] YZ)),28,[],false⟩
def HO:AC:= .seq (zS [d8 21 4,y9 22 1 1,A0 23 22,f7 24 (.len false (zT 23)),o8 25 21 .lss (zT 24)] [1,3,4,25] (zC 25 .skip (.exit 0))) (.seq (.block 1 (zS [y9 29 1 1,A0 30 29,d8 31 4,f7 32 (.idxS 2 (zT 30) (zT 31)),y9 33 1 32,A0 34 33,V8 35 50 34,d8 28 35,Y0 36 28 0,Y0 37 28 1,d8 5 36,d8 6 37] [1,3,4,5,6] (.seq (zS [d8 38 6,o8 39 38 .neq (p9 0)] [1,3,4,5,6,39] (zC 39 (zS [d8 40 6,d8 2 40] [2] .ret) .skip)) (.seq (zS [d8 41 5,d8 42 3,o8 43 41 .neq (zT 42)] [1,4,43] (zC 43 (zS [A2 2 26] [2] .ret) .skip)) (.ops [y9 45 1 1,A0 46 45,d8 47 4,f7 48 (.idxS 2 (zT 46) (zT 47)),y9 49 1 48,A0 50 49,V8 51 51 50,d8 44 51,Y0 52 44 0,Y0 53 44 1,d8 3 52] [1,3,4]))))) (.ops [d8 26 4,o8 27 26 .add (p9 1),d8 4 27] [1,3,4]))
def c40:p5:=⟨zS [f7 1 (.box 31 (zT 0)),A2 2 0] [1] (.seq (zS [y9 7 1 1,A0 8 7,f7 9 (.len false (zT 8)),o8 10 9 .gtr (p9 100)] [1,10] (zC 10 (zS [A2 2 4] [2] .ret) .skip)) (.seq (zS [y9 11 0 1,A0 12 11,o8 13 12 .lss (p9 0),d8 14 13,B8 15 14 (.fldA 0 (zT 1)),B8 16 14 (.load none (zT 15)),B8 17 14 (.bin .gtr (zT 16) (p9 200)),f7 18 (.pick (zT 14) zt (zT 17))] [1,18] (zC 18 (zS [A2 2 8] [2] .ret) .skip)) (zS [y9 19 0 1,A0 20 19,d8 3 20] [1,3] (.seq (zS [A2 4 0] [1,3,4] (.block 0 (.loop [1,3,4] HO))) (zS [A2 2 0] [2] .ret))))),54,[(2,none)],true⟩
def HP:AC:= .seq (zS [d8 13 4,y9 14 1 1,A0 15 14,d8 16 3,f7 17 (.idxS 2 (zT 15) (zT 16)),y9 18 1 17,A0 19 18,f7 20 (.len false (zT 19)),o8 21 13 .lss (zT 20)] [1,3,4,21] (zC 21 .skip (.exit 2))) (.seq (.block 3 (zS [y9 24 1 1,A0 25 24,d8 26 3,f7 27 (.idxS 2 (zT 25) (zT 26)),y9 28 1 27,A0 29 28,d8 30 4,f7 31 (.idxS 4 (zT 29) (zT 30)),y9 32 0 31,A0 33 32,d8 5 33] [1,3,4,5] (zS [d8 34 5,o8 35 34 .neq (G4 1),d8 36 35,r8 37 36 (.mov (zT 5)),r8 38 36 (.bin .neq (zT 37) (G4 8)),f7 39 (.pick (zT 36) (zT 38) zf)] [1,3,4,39] (zC 39 (zS [f7 2 (.mov zf)] [2] .ret) .skip)))) (.ops [d8 22 4,o8 23 22 .add (p9 1),d8 4 23] [1,3,4]))
def ZA:AC:= .seq (zS [d8 6 3,y9 7 1 1,A0 8 7,f7 9 (.len false (zT 8)),o8 10 6 .lss (zT 9)] [1,3,10] (zC 10 .skip (.exit 0))) (.seq (.block 1 (zS [A2 4 0] [1,3,4] (.block 2 (.loop [1,3,4] HP)))) (.ops [d8 11 3,o8 12 11 .add (p9 1),d8 3 12] [1,3]))
def c41:p5:=⟨zS [f7 1 (.box 31 (zT 0)),f7 2 (.mov zf)] [1] (.seq (zS [A2 3 0] [1,3] (.block 0 (.loop [1,3] ZA))) (zS [y9 40 0 1,A0 41 40,o8 42 41 .leq (p9 101),d8 2 42] [2] .ret)),43,[(2,none)],true⟩
def c42:p5:=⟨zS [f7 1 (.box 55 (zT 0)),f7 2 (.mov (.const (.slice none 0 0)))] [1] (.seq (zS [y9 3 0 1,A0 4 3] [1,4] (zC 4 (zS [y9 5 1 1,A0 6 5,V8 7 52 6,d8 2 7] [2] .ret) .skip)) (zS [f7 8 (.mkRow 53 4 0 [(.int .u8 0),(.bool false),(.int .i64 0),(.int .i64 0)] []),y9 9 1 1,A0 10 9,f7 11 (.app 53 4 24 (zT 8) (zT 10)),d8 2 11] [2] .ret)),12,[(2,none)],true⟩
def c43:p5:=⟨zS [f7 2 (.mov zf)] [0] (zS [d8 3 0,o8 4 3 .geq (p9 1),d8 5 4,r8 6 5 (.mov (zT 0)),r8 7 5 (.bin .leq (zT 6) (p9 6)),f7 8 (.pick (zT 5) (zT 7) zf),d8 2 8] [2] .ret),9,[(2,none)],true⟩
def c44:p5:=⟨zS [f7 2 (.mov zf)] [0] (zS [d8 3 0,f7 4 (.bin .geq (zT 3) (p9 (-100))),d8 5 4,r8 6 5 (.mov (zT 0)),r8 7 5 (.bin .leq (zT 6) (p9 100)),f7 8 (.pick (zT 5) (zT 7) zf),d8 2 8] [2] .ret),9,[(2,none)],true⟩
def c45:p5:=⟨zS [f7 1 (.box 31 (zT 0)),f7 2 (.mov (.const .nilFunc))] [1] (zS [f7 3 (.mkFn 53 [] [.tmp 1]),d8 2 3] [2] .ret),4,[(2,none)],true⟩
def c46:p5:=⟨zS [f7 4 (.mov zf)] [0,1] (zS [d8 5 0,d8 6 1,f7 7 (.callF 56 [(zT 5),(zT 6)]),o8 8 7 .geq (p9 0),d8 4 8] [4] .ret),9,[(4,none)],true⟩
def c47:p5:=⟨zS [f7 1 (.box 53 (zT 0)),f7 2 (.mov zf)] [1] (zS [y9 3 0 1,A0 4 3,o8 5 4 .neq (G4 1),d8 6 5,r8 7 6 (.fldA 0 (zT 1)),r8 8 6 (.load none (zT 7)),r8 9 6 (.bin .neq (zT 8) (G4 8)),f7 10 (.pick (zT 6) (zT 9) zf),d8 2 10] [2] .ret),11,[(2,none)],true⟩
def ZB:AC:= (.ops [f7 7 (.alloc 53 [(1,(.int .u8 0)),(1,(.bool false)),(2,(.int .i64 0))]),⟨none,none,.store 4 (zT 7) (zT 21)⟩] [5,7])
def ZC:AC:= (.block 1 (zS [y9 23 0 7,A0 24 23,V8 25 59 24,d8 22 25,Y0 26 22 0,Y0 27 22 1,f7 8 (.alloc 95 [(1,(.string ⟨#[]⟩)),(4,(.int .i64 0)),(1,(.bool false)),(2,(.int .i64 0))]),⟨none,none,.store 8 (zT 8) (zT 26)⟩,d8 9 27] [5,7,8] (zS [y9 28 5 8,A0 29 28,d8 30 29,r8 31 30 (.fldA 1 (zT 7)),r8 32 30 (.load none (zT 31)),r8 33 30 (.un .not (zT 32)),f7 34 (.pick (zT 30) (zT 33) zf),y9 35 1 7,⟨none,none,.store 1 (zT 35) (zT 34)⟩] [5,7,8] (.seq (zS [y9 36 3 8,f7 37 (.idxA 2 1 (zT 36) (p9 1)),A0 38 37,o8 39 38 .gtr (p9 0)] [5,7,39] (zC 39 (.ops [y9 40 3 7,A0 41 40,y9 42 2 7,A0 43 42,y9 44 2 7,⟨none,none,.store 1 (zT 44) (zT 41)⟩,y9 45 3 7,⟨none,none,.store 1 (zT 45) (zT 43)⟩] [5,7]) .skip)) (.ops [A0 46 5,f7 47 (.load (some 4) (zT 7)),f7 48 (.mkRow 53 4 1 [(.int .u8 0),(.bool false),(.int .i64 0),(.int .i64 0)] [(0,4,(zT 47))]),f7 49 (.app 53 4 24 (zT 46) (zT 48)),⟨none,none,.store 1 (zT 5) (zT 49)⟩] [])))))
def c48:p5:=⟨zS [f7 2 (.mov (.const (.slice none 0 0))),A2 3 0] [0,2,3] (.seq (zS [d8 10 0,V8 11 57 10,d8 4 11] [0,2,3,4] (zS [d8 12 4,o8 13 12 .neq (p9 0)] [0,2,3,4,13] (zC 13 (zS [d8 14 4,f7 2 (.mov (.const (.slice none 0 0))),d8 3 14] [2,3] .ret) .skip))) (zS [d8 15 0,f7 16 (.len false (zT 15)),f7 17 (.mkSlice 53 4 24 [(.int .u8 0),(.bool false),(.int .i64 0),(.int .i64 0)] (p9 0) (zT 16)),f7 5 (.alloc 50 [(1,(.slice none 0 0))]),⟨none,none,.store 1 (zT 5) (zT 17)⟩] [0,2,3,5] (.seq (zS [d8 18 0,V8 19 58 18] [2,3,5,19] (.block 0 (.rangeF (zT 19) [20,21] [2,3,5] ZB ZC))) (zS [A0 50 5,d8 2 50,A2 3 0] [2,3] .ret)))),51,[(2,none),(3,none)],true⟩
def c49:p5:=⟨zS [f7 2 (.mov (.const (.slice none 0 0)))] [0] (.seq (zS [d8 3 0,f7 4 (.eqNil 1 false (zT 3) (.const (.slice none 0 0)))] [0,4] (zC 4 (zS [f7 2 (.mov (.const (.slice none 0 0)))] [2] .ret) .skip)) (zS [f7 5 (.mkRow 53 4 0 [(.int .u8 0),(.bool false),(.int .i64 0),(.int .i64 0)] []),d8 6 0,f7 7 (.app 53 4 24 (zT 5) (zT 6)),d8 2 7] [2] .ret)),8,[(2,none)],true⟩
def c50:p5:=⟨zS [A2 2 0,A2 3 0] [0] (.seq (zS [d8 6 0,V8 7 60 6,o8 8 7 .neq (p9 0)] [0,8] (zC 8 (zS [d8 9 0,V8 10 60 9,A2 2 0,d8 3 10] [2,3] .ret) .skip)) (zS [d8 12 0,V8 13 61 12,d8 11 13,Y0 14 11 0,Y0 15 11 1,d8 4 14,d8 5 15] [4] (zS [d8 16 4,d8 2 16,A2 3 0] [2,3] .ret))),17,[(2,none),(3,none)],true⟩
def c51:p5:=⟨zS [A2 2 0,A2 3 0] [0] (.seq (zS [d8 6 0,V8 7 60 6,o8 8 7 .neq (p9 0)] [0,8] (zC 8 (zS [d8 9 0,V8 10 60 9,A2 2 0,d8 3 10] [2,3] .ret) .skip)) (zS [d8 12 0,V8 13 61 12,d8 11 13,Y0 14 11 0,Y0 15 11 1,d8 4 14,d8 5 15] [5] (zS [d8 16 5,d8 2 16,A2 3 0] [2,3] .ret))),17,[(2,none),(3,none)],true⟩
def ZD:AC:= .seq (zS [d8 8 4,o8 9 8 .geq (p9 0)] [0,3,4,9] (zC 9 .skip (.exit 0))) (.seq (.block 1 (.ops [d8 12 3,d8 13 0,d8 14 4,f7 15 (.idxS 4 (zT 13) (zT 14)),f7 16 (.load (some 4) (zT 15)),V8 17 62 16,f7 18 (.mkRow 53 4 1 [(.int .u8 0),(.bool false),(.int .i64 0),(.int .i64 0)] [(0,4,(zT 17))]),f7 19 (.app 53 4 24 (zT 12) (zT 18)),d8 3 19] [0,3,4])) (.ops [d8 10 4,o8 11 10 .sub (p9 1),d8 4 11] [0,3,4]))
def c52:p5:=⟨zS [f7 2 (.mov (.const (.slice none 0 0)))] [0] (zS [f7 3 (.mov (.const (.slice none 0 0)))] [0,3] (.seq (zS [d8 5 0,f7 6 (.len false (zT 5)),o8 7 6 .sub (p9 1),d8 4 7] [0,3,4] (.block 0 (.loop [0,3,4] ZD))) (zS [d8 20 3,d8 2 20] [2] .ret))),21,[(2,none)],true⟩
def HQ:AC:= zS [o8 15 14 .lss (zT 13)] [0,3,12,13,14,15] (.seq (zC 15 .skip (.exit 0)) (.seq (.block 1 (zS [d8 16 14,f7 17 (.idxS 2 (zT 12) (zT 14)),f7 18 (.load (some 2) (zT 17)),f7 5 (.alloc 55 [(1,(.bool false)),(1,(.slice none 0 0))]),d8 4 16,⟨none,none,.store 2 (zT 5) (zT 18)⟩] [0,3,4,5,12,13,14] (zS [d8 19 3,f7 20 (.build [(.int .i64 0),(.int .i64 0),(.int .i64 0)] [(0,1,(zT 19))]),f7 6 (.alloc 78 [(3,(.int .i64 0))]),⟨none,none,.store 3 (zT 6) (zT 20)⟩] [0,3,4,5,6,12,13,14] (zS [y9 22 1 5,A0 23 22,V8 24 54 23,d8 21 24,Y0 25 21 0,Y0 26 21 1,d8 7 25,d8 8 26] [0,3,4,5,6,7,8,12,13,14] (.seq (.block 2 (zS [d8 35 8,o8 36 35 .neq (p9 0),d8 34 36] [0,3,4,5,6,7,8,12,13,14,34] (zC 34 (.ops [d8 37 8,y9 38 2 6,⟨none,none,.store 1 (zT 38) (zT 37)⟩] [0,4,6,12,13,14]) (zS [d8 40 7,d8 41 3,o8 42 40 .neq (zT 41),d8 39 42] [0,4,5,6,12,13,14,39] (zC 39 (.ops [y9 43 2 6,⟨none,none,.store 1 (zT 43) (p9 26)⟩] [0,4,6,12,13,14]) (.ops [y9 28 1 5,A0 29 28,V8 30 55 29,d8 27 30,Y0 31 27 0,Y0 32 27 1,y9 33 1 6,⟨none,none,.store 1 (zT 33) (zT 31)⟩] [0,4,6,12,13,14])))))) (.seq (zS [d8 44 0,d8 45 4,f7 46 (.load (some 3) (zT 6)),f7 47 (.callV (zT 44) [(zT 45),(zT 46)]),f7 48 (.un .not (zT 47)),d8 49 48,B8 50 49 (.fldA 2 (zT 6)),B8 51 49 (.load none (zT 50)),B8 52 49 (.bin .neq (zT 51) (p9 0)),f7 53 (.pick (zT 49) zt (zT 52))] [0,6,12,13,14,53] (zC 53 .ret .skip)) (.ops [y9 54 1 6,A0 55 54,d8 3 55] [0,3,12,13,14]))))))) (.ops [o8 56 14 .add (p9 1),d8 14 56] [0,3,12,13,14])))
def c53:p5:=⟨zS [y9 9 0 1,A0 10 9,d8 3 10] [0,1,3] (zS [y9 11 1 1,A0 12 11,f7 13 (.len false (zT 12)),A2 14 0] [0,3,12,13,14] (.block 0 (.loop [0,3,12,13,14] HQ))),57,[],true⟩
def c54:p5:=⟨zS [A2 2 0,A2 3 0] [0] (.seq (zS [d8 7 0,V8 8 57 7,d8 4 8] [0,4] (zS [d8 9 4,o8 10 9 .neq (p9 0)] [0,4,10] (zC 10 (zS [d8 11 4,A2 2 0,d8 3 11] [2,3] .ret) .skip))) (zS [d8 13 0,V8 14 63 13,d8 12 14,Y0 15 12 0,Y0 16 12 1,d8 5 15,d8 6 16] [5] (zS [d8 17 5,d8 2 17,A2 3 0] [2,3] .ret))),18,[(2,none),(3,none)],true⟩
def c55:p5:=⟨zS [A2 2 0,A2 3 0] [0] (.seq (zS [d8 7 0,V8 8 57 7,d8 4 8] [0,4] (zS [d8 9 4,o8 10 9 .neq (p9 0)] [0,4,10] (zC 10 (zS [d8 11 4,A2 2 0,d8 3 11] [2,3] .ret) .skip))) (zS [d8 13 0,V8 14 63 13,d8 12 14,Y0 15 12 0,Y0 16 12 1,d8 5 15,d8 6 16] [6] (zS [d8 17 6,d8 2 17,A2 3 0] [2,3] .ret))),18,[(2,none),(3,none)],true⟩
def tP:AC:= zS [o8 9 8 .lss (zT 7)] [0,1,7,8,9] (.seq (zC 9 .skip (.exit 0)) (.seq (.block 1 (zS [d8 10 8,d8 5 10] [0,1,5,7,8] (zS [d8 11 1,d8 12 0,d8 13 5,f7 14 (.idxS 4 (zT 12) (zT 13)),f7 15 (.load (some 4) (zT 14)),f7 16 (.callV (zT 11) [.tmp 15])] [0,1,5,7,8,16] (zC 16 (zS [d8 17 5,d8 4 17] [4] .ret) .skip)))) (.ops [o8 18 8 .add (p9 1),d8 8 18] [0,1,7,8])))
def c56:p5:=⟨zS [A2 4 0] [0,1] (.seq (zS [d8 6 0,f7 7 (.len false (zT 6)),A2 8 0] [0,1,7,8] (.block 0 (.loop [0,1,7,8] tP))) (zS [f7 4 (.mov (p9 (-1)))] [4] .ret)),19,[(4,none)],true⟩
def c57:p5:=⟨zS [A2 2 0] [0] (.seq (zS [d8 5 0,f7 6 (.len false (zT 5)),o8 7 6 .gtr (p9 200)] [0,7] (zC 7 (zS [A2 2 4] [2] .ret) .skip)) (.seq (zS [d8 8 0,f7 9 (.callF 46 [(zT 8),(.func 64)])] [0,9] (zC 9 (zS [A2 2 8] [2] .ret) .skip)) (.seq (zS [d8 11 0,V8 12 63 11,d8 10 12,Y0 13 10 0,Y0 14 10 1,d8 3 13,d8 4 14] [3,4] (zS [d8 15 3,d8 16 4,f7 17 (.mm true (zT 15) (zT 16)),o8 18 17 .gtr (p9 200)] [18] (zC 18 (zS [A2 2 4] [2] .ret) .skip))) (zS [A2 2 0] [2] .ret)))),19,[(2,none)],true⟩
def c58:p5:=⟨zS [f7 1 (.box 50 (zT 0)),f7 2 (.mov (.const .nilFunc))] [1] (zS [f7 3 (.mkFn 66 [] [.tmp 1]),d8 2 3] [2] .ret),4,[(2,none)],false⟩
def c59:p5:=⟨zS [f7 2 (.alloc 95 [(1,(.string ⟨#[]⟩)),(4,(.int .i64 0)),(1,(.bool false)),(2,(.int .i64 0))]),f7 3 (.mov zf)] [0,2] (zS [f7 8 (.build [(.int .i64 0),(.int .i64 0)] [(0,1,(p9 2)),(1,1,(p9 4))]),f7 9 (.build [(.int .i64 0),(.int .i64 0)] [(0,1,(p9 1)),(1,1,(p9 6))]),f7 4 (.alloc 93 [(2,(.int .i64 0))]),f7 5 (.alloc 93 [(2,(.int .i64 0))]),⟨none,none,.store 2 (zT 4) (zT 8)⟩,⟨none,none,.store 2 (zT 5) (zT 9)⟩] [0,2,4,5] (zS [f7 10 (.build [(.int .i64 0),(.int .i64 0)] [(0,1,(p9 1)),(1,1,(p9 200))]),f7 6 (.alloc 93 [(2,(.int .i64 0))]),⟨none,none,.store 2 (zT 6) (zT 10)⟩] [0,2,4,5,6] (zS [f7 11 (.build [(.int .i64 0),(.int .i64 0)] []),f7 12 (.build [(.int .i64 0),(.int .i64 0)] []),f7 13 (.build [(.string ⟨#[]⟩),(.int .i64 0),(.int .i64 0),(.int .i64 0),(.int .i64 0),(.bool false),(.int .i64 0),(.int .i64 0)] [(0,1,(.const (.string ⟨#[]⟩))),(1,2,(zT 11)),(3,2,(zT 12)),(5,1,zt),(6,1,(p9 1)),(7,1,(p9 1))]),f7 14 (.build [(.int .i64 0),(.int .i64 0)] []),f7 15 (.build [(.int .i64 0),(.int .i64 0)] []),f7 16 (.build [(.string ⟨#[]⟩),(.int .i64 0),(.int .i64 0),(.int .i64 0),(.int .i64 0),(.bool false),(.int .i64 0),(.int .i64 0)] [(0,1,(.const (.string ⟨#[]⟩))),(1,2,(zT 14)),(3,2,(zT 15)),(5,1,zf),(6,1,(p9 0)),(7,1,(p9 1))]),f7 17 (.load (some 2) (zT 4)),f7 18 (.build [(.int .i64 0),(.int .i64 0)] []),f7 19 (.build [(.string ⟨#[]⟩),(.int .i64 0),(.int .i64 0),(.int .i64 0),(.int .i64 0),(.bool false),(.int .i64 0),(.int .i64 0)] [(0,1,(.const (.string ⟨#[102]⟩))),(1,2,(zT 17)),(3,2,(zT 18)),(5,1,zt),(6,1,(p9 2)),(7,1,(p9 1))]),f7 20 (.load (some 2) (zT 4)),f7 21 (.build [(.int .i64 0),(.int .i64 0)] []),f7 22 (.build [(.string ⟨#[]⟩),(.int .i64 0),(.int .i64 0),(.int .i64 0),(.int .i64 0),(.bool false),(.int .i64 0),(.int .i64 0)] [(0,1,(.const (.string ⟨#[108]⟩))),(1,2,(zT 20)),(3,2,(zT 21)),(5,1,zt),(6,1,(p9 2)),(7,1,(p9 1))]),f7 23 (.load (some 2) (zT 4)),f7 24 (.build [(.int .i64 0),(.int .i64 0)] []),f7 25 (.build [(.string ⟨#[]⟩),(.int .i64 0),(.int .i64 0),(.int .i64 0),(.int .i64 0),(.bool false),(.int .i64 0),(.int .i64 0)] [(0,1,(.const (.string ⟨#[109]⟩))),(1,2,(zT 23)),(3,2,(zT 24)),(5,1,zt),(6,1,(p9 1)),(7,1,(p9 2))]),f7 26 (.load (some 2) (zT 5)),f7 27 (.load (some 2) (zT 5)),f7 28 (.build [(.string ⟨#[]⟩),(.int .i64 0),(.int .i64 0),(.int .i64 0),(.int .i64 0),(.bool false),(.int .i64 0),(.int .i64 0)] [(0,1,(.const (.string ⟨#[120]⟩))),(1,2,(zT 26)),(3,2,(zT 27)),(5,1,zt),(6,1,(p9 3)),(7,1,(p9 3))]),f7 29 (.load (some 2) (zT 5)),
  f7 30 (.load (some 2) (zT 5)),f7 31 (.build [(.string ⟨#[]⟩),(.int .i64 0),(.int .i64 0),(.int .i64 0),(.int .i64 0),(.bool false),(.int .i64 0),(.int .i64 0)] [(0,1,(.const (.string ⟨#[121]⟩))),(1,2,(zT 29)),(3,2,(zT 30)),(5,1,zt),(6,1,(p9 3)),(7,1,(p9 3))]),f7 32 (.build [(.int .i64 0),(.int .i64 0)] []),f7 33 (.build [(.int .i64 0),(.int .i64 0)] []),f7 34 (.build [(.string ⟨#[]⟩),(.int .i64 0),(.int .i64 0),(.int .i64 0),(.int .i64 0),(.bool false),(.int .i64 0),(.int .i64 0)] [(0,1,(.const (.string ⟨#[115]⟩))),(1,2,(zT 32)),(3,2,(zT 33)),(5,1,zt),(6,1,(p9 1)),(7,1,(p9 1))]),f7 35 (.load (some 2) (zT 6)),f7 36 (.build [(.int .i64 0),(.int .i64 0)] []),f7 37 (.build [(.string ⟨#[]⟩),(.int .i64 0),(.int .i64 0),(.int .i64 0),(.int .i64 0),(.bool false),(.int .i64 0),(.int .i64 0)] [(0,1,(.const (.string ⟨#[]⟩))),(1,2,(zT 35)),(3,2,(zT 36)),(5,1,zf),(6,1,(p9 0)),(7,1,(p9 2))]),f7 38 (.load (some 2) (zT 6)),f7 39 (.build [(.int .i64 0),(.int .i64 0)] []),f7 40 (.build [(.string ⟨#[]⟩),(.int .i64 0),(.int .i64 0),(.int .i64 0),(.int .i64 0),(.bool false),(.int .i64 0),(.int .i64 0)] [(0,1,(.const (.string ⟨#[111]⟩))),(1,2,(zT 38)),(3,2,(zT 39)),(5,1,zt),(6,1,(p9 2)),(7,1,(p9 0))]),f7 41 (.mkRow 95 8 10 [(.string ⟨#[]⟩),(.int .i64 0),(.int .i64 0),(.int .i64 0),(.int .i64 0),(.bool false),(.int .i64 0),(.int .i64 0)] [(0,8,(zT 13)),(8,8,(zT 16)),(16,8,(zT 19)),(24,8,(zT 22)),(32,8,(zT 25)),(40,8,(zT 28)),(48,8,(zT 31)),(56,8,(zT 34)),(64,8,(zT 37)),(72,8,(zT 40))]),d8 7 41] [0,2,7] (.seq (zS [d8 42 0,o8 43 42 .lss (G4 1),d8 44 43,B8 45 44 (.mov (zT 0)),B8 46 44 (.convI .i64 (zT 45)),B8 47 44 (.mov (zT 7)),B8 48 44 (.len false (zT 47)),B8 49 44 (.bin .gtr (zT 46) (zT 48)),f7 50 (.pick (zT 44) zt (zT 49))] [0,2,7,50] (zC 50 (zS [f7 51 (.build [(.string ⟨#[]⟩),(.int .i64 0),(.int .i64 0),(.int .i64 0),(.int .i64 0),(.bool false),(.int .i64 0),(.int .i64 0)] []),⟨none,none,.store 8 (zT 2) (zT 51)⟩,f7 3 (.mov zf)] [2,3] .ret) .skip)) (zS [d8 52 7,d8 53 0,o8 54 53 .sub (G4 1),f7 55 (.idxS 8 (zT 52) (zT 54)),f7 56 (.load (some 8) (zT 55)),⟨none,none,.store 8 (zT 2) (zT 56)⟩,f7 3 (.mov zt)] [2,3] .ret))))),57,[(2,(some (some 8))),(3,none)],true⟩
def HS:AC:= .seq (zS [d8 9 3,d8 10 0,f7 11 (.len false (zT 10)),o8 12 9 .lss (zT 11)] [0,3,12] (zC 12 .skip (.exit 0))) (.seq (.block 1 (zS [d8 15 0,d8 16 3,f7 17 (.idxS 4 (zT 15) (zT 16)),f7 18 (.load (some 4) (zT 17)),V8 19 67 18,o8 20 19 .neq (p9 0)] [0,3,20] (zC 20 (zS [A2 2 8] [2] .ret) .skip))) (.ops [d8 13 3,o8 14 13 .add (p9 1),d8 3 14] [0,3]))
def c60:p5:=⟨zS [A2 2 0] [0] (.seq (zS [d8 6 0,f7 7 (.len false (zT 6)),o8 8 7 .gtr (p9 200)] [0,8] (zC 8 (zS [A2 2 4] [2] .ret) .skip)) (.seq (zS [A2 3 0] [0,3] (.block 0 (.loop [0,3] HS))) (zS [d8 22 0,V8 23 61 22,d8 21 23,Y0 24 21 0,Y0 25 21 1,d8 4 24,d8 5 25] [4,5] (.seq (zS [d8 26 4,o8 27 26 .gtr (p9 200),d8 28 27,B8 29 28 (.mov (zT 5)),B8 30 28 (.bin .gtr (zT 29) (p9 200)),f7 31 (.pick (zT 28) zt (zT 30))] [31] (zC 31 (zS [A2 2 4] [2] .ret) .skip)) (zS [A2 2 0] [2] .ret))))),32,[(2,none)],true⟩
def ZE:AC:= .seq (zS [d8 7 6,d8 8 0,f7 9 (.len false (zT 8)),o8 10 7 .lss (zT 9)] [0,4,5,6,10] (zC 10 .skip (.exit 0))) (.seq (.block 1 (zS [d8 13 4,d8 14 0,d8 15 6,f7 16 (.idxS 4 (zT 14) (zT 15)),f7 17 (.load (some 4) (zT 16)),V8 18 68 17,o8 19 13 .add (zT 18),d8 4 19] [0,4,5,6] (.ops [d8 20 5,d8 21 0,d8 22 6,f7 23 (.idxS 4 (zT 21) (zT 22)),f7 24 (.load (some 4) (zT 23)),V8 25 69 24,o8 26 20 .add (zT 25),d8 5 26] [0,4,5,6]))) (.ops [d8 11 6,o8 12 11 .add (p9 1),d8 6 12] [0,4,5,6]))
def c61:p5:=⟨zS [A2 2 0,A2 3 0] [0] (zS [A2 4 0,A2 5 0] [0,4,5] (.seq (zS [A2 6 0] [0,4,5,6] (.block 0 (.loop [0,4,5,6] ZE))) (zS [d8 27 4,d8 28 5,d8 2 27,d8 3 28] [2,3] .ret))),29,[(2,none),(3,none)],true⟩
def c62:p5:=⟨zS [f7 1 (.box 53 (zT 0)),f7 2 (.alloc 53 [(1,(.int .u8 0)),(1,(.bool false)),(2,(.int .i64 0))])] [1,2] (.seq (zS [y9 3 0 1,A0 4 3,o8 5 4 .neq (G4 2),d8 6 5,r8 7 6 (.fldA 0 (zT 1)),r8 8 6 (.load none (zT 7)),r8 9 6 (.bin .neq (zT 8) (G4 9)),f7 10 (.pick (zT 6) (zT 9) zf)] [1,2,10] (zC 10 (.ops [y9 11 1 1,A0 12 11,f7 13 (.un .not (zT 12)),y9 14 1 1,⟨none,none,.store 1 (zT 14) (zT 13)⟩] [1,2]) .skip)) (.seq (zS [y9 15 0 1,A0 16 15,o8 17 16 .eql (G4 6),d8 18 17,B8 19 18 (.fldA 0 (zT 1)),B8 20 18 (.load none (zT 19)),B8 21 18 (.bin .eql (zT 20) (G4 7)),f7 22 (.pick (zT 18) zt (zT 21))] [1,2,22] (zC 22 (.ops [y9 23 3 1,A0 24 23,y9 25 2 1,A0 26 25,y9 27 2 1,⟨none,none,.store 1 (zT 27) (zT 24)⟩,y9 28 3 1,⟨none,none,.store 1 (zT 28) (zT 26)⟩] [1,2]) .skip)) (zS [f7 29 (.load (some 4) (zT 1)),⟨none,none,.store 4 (zT 2) (zT 29)⟩] [2] .ret))),30,[(2,(some (some 4)))],true⟩
def ZF:AC:= zS [o8 11 10 .lss (zT 9)] [2,3,8,9,10,11] (.seq (zC 11 .skip (.exit 0)) (.seq (.block 1 (zS [f7 12 (.idxS 4 (zT 8) (zT 10)),f7 13 (.load (some 4) (zT 12)),f7 5 (.alloc 53 [(1,(.int .u8 0)),(1,(.bool false)),(2,(.int .i64 0))]),⟨none,none,.store 4 (zT 5) (zT 13)⟩] [2,3,5,8,9,10] (zS [y9 15 0 5,A0 16 15,V8 17 59 16,d8 14 17,Y0 18 14 0,Y0 19 14 1,f7 6 (.alloc 95 [(1,(.string ⟨#[]⟩)),(4,(.int .i64 0)),(1,(.bool false)),(2,(.int .i64 0))]),⟨none,none,.store 8 (zT 6) (zT 18)⟩,d8 7 19] [2,3,5,6,8,9,10] (zS [d8 20 2,f7 21 (.load (some 4) (zT 5)),y9 22 6 6,A0 23 22,f7 24 (.callF 70 [(zT 21),(zT 23)]),o8 25 20 .add (zT 24),d8 2 25] [2,3,5,6,8,9,10] (.ops [d8 26 3,f7 27 (.load (some 4) (zT 5)),y9 28 7 6,A0 29 28,f7 30 (.callF 70 [(zT 27),(zT 29)]),o8 31 26 .add (zT 30),d8 3 31] [2,3,8,9,10]))))) (.ops [o8 32 10 .add (p9 1),d8 10 32] [2,3,8,9,10])))
def c63:p5:=⟨zS [A2 2 0,A2 3 0] [0,2,3] (.seq (zS [d8 8 0,f7 9 (.len false (zT 8)),A2 10 0] [2,3,8,9,10] (.block 0 (.loop [2,3,8,9,10] ZF))) (zS [d8 33 2,d8 34 3,d8 2 33,d8 3 34] [2,3] .ret)),35,[(2,none),(3,none)],true⟩
def c64:p5:=⟨zS [f7 1 (.box 53 (zT 0)),f7 2 (.mov zf)] [1] (zS [f7 3 (.load (some 4) (zT 1)),V8 4 65 3,o8 5 4 .neq (p9 0),d8 2 5] [2] .ret),6,[(2,none)],true⟩
def c65:p5:=⟨zS [f7 1 (.box 53 (zT 0)),A2 2 0] [1] (zS [y9 6 0 1,A0 7 6,V8 8 59 7,d8 5 8,Y0 9 5 0,Y0 10 5 1,f7 3 (.alloc 95 [(1,(.string ⟨#[]⟩)),(4,(.int .i64 0)),(1,(.bool false)),(2,(.int .i64 0))]),⟨none,none,.store 8 (zT 3) (zT 9)⟩,d8 4 10] [1,3,4] (.seq (zS [d8 11 4,f7 12 (.un .not (zT 11)),d8 13 12,B8 14 13 (.fldA 2 (zT 1)),B8 15 13 (.load none (zT 14)),B8 16 13 (.fldA 1 (zT 3)),B8 17 13 (.load (some 2) (zT 16)),B8 18 13 (.callF 71 [(zT 15),(zT 17)]),B8 19 13 (.un .not (zT 18)),f7 20 (.pick (zT 13) zt (zT 19)),d8 21 20,B8 22 21 (.fldA 3 (zT 1)),B8 23 21 (.load none (zT 22)),B8 24 21 (.fldA 3 (zT 3)),B8 25 21 (.load (some 2) (zT 24)),B8 26 21 (.callF 71 [(zT 23),(zT 25)]),B8 27 21 (.un .not (zT 26)),f7 28 (.pick (zT 21) zt (zT 27)),d8 29 28,B8 30 29 (.fldA 1 (zT 1)),B8 31 29 (.load none (zT 30)),B8 32 29 (.mov (zT 31)),r8 33 32 (.fldA 5 (zT 3)),r8 34 32 (.load none (zT 33)),r8 35 32 (.un .not (zT 34)),B8 36 29 (.pick (zT 32) (zT 35) zf),f7 37 (.pick (zT 29) zt (zT 36))] [37] (zC 37 (zS [A2 2 8] [2] .ret) .skip)) (zS [A2 2 0] [2] .ret))),38,[(2,none)],true⟩
def ZG:AC:= .seq (zS [d8 7 3,o8 8 7 .geq (p9 0)] [0,1,3,8] (zC 8 .skip (.exit 0))) (.seq (.block 1 (zS [d8 11 0,d8 12 3,A0 13 1,d8 14 3,f7 15 (.idxS 4 (zT 13) (zT 14)),f7 16 (.load (some 4) (zT 15)),f7 17 (.callV (zT 11) [(zT 12),(zT 16)]),f7 18 (.un .not (zT 17))] [0,1,3,18] (zC 18 .ret .skip))) (.ops [d8 9 3,o8 10 9 .sub (p9 1),d8 3 10] [0,1,3]))
def c66:p5:=⟨zS [A0 4 1,f7 5 (.len false (zT 4)),o8 6 5 .sub (p9 1),d8 3 6] [0,1,3] (.block 0 (.loop [0,1,3] ZG)),19,[],false⟩
def c67:p5:=⟨zS [f7 1 (.box 53 (zT 0)),A2 2 0] [1] (zS [y9 5 2 1,A0 6 5,o8 7 6 .eql (p9 0),d8 8 7,r8 9 8 (.fldA 3 (zT 1)),r8 10 8 (.load none (zT 9)),r8 11 8 (.bin .eql (zT 10) (p9 0)),f7 12 (.pick (zT 8) (zT 11) zf),d8 3 12] [1,3] (zS [f7 4 (.mov zf)] [1,3,4] (.seq (zS [y9 13 0 1,A0 14 13] [1,3,4,14] (.block 0 (.seq (zS [o8 16 14 .eql (G4 1),d8 15 16] [1,3,4,14,15] (zC 15 .skip (.ops [o8 17 14 .eql (G4 8),d8 15 17] [1,3,4,14,15]))) (zC 15 (.ops [d8 18 3,d8 4 18] [4]) (zS [o8 20 14 .eql (G4 2),d8 19 20] [1,3,4,14,19] (zC 19 (.ops [d8 21 3,d8 22 21,r8 23 22 (.fldA 1 (zT 1)),r8 24 22 (.load none (zT 23)),r8 25 22 (.un .not (zT 24)),f7 26 (.pick (zT 22) (zT 25) zf),d8 4 26] [4]) (.seq (zS [o8 28 14 .eql (G4 3),d8 27 28] [1,4,14,27] (zC 27 .skip (zS [o8 29 14 .eql (G4 4),d8 27 29] [1,4,14,27] (zC 27 .skip (.ops [o8 30 14 .eql (G4 5),d8 27 30] [1,4,14,27]))))) (zC 27 (.ops [y9 31 3 1,A0 32 31,o8 33 32 .eql (p9 0),d8 34 33,r8 35 34 (.fldA 2 (zT 1)),r8 36 34 (.load none (zT 35)),r8 37 34 (.bin .geq (zT 36) (p9 2)),f7 38 (.pick (zT 34) (zT 37) zf),d8 39 38,r8 40 39 (.fldA 2 (zT 1)),r8 41 39 (.load none (zT 40)),r8 42 39 (.bin .leq (zT 41) (p9 4)),f7 43 (.pick (zT 39) (zT 42) zf),d8 4 43] [4]) (.seq (zS [o8 45 14 .eql (G4 6),d8 44 45] [1,4,14,44] (zC 44 .skip (.ops [o8 46 14 .eql (G4 7),d8 44 46] [1,4,14,44]))) (zC 44 (.ops [y9 47 2 1,A0 48 47,o8 49 48 .geq (p9 1),d8 50 49,r8 51 50 (.fldA 2 (zT 1)),r8 52 50 (.load none (zT 51)),r8 53 50 (.bin .leq (zT 52) (p9 6)),f7 54 (.pick (zT 50) (zT 53) zf),d8 55 54,r8 56 55 (.fldA 3 (zT 1)),r8 57 55 (.load none (zT 56)),r8 58 55 (.bin .geq (zT 57) (p9 1)),
  f7 59 (.pick (zT 55) (zT 58) zf),d8 60 59,r8 61 60 (.fldA 3 (zT 1)),r8 62 60 (.load none (zT 61)),r8 63 60 (.bin .leq (zT 62) (p9 6)),f7 64 (.pick (zT 60) (zT 63) zf),d8 4 64] [4]) (zS [o8 66 14 .eql (G4 9),d8 65 66] [1,4,14,65] (zC 65 (.ops [y9 67 3 1,A0 68 67,o8 69 68 .eql (p9 0),d8 70 69,r8 71 70 (.fldA 1 (zT 1)),r8 72 70 (.load none (zT 71)),r8 73 70 (.un .not (zT 72)),f7 74 (.pick (zT 70) (zT 73) zf),d8 75 74,r8 76 75 (.fldA 2 (zT 1)),r8 77 75 (.load none (zT 76)),r8 78 75 (.bin .geq (zT 77) (p9 1)),f7 79 (.pick (zT 75) (zT 78) zf),d8 80 79,r8 81 80 (.fldA 2 (zT 1)),r8 82 80 (.load none (zT 81)),r8 83 80 (.bin .leq (zT 82) (p9 200)),f7 84 (.pick (zT 80) (zT 83) zf),d8 4 84] [4]) (zS [o8 86 14 .eql (G4 10),d8 85 86] [1,4,85] (zC 85 (.ops [y9 87 3 1,A0 88 87,o8 89 88 .eql (p9 0),d8 90 89,r8 91 90 (.fldA 2 (zT 1)),r8 92 90 (.load none (zT 91)),r8 93 90 (.bin .geq (zT 92) (p9 1)),f7 94 (.pick (zT 90) (zT 93) zf),d8 95 94,r8 96 95 (.fldA 2 (zT 1)),r8 97 95 (.load none (zT 96)),r8 98 95 (.bin .leq (zT 97) (p9 200)),f7 99 (.pick (zT 95) (zT 98) zf),d8 4 99] [4]) .skip)))))))))))))) (.seq (zS [d8 100 4,f7 101 (.un .not (zT 100))] [101] (zC 101 (zS [A2 2 8] [2] .ret) .skip)) (zS [A2 2 0] [2] .ret))))),102,[(2,none)],true⟩
def c68:p5:=⟨zS [f7 1 (.box 53 (zT 0)),A2 2 0] [1] (.seq (zS [y9 3 0 1,A0 4 3] [1,4] (.block 0 (.seq (zS [o8 6 4 .eql (G4 2),d8 5 6] [1,4,5] (zC 5 .skip (.ops [o8 7 4 .eql (G4 9),d8 5 7] [1,4,5]))) (zC 5 (zS [A2 2 0] [2] .ret) (.seq (zS [o8 9 4 .eql (G4 3),d8 8 9] [1,4,8] (zC 8 .skip (zS [o8 10 4 .eql (G4 4),d8 8 10] [1,4,8] (zC 8 .skip (.ops [o8 11 4 .eql (G4 10),d8 8 11] [1,4,8]))))) (zC 8 (zS [y9 12 2 1,A0 13 12,d8 2 13] [2] .ret) (.seq (zS [o8 15 4 .eql (G4 6),d8 14 15] [1,4,14] (zC 14 .skip (.ops [o8 16 4 .eql (G4 7),d8 14 16] [1,14]))) (zC 14 (zS [y9 17 2 1,A0 18 17,y9 19 3 1,A0 20 19,o8 21 18 .add (zT 20),d8 2 21] [2] .ret) .skip)))))))) (zS [A2 2 1] [2] .ret)),22,[(2,none)],true⟩
def c69:p5:=⟨zS [f7 1 (.box 53 (zT 0)),A2 2 0] [1] (.seq (zS [y9 3 0 1,A0 4 3] [1,4] (.block 0 (zS [o8 6 4 .eql (G4 10),d8 5 6] [1,4,5] (zC 5 (zS [A2 2 0] [2] .ret) (.seq (zS [o8 8 4 .eql (G4 5),d8 7 8] [1,4,7] (zC 7 .skip (.ops [o8 9 4 .eql (G4 9),d8 7 9] [1,4,7]))) (zC 7 (zS [y9 10 2 1,A0 11 10,d8 2 11] [2] .ret) (.seq (zS [o8 13 4 .eql (G4 6),d8 12 13] [1,4,12] (zC 12 .skip (.ops [o8 14 4 .eql (G4 7),d8 12 14] [1,12]))) (zC 12 (zS [y9 15 2 1,A0 16 15,y9 17 3 1,A0 18 17,o8 19 16 .add (zT 18),d8 2 19] [2] .ret) .skip)))))))) (zS [A2 2 1] [2] .ret)),20,[(2,none)],true⟩
def c70:p5:=⟨zS [f7 2 (.box 53 (zT 0)),A2 4 0] [1,2] (zS [y9 5 2 2,A0 6 5,y9 7 2 2,A0 8 7,y9 9 3 2,A0 10 9,o8 11 8 .add (zT 10),f7 12 (.build [(.int .i64 0),(.int .i64 0),(.int .i64 0),(.int .i64 0)] [(0,1,(p9 0)),(1,1,(p9 1)),(2,1,(zT 6)),(3,1,(zT 11))]),d8 13 1,f7 14 (.idxV 4 1 none (zT 12) (zT 13)),d8 4 14] [4] .ret),15,[(4,none)],true⟩
def c71:p5:=⟨zS [f7 3 (.box 93 (zT 1)),f7 4 (.mov zf)] [0,3] (zS [d8 5 0,f7 6 (.idxA 2 1 (zT 3) (p9 0)),A0 7 6,o8 8 5 .geq (zT 7),d8 9 8,r8 10 9 (.mov (zT 0)),r8 11 9 (.idxA 2 1 (zT 3) (p9 1)),r8 12 9 (.load none (zT 11)),r8 13 9 (.bin .leq (zT 10) (zT 12)),f7 14 (.pick (zT 9) (zT 13) zf),d8 4 14] [4] .ret),15,[(4,none)],true⟩
def fns:FuncId→Option p5
 |3=>some c3
 |4=>some c4
 |5=>some c5
 |6=>some c6
 |7=>some c7
 |8=>some c8
 |9=>some c9
 |10=>some c10
 |11=>some c11
 |12=>some c12
 |13=>some sF
 |14=>some c14
 |15=>some c15
 |16=>some c16
 |17=>some c17
 |18=>some c18
 |19=>some c19
 |20=>some c20
 |21=>some c21
 |22=>some c22
 |23=>some c23
 |24=>some c24
 |25=>some c25
 |26=>some c26
 |27=>some c27
 |28=>some c28
 |29=>some c29
 |30=>some c30
 |31=>some c31
 |32=>some c32
 |33=>some c33
 |34=>some yB
 |35=>some c35
 |36=>some c36
 |37=>some c37
 |38=>some c38
 |39=>some c39
 |40=>some c40
 |41=>some c41
 |42=>some c42
 |43=>some c43
 |44=>some c44
 |45=>some c45
 |46=>some c46
 |47=>some c47
 |48=>some c48
 |49=>some c49
 |50=>some c50
 |51=>some c51
 |52=>some c52
 |53=>some c53
 |54=>some c54
 |55=>some c55
 |56=>some c56
 |57=>some c57
 |58=>some c58
 |59=>some c59
 |60=>some c60
 |61=>some c61
 |62=>some c62
 |63=>some c63
 |64=>some c64
 |65=>some c65
 |66=>some c66
 |67=>some c67
 |68=>some c68
 |69=>some c69
 |70=>some c70
 |71=>some c71
 |_=>none
theorem zK {P:Program} {f:FuncId} {c:p5} {fn b} (h1:P.funcs[f]?=some fn) (h2:fn.body=some b) (h3:(fn.name=="runtime.NumGoroutine")=false) (h4:fn.ntmps=c.n) (h5:F9 P c.n b c.code=some c.code) (h6:S2 P fn.results.toList=some c.res):sS P f c:=.code ⟨fn,b,c.code,h1,h2,h3,h4,h5,h6⟩
theorem bE6:DJ Try.prog fns:=by
 intro f af h
 unfold fns at h
 split at h
 ·cases h;exact zK Try.func3 rfl (by kernel_rfl) rfl (by kernel_rfl) (by kernel_rfl)
 ·cases h;exact zK Try.func4 rfl (by kernel_rfl) rfl (by kernel_rfl) (by kernel_rfl)
 ·cases h;exact zK Try.func5 rfl (by kernel_rfl) rfl (by kernel_rfl) (by kernel_rfl)
 ·cases h;exact zK Try.func6 rfl (by kernel_rfl) rfl (by kernel_rfl) (by kernel_rfl)
 ·cases h;exact zK Try.func7 rfl (by kernel_rfl) rfl (by kernel_rfl) (by kernel_rfl)
 ·cases h;exact zK Try.func8 rfl (by kernel_rfl) rfl (by kernel_rfl) (by kernel_rfl)
 ·cases h;exact zK Try.func9 rfl (by kernel_rfl) rfl (by kernel_rfl) (by kernel_rfl)
 ·cases h;exact zK Try.func10 rfl (by kernel_rfl) rfl (by kernel_rfl) (by kernel_rfl)
 ·cases h;exact zK Try.func11 rfl (by kernel_rfl) rfl (by kernel_rfl) (by kernel_rfl)
 ·cases h;exact zK Try.func12 rfl (by kernel_rfl) rfl (by kernel_rfl) (by kernel_rfl)
 ·cases h;exact zK Try.func13 rfl (by kernel_rfl) rfl (by kernel_rfl) (by kernel_rfl)
 ·cases h;exact zK Try.func14 rfl (by kernel_rfl) rfl (by kernel_rfl) (by kernel_rfl)
 ·cases h;exact zK Try.func15 rfl (by kernel_rfl) rfl (by kernel_rfl) (by kernel_rfl)
 ·cases h;exact zK Try.func16 rfl (by kernel_rfl) rfl (by kernel_rfl) (by kernel_rfl)
 ·cases h;exact zK Try.func17 rfl (by kernel_rfl) rfl (by kernel_rfl) (by kernel_rfl)
 ·cases h;exact zK Try.func18 rfl (by kernel_rfl) rfl (by kernel_rfl) (by kernel_rfl)
 ·cases h;exact zK Try.func19 rfl (by kernel_rfl) rfl (by kernel_rfl) (by kernel_rfl)
 ·cases h;exact zK Try.func20 rfl (by kernel_rfl) rfl (by kernel_rfl) (by kernel_rfl)
 ·cases h;exact zK Try.func21 rfl (by kernel_rfl) rfl (by kernel_rfl) (by kernel_rfl)
 ·cases h;exact zK Try.func22 rfl (by kernel_rfl) rfl (by kernel_rfl) (by kernel_rfl)
 ·cases h;exact zK Try.func23 rfl (by kernel_rfl) rfl (by kernel_rfl) (by kernel_rfl)
 ·cases h;exact zK Try.func24 rfl (by kernel_rfl) rfl (by kernel_rfl) (by kernel_rfl)
 ·cases h;exact zK Try.func25 rfl (by kernel_rfl) rfl (by kernel_rfl) (by kernel_rfl)
 ·cases h;exact zK Try.func26 rfl (by kernel_rfl) rfl (by kernel_rfl) (by kernel_rfl)
 ·cases h;exact zK Try.func27 rfl (by kernel_rfl) rfl (by kernel_rfl) (by kernel_rfl)
 ·cases h;exact zK Try.func28 rfl (by kernel_rfl) rfl (by kernel_rfl) (by kernel_rfl)
 ·cases h;exact zK Try.func29 rfl (by kernel_rfl) rfl (by kernel_rfl) (by kernel_rfl)
 ·cases h;exact zK Try.func30 rfl (by kernel_rfl) rfl (by kernel_rfl) (by kernel_rfl)
 ·cases h;exact zK Try.func31 rfl (by kernel_rfl) rfl (by kernel_rfl) (by kernel_rfl)
 ·cases h;exact zK Try.func32 rfl (by kernel_rfl) rfl (by kernel_rfl) (by kernel_rfl)
 ·cases h;exact zK Try.func33 rfl (by kernel_rfl) rfl (by kernel_rfl) (by kernel_rfl)
 ·cases h;exact zK Try.func34 rfl (by kernel_rfl) rfl (by kernel_rfl) (by kernel_rfl)
 ·cases h;exact zK Try.func35 rfl (by kernel_rfl) rfl (by kernel_rfl) (by kernel_rfl)
 ·cases h;exact zK Try.func36 rfl (by kernel_rfl) rfl (by kernel_rfl) (by kernel_rfl)
 ·cases h;exact zK Try.func37 rfl (by kernel_rfl) rfl (by kernel_rfl) (by kernel_rfl)
 ·cases h;exact zK Try.func38 rfl (by kernel_rfl) rfl (by kernel_rfl) (by kernel_rfl)
 ·cases h;exact zK Try.func39 rfl (by kernel_rfl) rfl (by kernel_rfl) (by kernel_rfl)
 ·cases h;exact zK Try.func40 rfl (by kernel_rfl) rfl (by kernel_rfl) (by kernel_rfl)
 ·cases h;exact zK Try.func41 rfl (by kernel_rfl) rfl (by kernel_rfl) (by kernel_rfl)
 ·cases h;exact zK Try.func42 rfl (by kernel_rfl) rfl (by kernel_rfl) (by kernel_rfl)
 ·cases h;exact zK Try.func43 rfl (by kernel_rfl) rfl (by kernel_rfl) (by kernel_rfl)
 ·cases h;exact zK Try.func44 rfl (by kernel_rfl) rfl (by kernel_rfl) (by kernel_rfl)
 ·cases h;exact zK Try.func45 rfl (by kernel_rfl) rfl (by kernel_rfl) (by kernel_rfl)
 ·cases h;exact zK Try.func46 rfl (by kernel_rfl) rfl (by kernel_rfl) (by kernel_rfl)
 ·cases h;exact zK Try.func47 rfl (by kernel_rfl) rfl (by kernel_rfl) (by kernel_rfl)
 ·cases h;exact zK Try.func48 rfl (by kernel_rfl) rfl (by kernel_rfl) (by kernel_rfl)
 ·cases h;exact zK Try.func49 rfl (by kernel_rfl) rfl (by kernel_rfl) (by kernel_rfl)
 ·cases h;exact zK Try.func50 rfl (by kernel_rfl) rfl (by kernel_rfl) (by kernel_rfl)
 ·cases h;exact zK Try.func51 rfl (by kernel_rfl) rfl (by kernel_rfl) (by kernel_rfl)
 ·cases h;exact zK Try.func52 rfl (by kernel_rfl) rfl (by kernel_rfl) (by kernel_rfl)
 ·cases h;exact zK Try.func53 rfl (by kernel_rfl) rfl (by kernel_rfl) (by kernel_rfl)
 ·cases h;exact zK Try.func54 rfl (by kernel_rfl) rfl (by kernel_rfl) (by kernel_rfl)
 ·cases h;exact zK Try.func55 rfl (by kernel_rfl) rfl (by kernel_rfl) (by kernel_rfl)
 ·cases h;exact zK Try.func56 rfl (by kernel_rfl) rfl (by kernel_rfl) (by kernel_rfl)
 ·cases h;exact zK Try.func57 rfl (by kernel_rfl) rfl (by kernel_rfl) (by kernel_rfl)
 ·cases h;exact zK Try.func58 rfl (by kernel_rfl) rfl (by kernel_rfl) (by kernel_rfl)
 ·cases h;exact zK Try.func59 rfl (by kernel_rfl) rfl (by kernel_rfl) (by kernel_rfl)
 ·cases h;exact zK Try.func60 rfl (by kernel_rfl) rfl (by kernel_rfl) (by kernel_rfl)
 ·cases h;exact zK Try.func61 rfl (by kernel_rfl) rfl (by kernel_rfl) (by kernel_rfl)
 ·cases h;exact zK Try.func62 rfl (by kernel_rfl) rfl (by kernel_rfl) (by kernel_rfl)
 ·cases h;exact zK Try.func63 rfl (by kernel_rfl) rfl (by kernel_rfl) (by kernel_rfl)
 ·cases h;exact zK Try.func64 rfl (by kernel_rfl) rfl (by kernel_rfl) (by kernel_rfl)
 ·cases h;exact zK Try.func65 rfl (by kernel_rfl) rfl (by kernel_rfl) (by kernel_rfl)
 ·cases h;exact zK Try.func66 rfl (by kernel_rfl) rfl (by kernel_rfl) (by kernel_rfl)
 ·cases h;exact zK Try.func67 rfl (by kernel_rfl) rfl (by kernel_rfl) (by kernel_rfl)
 ·cases h;exact zK Try.func68 rfl (by kernel_rfl) rfl (by kernel_rfl) (by kernel_rfl)
 ·cases h;exact zK Try.func69 rfl (by kernel_rfl) rfl (by kernel_rfl) (by kernel_rfl)
 ·cases h;exact zK Try.func70 rfl (by kernel_rfl) rfl (by kernel_rfl) (by kernel_rfl)
 ·cases h;exact zK Try.func71 rfl (by kernel_rfl) rfl (by kernel_rfl) (by kernel_rfl)
 ·cases h
end Go.Proofs.Ytgohenjcanfolaa
namespace Go.Proofs.Ytgohenjcanfolaa
open Go Go.Itp
open Go.RowKit (Below)
set_option maxRecDepth 100000
set_option linter.unusedVariables false
theorem own:ownKnob Try.prog.godebug=none:=by kernel_rfl
theorem bO2:Try.prog.follows .mixedOrders=true:=by kernel_rfl
abbrev PR (w:World):FuncId→List Value→St→Option (Value × List w7):=fun _ _ _=>none
noncomputable abbrev EN (w:World) (n:Nat):D9:=B6 (L0 w) x8 fns (PR w) n
theorem aG7 (W:World):sC Try.prog (PR W) W:=fun f xs s v bs h=>by cases h
end Go.Proofs.Ytgohenjcanfolaa
namespace Go.Itp
set_option linter.unusedVariables false
set_option linter.unusedSimpArgs false
set_option maxRecDepth 10000
structure q8 where
 kind:Nat
 purl:Bool
 a:Int
 b:Int
abbrev bQ8:List UInt8:= [107,110,105,116]
abbrev bR1:List UInt8:= [112,117,114,108]
abbrev bR2:List UInt8:= [115,108,105,112]
abbrev bR5:List UInt8:= [119,105,116,104]
abbrev bD0:List UInt8:= [121,97,114,110]
abbrev wIn:List UInt8:= [105,110]
abbrev aO5:List UInt8:= [102,114,111,110,116]
abbrev bR0:List UInt8:= [111,118,101,114]
abbrev bR3:List UInt8:= [116,111,103,101,116,104,101,114]
abbrev bK2:List UInt8:= [40,102,105,114,115,116]
abbrev wOn:List UInt8:= [111,110]
abbrev bW9:List UInt8:= [116,111,112,41]
abbrev bQ9:List UInt8:= [109,97,107,101]
abbrev bW8:List UInt8:= [111,117,116]
abbrev wOf:List UInt8:= [111,102]
abbrev w1:List UInt8:= [49]
abbrev bR4:List UInt8:= [112,117,114,108,119,105,115,101]
abbrev aO4:List UInt8:= [99,114,111,115,115]
abbrev aX9:List UInt8:= [98,101,104,105,110,100]
abbrev bQ7:List UInt8:= [99,97,115,116]
abbrev bQ6:List UInt8:= [98,105,110,100]
abbrev bW7:List UInt8:= [111,102,102]
abbrev bK3:List UInt8:= [116,105,109,101,115]
theorem q8.ext' {x y:q8} (h1:x.kind=y.kind) (h2:x.purl=y.purl) (h3:x.a=y.a) (h4:x.b=y.b):x=y:=by
 cases x;cases y;simp_all
instance:DecidableEq q8:=fun x y=>decidable_of_iff (x.kind=y.kind∧x.purl=y.purl∧x.a=y.a∧x.b=y.b) ⟨fun ⟨h1,h2,h3,h4⟩=>q8.ext' h1 h2 h3 h4,fun h=>by subst h;exact ⟨rfl,rfl,rfl,rfl⟩⟩
def qA:q8:=⟨0,false,0,0⟩
instance:Inhabited q8:=⟨qA⟩
def bU (x:q8):Prop:=
 (x.kind=1∨x.kind=8)∧x.a=0∧x.b=0∨
 x.kind=2∧x.purl=false∧x.a=0∧x.b=0∨
 (x.kind=3∨x.kind=4∨x.kind=5)∧2≤x.a∧x.a≤4∧x.b=0∨
 (x.kind=6∨x.kind=7)∧(1≤x.a∧x.a≤6)∧1≤x.b∧x.b≤6∨
 x.kind=9∧x.purl=false∧1≤x.a∧x.a≤200∧x.b=0∨
 x.kind=10∧1≤x.a∧x.a≤200∧x.b=0
instance bQ1 (x:q8):Decidable (bU x):=by unfold bU;infer_instance
def G3 (x:q8):Bool:=decide (bU x)
theorem P2 {x:q8}:G3 x=true↔bU x:=by unfold G3;exact decide_eq_true_iff
theorem bU.bounds {x:q8} (h:bU x):1≤x.kind∧x.kind≤10∧0≤x.a∧x.a≤200∧0≤x.b∧x.b≤6:=by
 unfold bU at h
 omega
def aK9 (p:Bool):List UInt8:=if p=true then bR1 else bQ8
def VE (p:Bool):List (List UInt8):=if p=true then [bR4] else []
def bM2 (x:q8) (n:Int):List (List UInt8):=match x.kind with
 |1=> [aK9 x.purl,Lib.itoa n]
 |2=> [bD0,bR0]
 |3=> [aK9 x.purl,Lib.itoa x.a,bR3,bK2,wOn,bW9]
 |4=> [aK9 x.purl,Lib.itoa x.a,bR3]
 |5=> [bQ9,Lib.itoa x.a,bW8,wOf,w1]++VE x.purl
 |6=> [aO4,Lib.itoa x.a,wIn,aO5,wOf,Lib.itoa x.b]++VE x.purl
 |7=> [aO4,Lib.itoa x.a,aX9,Lib.itoa x.b]++VE x.purl
 |8=> [bR2,Lib.itoa n]++if x.purl=true then [bR5,bD0,wIn,aO5] else []
 |9=> [bQ7,wOn,Lib.itoa x.a]
 |_=> [bQ6,bW7,Lib.itoa x.a]++VE x.purl
def bI4 (x:q8) (n:Int):List (List UInt8):=if 1<n∧x.kind ≠ 1∧x.kind ≠ 8 then [Lib.itoa n,bK3] else []
def aT3 (x:q8) (n:Int):List (List UInt8):=bM2 x n++bI4 x n
def aT2 (x:q8) (n:Int):List UInt8:=join 32 (aT3 x n)
def okW (w:List UInt8):Prop:=(32:UInt8) ∉ w∧(44:UInt8) ∉ w∧(10:UInt8) ∉ w∧w ≠ []
instance bS5 (w:List UInt8):Decidable (okW w):=by unfold okW;infer_instance
end Go.Itp
namespace Go.Itp
set_option linter.unusedVariables false
set_option linter.unusedSimpArgs false
set_option maxRecDepth 10000
def E3 (x:q8):Int:=if x.kind=2∨x.kind=9 then 0 else if x.kind=3∨x.kind=4∨x.kind=10 then x.a else if x.kind=6∨x.kind=7 then x.a+x.b else 1
def H9 (x:q8):Int:=if x.kind=10 then 0 else if x.kind=5∨x.kind=9 then x.a else if x.kind=6∨x.kind=7 then x.a+x.b else 1
def E8 (f:q8→Int):List q8→Int
 | []=>0
 |x::l=>f x+E8 f l
def J5 (L:List q8):Int:=if 200<L.length then 4 else if L.all G3=true then (if 200<E8 E3 L∨200<E8 H9 L then 4 else 0) else 8
def bC1:List q8→List (q8 × Nat)
 | []=> []
 |x::l=>match bC1 l with
  | []=> [(x,1)]
  |(y,n)::r=>if y=x then (x,n+1)::r else (x,1)::(y,n)::r
def phr (r:q8 × Nat):List UInt8:=aT2 r.1 r.2
def jnC:List (List UInt8)→List UInt8
 | []=> []
 | [w]=>w
 |w::ws=>w++44::32::jnC ws
def aF4:List UInt8:= [110,111,116,104,105,110,103]
def aO9 (L:List q8):List UInt8:=if L= [] then aF4 else jnC ((bC1 L).map phr)
def ON (L:List q8):List UInt8 × Int:=if J5 L=0 then (if 2000<(aO9 L).length then ([],4) else (aO9 L,0)) else ([],J5 L)
theorem iV {L:List q8} (h:J5 L=0):L.length≤200∧L.all G3=true∧E8 E3 L≤200∧E8 H9 L≤200:=by
 unfold J5 at h
 split at h
 ·exact absurd h (by decide)
 split at h
 ·split at h
  ·exact absurd h (by decide)
  ·rename_i h1 h2 h3
   exact ⟨by omega,h2,by omega,by omega⟩
 ·exact absurd h (by decide)
def bN0 (b:Bool):List UInt8:=if b=true then [98,97,99,107] else [102,114,111,110,116]
def bN1 (b:Bool):List UInt8:=40::bN0 b++ [41,58]
def bV9:List UInt8:= [114,111,119]
def bN4 (b:Bool) (n:Int):List UInt8:=bV9++32::(Lib.itoa n++32::(bN1 b++ [32]))
def aU2 (b:Bool) (L:List q8) (n:Int):List UInt8 × Int:=if J5 L=0 then (if n<1∨100<n then ([],2) else if (ON L).2=0 then (bN4 b n++(ON L).1++ [46],0) else ([],(ON L).2)) else ([],J5 L)
open Classical in
noncomputable def cB3 (s:List UInt8):Option (Bool × List q8 × Int):=if h:∃ r:Bool × List q8 × Int,aU2 r.1 r.2.1 r.2.2=(s,0) then some (Classical.choose h) else none
abbrev QS:=Int × List (Bool × List q8)
def bC0:List (Bool × List q8)→Int
 | []=>0
 |r::l=>if J5 r.2=0 then bC0 l else J5 r.2
def ZN (c:QS):Int:=if 100<c.2.length then 4 else if c.1<0∨200<c.1 then 8 else bC0 c.2
def lP:Int→List (Bool × List q8)→List UInt8 × Int
 |_,[]=>([],0)
 |n,r::l=>if (aU2 r.1 r.2 n).2=0 then (if (lP (n+1) l).2=0 then ((aU2 r.1 r.2 n).1++10::(lP (n+1) l).1,0) else ([],(lP (n+1) l).2)) else ([],(aU2 r.1 r.2 n).2)
def aL4 (n:Int):List UInt8:= [115,116,97,114,116]++32::([119,105,116,104]++32::(Lib.itoa n++32:: [115,116,105,116,99,104,101,115,46]))
def bE2 (c:QS):List UInt8 × Int:=if ZN c=0 then (if (lP 1 c.2).2=0 then (if 60000<(aL4 c.1++10::(lP 1 c.2).1).length then ([],4) else (aL4 c.1++10::(lP 1 c.2).1,0)) else ([],(lP 1 c.2).2)) else ([],ZN c)
open Classical in
noncomputable def cB4 (s:List UInt8):Option QS:=if h:∃ c:QS,bE2 c=(s,0) then some (Classical.choose h) else none
end Go.Itp
namespace Go.Itp
set_option linter.unusedVariables false
set_option linter.unusedSimpArgs false
set_option maxRecDepth 10000
def fill:List (List UInt8)→List Int→List UInt8
 | [],_=> []
 | [p],_=>p
 |p::ps,[]=>p++35::fill ps []
 |p::ps,v::vs=>p++(Lib.itoa v++fill ps vs)
def aF2 (r:List UInt8):Prop:=∀ c,r.head? =some c→bA7 c=false
instance bL5 (r:List UInt8):Decidable (aF2 r):=decidable_of_iff (r.head?.all (fun c=> !bA7 c)=true) (by
 cases r with
 |nil=>simp[aF2]
 |cons c r=>simp[aF2])
end Go.Itp
namespace Go.Proofs.Ytgohenjcanfolaa
open Go Go.Itp
set_option maxRecDepth 100000
set_option maxHeartbeats 400000
set_option linter.unusedSimpArgs false
set_option linter.unusedVariables false
def fL:Nat→List UInt8
 |3=> [102]|4=> [108]|5=> [109]|6=> [120]|7=> [121]|8=> [115]|10=> [111]
 |_=> []
def fA0:Nat→Int
 |3=>2|4=>2|5=>2|6=>1|7=>1|9=>1|10=>1
 |_=>0
def fA1:Nat→Int
 |3=>4|4=>4|5=>4|6=>6|7=>6|9=>200|10=>200
 |_=>0
def fB0:Nat→Int
 |6=>1|7=>1
 |_=>0
def WI:Nat→Int
 |6=>6|7=>6
 |_=>0
def fS:Nat→Bool
 |2=>false|9=>false
 |_=>true
def fU:Nat→Nat
 |1=>1|2=>0|3=>2|4=>2|5=>1|6=>3|7=>3|8=>1|9=>0
 |_=>2
def fM:Nat→Nat
 |1=>1|2=>1|3=>1|4=>1|5=>2|6=>3|7=>3|8=>1|9=>2
 |_=>0
def Y7 (k:Nat):List Value:= [.string ⟨(fL k).toArray⟩,.int .i64 (fA0 k),.int .i64 (fA1 k),.int .i64 (fB0 k),.int .i64 (WI k),.bool (fS k),.int .i64 (fU k),.int .i64 (fM k)]
def OY:List D:=(Y7 1++Y7 2++Y7 3++Y7 4++Y7 5++Y7 6++Y7 7++Y7 8++Y7 9++Y7 10).map D.sc
theorem bP8 (s g u m:Value) (a b c d:Value):X7 (PL (PL [.sc s,.sc (.int .i64 0),.sc (.int .i64 0),.sc (.int .i64 0),.sc (.int .i64 0),.sc (.bool false),.sc (.int .i64 0),.sc (.int .i64 0)] 1 [.sc a,.sc b]) 3 [.sc c,.sc d]) [(5,1,.sc g),(6,1,.sc u),(7,1,.sc m)]=some [.sc s,.sc a,.sc b,.sc c,.sc d,.sc g,.sc u,.sc m]:=(rfl)
theorem bP9 (nx t:Nat):P7 nx t 8 10 [.string ⟨#[]⟩,.int .i64 0,.int .i64 0,.int .i64 0,.int .i64 0,.bool false,.int .i64 0,.int .i64 0] [(0,8,.agg [.sc (.string ⟨#[]⟩),.sc (.int .i64 0),.sc (.int .i64 0),.sc (.int .i64 0),.sc (.int .i64 0),.sc (.bool true),.sc (.int .i64 1),.sc (.int .i64 1)]),(8,8,.agg [.sc (.string ⟨#[]⟩),.sc (.int .i64 0),.sc (.int .i64 0),.sc (.int .i64 0),.sc (.int .i64 0),.sc (.bool false),.sc (.int .i64 0),.sc (.int .i64 1)]),(16,8,.agg [.sc (.string ⟨#[102]⟩),.sc (.int .i64 2),.sc (.int .i64 4),.sc (.int .i64 0),.sc (.int .i64 0),.sc (.bool true),.sc (.int .i64 2),.sc (.int .i64 1)]),(24,8,.agg [.sc (.string ⟨#[108]⟩),.sc (.int .i64 2),.sc (.int .i64 4),.sc (.int .i64 0),.sc (.int .i64 0),.sc (.bool true),.sc (.int .i64 2),.sc (.int .i64 1)]),(32,8,.agg [.sc (.string ⟨#[109]⟩),.sc (.int .i64 2),.sc (.int .i64 4),.sc (.int .i64 0),.sc (.int .i64 0),.sc (.bool true),.sc (.int .i64 1),.sc (.int .i64 2)]),(40,8,.agg [.sc (.string ⟨#[120]⟩),.sc (.int .i64 1),.sc (.int .i64 6),.sc (.int .i64 1),.sc (.int .i64 6),.sc (.bool true),.sc (.int .i64 3),.sc (.int .i64 3)]),(48,8,.agg [.sc (.string ⟨#[121]⟩),.sc (.int .i64 1),.sc (.int .i64 6),.sc (.int .i64 1),.sc (.int .i64 6),.sc (.bool true),.sc (.int .i64 3),.sc (.int .i64 3)]),(56,8,.agg [.sc (.string ⟨#[115]⟩),.sc (.int .i64 0),.sc (.int .i64 0),.sc (.int .i64 0),.sc (.int .i64 0),.sc (.bool true),.sc (.int .i64 1),.sc (.int .i64 1)]),(64,8,.agg [.sc (.string ⟨#[]⟩),.sc (.int .i64 1),.sc (.int .i64 200),.sc (.int .i64 0),.sc (.int .i64 0),.sc (.bool false),.sc (.int .i64 0),.sc (.int .i64 2)]),(72,8,.agg [.sc (.string ⟨#[111]⟩),.sc (.int .i64 1),.sc (.int .i64 200),.sc (.int .i64 0),.sc (.int .i64 0),.sc (.bool true),.sc (.int .i64 2),.sc (.int .i64 0)])]=some (.ref nx 0 10 10,some (.row t 8 false false OY),[]):=(rfl)
theorem WK (k:Nat) (h1:1≤k) (h2:k≤10):B4 OY ((k - 1)*8) (some 8)=some (.agg ((Y7 k).map V.sc)):=by
 rcases (by omega:k=1∨k=2∨k=3∨k=4∨k=5∨k=6∨k=7∨k=8∨k=9∨k=10) with rfl|rfl|rfl|rfl|rfl|rfl|rfl|rfl|rfl|rfl<;>rfl
attribute [local irreducible] OY
theorem CO {x:q8} (h1:1≤x.kind) (h2:x.kind≤10):bU x↔(fA0 x.kind≤x.a∧x.a≤fA1 x.kind)∧(fB0 x.kind≤x.b∧x.b≤WI x.kind)∧(x.purl=true→fS x.kind=true):=by
 obtain ⟨k,p,a,b⟩:=x
 simp only at h1 h2 ⊢
 unfold bU
 simp only
 rcases (by omega:k=1∨k=2∨k=3∨k=4∨k=5∨k=6∨k=7∨k=8∨k=9∨k=10) with rfl|rfl|rfl|rfl|rfl|rfl|rfl|rfl|rfl|rfl
 all_goals
  cases p<;>simp[fA0,fA1,fB0,WI,fS]<;>omega
theorem XU {x:q8} (h:¬ (1≤x.kind∧x.kind≤10)):G3 x=false:=by
 rw[← Bool.not_eq_true,P2]
 intro hx
 exact h ⟨hx.bounds.1,hx.bounds.2.1⟩
def FE (x:q8) (h:Nat):Int:=if h=0 then 0 else if h=1 then 1 else if h=2 then x.a else x.a+x.b
theorem QH {x:q8} (h1:1≤x.kind) (h2:x.kind≤10):E3 x=FE x (fU x.kind)∧H9 x=FE x (fM x.kind):=by
 obtain ⟨k,p,a,b⟩:=x
 simp only at h1 h2 ⊢
 rcases (by omega:k=1∨k=2∨k=3∨k=4∨k=5∨k=6∨k=7∨k=8∨k=9∨k=10) with rfl|rfl|rfl|rfl|rfl|rfl|rfl|rfl|rfl|rfl
 all_goals
  simp[E3,H9,FE,fU,fM]
theorem aA8 (k:Nat):fU k≤3∧fM k≤3:=by
 constructor
 ·unfold fU;split<;>decide
 ·unfold fM;split<;>decide
abbrev qC (x:q8):V:= .agg [.sc (.int .u8 x.kind),.sc (.bool x.purl),.sc (.int .i64 x.a),.sc (.int .i64 x.b)]
theorem tn0:Int.toNat 0=0:=rfl
theorem tn1:Int.toNat 1=1:=rfl
section
variable (w:World) (n:Nat)
theorem EP (k:Nat) (hk:1≤k) (hk2:k≤10):n5 (EN w (n+1)) 59 [.sc (.int .u8 k)] (.tup [.agg ((Y7 k).map V.sc),.sc (.bool true)]) ⟨[],0,0⟩:=by
 refine i9 rfl rfl (fun _ _=>rfl) (Nat.le_of_ble_eq_true rfl) (k9 w) rfl fun C hC h0=>?_
 have hld:=WK k hk hk2
 have hw:IntKind.u8.wrap ((k:Int) - 1)=((k - 1:Nat):Int):=by rw[aY6 _ (by omega) (by omega)];omega
 unfold Y7 at hld ⊢
 simp (disch:=first|omega|exact f8|(simp only[d9]<;>omega)) only[WA,Nat.reduceEqDiff,Nat.reduceLT,Nat.reduceAdd,↓reduceIte,reduceCtorEq,List.replicate,c59,bP8,↓bP9]
 rw[hw]
 simp (disch:=first|exact f8|(simp only[d9]<;>omega)) only[WA,Nat.reduceEqDiff,Nat.reduceLT,↓reduceIte,reduceCtorEq,hld]
 exact b9 rfl h0 rfl
theorem aA9 (k:Nat) (hk:¬ (1≤k∧k≤10)) (hb:k<256):n5 (EN w (n+1)) 59 [.sc (.int .u8 k)] (.tup [.agg [.sc (.string ⟨#[]⟩),.sc (.int .i64 0),.sc (.int .i64 0),.sc (.int .i64 0),.sc (.int .i64 0),.sc (.bool false),.sc (.int .i64 0),.sc (.int .i64 0)],.sc (.bool false)]) ⟨[],0,0⟩:=by
 have hne:¬ (k:Int)<1→10<(k:Int):=by omega
 by_cases h1:(k:Int)<1
 all_goals
  refine i9 rfl rfl (fun _ _=>rfl) (Nat.le_of_ble_eq_true rfl) (k9 w) rfl fun C hC h0=>?_
  repeat' (first|(simp (disch:=first|omega|exact f8|(simp only[d9]<;>omega)) only[WA,Nat.reduceEqDiff,Nat.reduceLT,Nat.reduceAdd,↓reduceIte,reduceCtorEq,List.replicate,c59,bP8,↓bP9]))
  all_goals try (exfalso;omega)
  exact b9 rfl h0 rfl
theorem NX (v lo hi:Int):n5 (EN w (n+1)) 71 [.sc (.int .i64 v),.agg [.sc (.int .i64 lo),.sc (.int .i64 hi)]] (.sc (.bool (decide (lo≤v∧v≤hi)))) ⟨[],0,0⟩:=by
 refine i9 rfl rfl (fun _ _=>rfl) (Nat.le_of_ble_eq_true rfl) (k9 w) rfl fun C hC h0=>?_
 by_cases h1:lo≤v
 ·by_cases h2:v≤hi
  ·rw[decide_eq_true ⟨h1,h2⟩]
   simp (disch:=first|omega|exact f8|fail) only[WA,Nat.reduceEqDiff,Nat.reduceLT,↓reduceIte,reduceCtorEq,c71,tn0,tn1]
   all_goals try (exfalso;omega)
   exact b9 rfl h0 rfl
  ·rw[decide_eq_false (fun h=>h2 h.2)]
   simp (disch:=first|omega|exact f8|fail) only[WA,Nat.reduceEqDiff,Nat.reduceLT,↓reduceIte,reduceCtorEq,c71,tn0,tn1]
   all_goals try (exfalso;omega)
   exact b9 rfl h0 rfl
 ·rw[decide_eq_false (fun h=>h1 h.1)]
  simp (disch:=first|omega|exact f8|fail) only[WA,Nat.reduceEqDiff,Nat.reduceLT,↓reduceIte,reduceCtorEq,c71,tn0,tn1]
  all_goals try (exfalso;omega)
  exact b9 rfl h0 rfl
end
end Go.Proofs.Ytgohenjcanfolaa
namespace Go.Proofs.Ytgohenjcanfolaa
open Go Go.Itp
set_option maxRecDepth 100000
set_option maxHeartbeats 400000
set_option linter.unusedSimpArgs false
set_option linter.unusedVariables false
def v8 (L:List q8):List D:=L.flatMap fun x=> [.sc (.int .u8 x.kind),.sc (.bool x.purl),.sc (.int .i64 x.a),.sc (.int .i64 x.b)]
theorem v3 (L:List q8):(v8 L).length=L.length*4:=by
 induction L with
 |nil=>rfl
 |cons p L ih=>
  have e:v8 (p::L)= [.sc (.int .u8 p.kind),.sc (.bool p.purl),.sc (.int .i64 p.a),.sc (.int .i64 p.b)]++v8 L:=by simp[v8]
  rw[e,List.length_append,ih];simp;omega
theorem Q9 (L:List q8) (k:Nat) (hk:k<L.length):B4 (v8 L) (k*4) (some 4)=some (qC L[k]!):=by
 have:=lH (fun x:q8=> [D.sc (.int .u8 x.kind),.sc (.bool x.purl),.sc (.int .i64 x.a),.sc (.int .i64 x.b)]) 4 L (fun _=>rfl) (by decide) k hk
 unfold v8
 rw[this]
 rfl
theorem ix0 (a b c d:V):gR 4 1 none (.agg [a,b,c,d]) (.sc (.int .i64 ((0:Nat):Int)))=some a:=(rfl)
theorem ix1 (a b c d:V):gR 4 1 none (.agg [a,b,c,d]) (.sc (.int .i64 ((1:Nat):Int)))=some b:=(rfl)
theorem ix2 (a b c d:V):gR 4 1 none (.agg [a,b,c,d]) (.sc (.int .i64 ((2:Nat):Int)))=some c:=(rfl)
theorem ix3 (a b c d:V):gR 4 1 none (.agg [a,b,c,d]) (.sc (.int .i64 ((3:Nat):Int)))=some d:=(rfl)
section
variable (w:World) (n:Nat)
theorem aK6 (x:q8) (hk:x.kind<256):n5 (EN w (n+2)) 65 [qC x] (.sc (.int .i64 (if G3 x=true then 0 else 8))) ⟨[],0,0⟩:=by
 by_cases hr:1≤x.kind∧x.kind≤10
 ·have hf:=EP w n x.kind hr.1 hr.2
  have w1:=NX w n x.a (fA0 x.kind) (fA1 x.kind)
  have w2:=NX w n x.b (fB0 x.kind) (WI x.kind)
  have he:G3 x=(decide (fA0 x.kind≤x.a∧x.a≤fA1 x.kind) && (decide (fB0 x.kind≤x.b∧x.b≤WI x.kind) && (!x.purl||fS x.kind))):=by
   have h1:=CO hr.1 hr.2
   rw[Bool.eq_iff_iff,P2,h1]
   cases x.purl<;>simp
  rw[he]
  unfold Y7 at hf
  generalize decide (fA0 x.kind≤x.a∧x.a≤fA1 x.kind)=A at*
  generalize decide (fB0 x.kind≤x.b∧x.b≤WI x.kind)=B at*
  generalize fS x.kind=S at*
  obtain ⟨k,p,a,b⟩:=x
  simp only at hf w1 w2 ⊢
  have go:∀ e:Int,(A=false∧e=8)∨(A=true∧B=false∧e=8)∨(A=true∧B=true∧p=false∧e=0)∨(A=true∧B=true∧p=true∧S=false∧e=8)∨(A=true∧B=true∧p=true∧S=true∧e=0)→n5 (EN w (n+2)) 65 [qC ⟨k,p,a,b⟩] (.sc (.int .i64 e)) ⟨[],0,0⟩:=by
   rintro e (⟨rfl,rfl⟩|⟨rfl,rfl,rfl⟩|⟨rfl,rfl,rfl,rfl⟩|⟨rfl,rfl,rfl,rfl,rfl⟩|⟨rfl,rfl,rfl,rfl,rfl⟩)
   all_goals
    refine i9 rfl rfl (fun _ _=>rfl) (Nat.le_of_ble_eq_true rfl) (k9 w) rfl fun C hC h0=>?_
    repeat' (first|(simp (disch:=first|exact f8|fail) only[WA,Nat.reduceEqDiff,Nat.reduceLT,↓reduceIte,reduceCtorEq,c65]))
    refine a9 (by rw[hC];exact hf.flat rfl rfl) ?_
    repeat' (first|(simp (disch:=first|exact f8|(simp only[d9]<;>omega)) only[WA,Nat.reduceEqDiff,Nat.reduceLT,Nat.reduceAdd,↓reduceIte,reduceCtorEq,List.replicate]))
    refine a9 (by rw[hC];exact w1.flat rfl rfl) ?_
    repeat' (first|(simp (disch:=first|exact f8|fail) only[WA,Nat.reduceEqDiff,Nat.reduceLT,↓reduceIte,reduceCtorEq]))
   ·exact b9 rfl h0 rfl
   all_goals
    refine a9 (by rw[hC];exact w2.flat rfl rfl) ?_
    repeat' (first|(simp (disch:=first|exact f8|fail) only[WA,Nat.reduceEqDiff,Nat.reduceLT,↓reduceIte,reduceCtorEq]))
    exact b9 rfl h0 rfl
  refine go _ ?_
  cases A<;>cases B<;>cases p<;>cases S<;>simp
 ·have hf:=aA9 w n x.kind hr hk
  rw[XU hr]
  obtain ⟨k,p,a,b⟩:=x
  refine i9 rfl rfl (fun _ _=>rfl) (Nat.le_of_ble_eq_true rfl) (k9 w) rfl fun C hC h0=>?_
  simp (disch:=first|exact f8|fail) only[WA,Nat.reduceEqDiff,Nat.reduceLT,↓reduceIte,reduceCtorEq,c65]
  refine a9 (by rw[hC];exact hf.flat rfl rfl) ?_
  simp (disch:=first|omega|exact f8|(simp only[d9]<;>omega)) only[WA,Nat.reduceEqDiff,Nat.reduceLT,Nat.reduceAdd,↓reduceIte,List.replicate]
  exact b9 rfl h0 rfl
theorem TE (x:q8) (h:Nat) (hh:h≤3) (ha: -1000000≤x.a∧x.a≤1000000) (hb: -1000000≤x.b∧x.b≤1000000):n5 (EN w (n+1)) 70 [qC x,.sc (.int .i64 h)] (.sc (.int .i64 (FE x h))) ⟨[],0,0⟩:=by
 obtain ⟨k,p,a,b⟩:=x
 simp only at ha hb
 rcases (by omega:h=0∨h=1∨h=2∨h=3) with rfl|rfl|rfl|rfl
 all_goals
  refine i9 rfl rfl (fun _ _=>rfl) (Nat.le_of_ble_eq_true rfl) (k9 w) rfl fun C hC h0=>?_
  repeat' (first|(simp (disch:=first|omega|exact f8|(simp only[d9]<;>omega)) only[WA,Nat.reduceEqDiff,Nat.reduceLT,↓reduceIte,reduceCtorEq,c70,ix0,ix1,ix2,ix3]))
  all_goals try (exfalso;omega)
  exact b9 rfl h0 rfl
theorem kD {f:q8→Int} {L:List q8} (h:∀ x ∈ L,0≤f x∧f x≤1000):0≤E8 f L∧E8 f L≤1000*L.length:=by
 induction L with
 |nil=>simp[E8]
 |cons x L ih=>
  have h1:=h x (by simp)
  have h2:=ih fun y hy=>h y (List.mem_cons_of_mem _ hy)
  simp only[E8,List.length_cons]
  omega
theorem kC {f:q8→Int} {L:List q8} {k:Nat} (hk:k<L.length):E8 f (L.take (k+1))=E8 f (L.take k)+f L[k]! :=by
 have app:∀ A B:List q8,E8 f (A++B)=E8 f A+E8 f B:=by
  intro A B
  induction A with
  |nil=>simp[E8]
  |cons x A ih=>simp only[List.cons_append,E8,ih];omega
 rw[List.take_succ_eq_append_getElem hk,app,getElem!_pos _ k hk]
 simp[E8]
theorem V6 {x:q8} (h:bU x):(0≤E3 x∧E3 x≤1000)∧0≤H9 x∧H9 x≤1000:=by
 have hb:=h.bounds
 unfold E3 H9
 constructor
 ·split
  ·omega
  split
  ·omega
  split<;>omega
 ·split
  ·omega
  split
  ·omega
  split<;>omega
theorem QB (s:Nat) (L:List q8) (hL:L.length≤200) (hok:L.all G3=true):n5 (EN w (n+2)) 63 [.sl s L.length (v8 L)] (.tup [.sc (.int .i64 (E8 E3 L)),.sc (.int .i64 (E8 H9 L))]) ⟨[],0,0⟩:=by
 refine i9 rfl rfl (fun _ _=>rfl) (Nat.le_of_ble_eq_true rfl) (k9 w) rfl fun C hC h0=>?_
 have hrn:C.E.rounds=x8:=by rw[hC,j8]
 have hil:=v3 L
 simp (disch:=first|exact f8|fail) only[WA,Nat.reduceEqDiff,Nat.reduceLT,↓reduceIte,reduceCtorEq,c63]
 all_goals try (exfalso;omega)
 refine n9 (fun m fr st=>∃ (k:Nat),m=L.length - k∧k≤L.length∧fr= [(2,.sc (.int .i64 (E8 E3 (L.take k)))),(3,.sc (.int .i64 (E8 H9 (L.take k)))),(8,.sl s L.length (v8 L)),(9,.sc (.int .i64 L.length)),(10,.sc (.int .i64 k))]∧st=⟨[],0,0⟩) L.length ?_ ⟨_,_,.refl _ _,0,by omega,Nat.zero_le _,rfl,rfl⟩ ?_
 ·rw[hrn];unfold x8;omega
 rintro m fr st ⟨k,rfl,hk,rfl,rfl⟩
 by_cases hlt:k<L.length
 case neg=>
  have:k=L.length:=by omega
  subst this
  rw[List.take_length]
  simp (disch:=first|omega|exact f8|fail) only[WA,Nat.reduceEqDiff,Nat.reduceLT,↓reduceIte,ZF]
  all_goals try (exfalso;omega)
  exact b9 rfl h0 rfl
 have hag:=Q9 L k hlt
 have u1:=kC (f:=E3) hlt
 have u2:=kC (f:=H9) hlt
 have htk:∀ x ∈ L.take k,bU x:=fun x hx=>P2.1 (List.all_eq_true.1 hok x (List.mem_of_mem_take hx))
 have b1:=kD (f:=E3) fun x hx=>(V6 (htk x hx)).1
 have b2:=kD (f:=H9) fun x hx=>(V6 (htk x hx)).2
 have hl2:(L.take k).length≤200:=by rw[List.length_take];omega
 have hx:bU L[k]! :=P2.1 (List.all_eq_true.1 hok _ (by rw[getElem!_pos _ k hlt];exact List.getElem_mem hlt))
 generalize L[k]! =X at*
 have hb:=hx.bounds
 have c1:=V6 hx
 have hf:=EP w n X.kind hb.1 hb.2.1
 have l1:=TE w n X (fU X.kind) (aA8 _).1 (by omega) (by omega)
 have l2:=TE w n X (fM X.kind) (aA8 _).2 (by omega) (by omega)
 have e:=QH hb.1 hb.2.1
 rw[← e.1] at l1
 rw[← e.2] at l2
 unfold Y7 at hf
 generalize E8 E3 (L.take k)=U at*
 generalize E8 H9 (L.take k)=M at*
 generalize E3 X=uu at*
 generalize H9 X=mm at*
 obtain ⟨xk,xp,xa,xb⟩:=X
 simp (disch:=first|omega|exact f8|(simp only[d9]<;>omega)) only[WA,Nat.reduceEqDiff,Nat.reduceLT,↓reduceIte,List.replicate,ZF,hag]
 all_goals try (exfalso;omega)
 refine a9 (by rw[hC];exact hf.flat rfl rfl) ?_
 simp (disch:=first|exact f8|(simp only[d9]<;>omega)) only[WA,Nat.reduceEqDiff,Nat.reduceLT,Nat.reduceAdd,↓reduceIte,reduceCtorEq,List.replicate]
 refine a9 (by rw[hC];exact l1.flat rfl rfl) ?_
 simp (disch:=first|omega|exact f8|fail) only[WA,Nat.reduceEqDiff,Nat.reduceLT,↓reduceIte,reduceCtorEq]
 refine a9 (by rw[hC];exact l2.flat rfl rfl) ?_
 simp (disch:=first|omega|exact f8|fail) only[WA,Nat.reduceEqDiff,Nat.reduceLT,↓reduceIte]
 all_goals try (exfalso;omega)
 refine ⟨L.length - (k+1),_,_,by omega,o7 [] 0 h0 rfl rfl rfl rfl,k+1,rfl,by omega,?_,rfl⟩
 rw[u1,u2]
 rfl
end
abbrev GQ (L:List q8):Prop:=∀ x ∈ L,x.kind<256
theorem GQ.at {L:List q8} (h:GQ L) {k:Nat} (hk:k<L.length):L[k]!.kind<256:=h _ (by rw[getElem!_pos _ k hk];exact List.getElem_mem hk)
theorem CP {L:List q8} {k:Nat} (hk:k<L.length) (h:(L.take k).all G3=true) (h2:G3 L[k]! =true):(L.take (k+1)).all G3=true:=by
 rw[List.take_succ_eq_append_getElem hk,List.all_append,h]
 rw[getElem!_pos _ k hk] at h2
 simp[h2]
theorem MP {L:List q8} {k:Nat} (hk:k<L.length) (h2:G3 L[k]! =false):¬ L.all G3=true:=fun h=>by
 rw[getElem!_pos _ k hk] at h2
 have:=List.all_eq_true.1 h _ (List.getElem_mem hk)
 rw[this] at h2;cases h2
section
variable (w:World) (n:Nat)
theorem aV1 (x:q8) (hk:x.kind<256):n5 (EN w (n+3)) 64 [qC x] (.sc (.bool (!G3 x))) ⟨[],0,0⟩:=by
 have hc:=aK6 w n x hk
 cases he:G3 x with
 |true=>
  rw[he,if_pos rfl] at hc
  obtain ⟨xk,xp,xa,xb⟩:=x
  refine i9 rfl rfl (fun _ _=>rfl) (Nat.le_of_ble_eq_true rfl) (k9 w) rfl fun C hC h0=>?_
  simp (disch:=first|exact f8|fail) only[WA,Nat.reduceEqDiff,Nat.reduceLT,↓reduceIte,reduceCtorEq,c64]
  refine a9 (by rw[hC];exact hc.flat rfl rfl) ?_
  simp (disch:=first|exact f8|fail) only[WA,Nat.reduceEqDiff,Nat.reduceLT,↓reduceIte]
  exact b9 rfl h0 rfl
 |false=>
  rw[he,if_neg (by decide)] at hc
  obtain ⟨xk,xp,xa,xb⟩:=x
  refine i9 rfl rfl (fun _ _=>rfl) (Nat.le_of_ble_eq_true rfl) (k9 w) rfl fun C hC h0=>?_
  simp (disch:=first|exact f8|fail) only[WA,Nat.reduceEqDiff,Nat.reduceLT,↓reduceIte,reduceCtorEq,c64]
  refine a9 (by rw[hC];exact hc.flat rfl rfl) ?_
  simp (disch:=first|exact f8|(simp only[d9]<;>omega)) only[WA,Nat.reduceEqDiff,Nat.reduceLT,Int.reduceEq,↓reduceIte]
  exact b9 rfl h0 rfl
theorem aL0 (s:Nat) (L:List q8) (hL:L.length≤200) (hK:GQ L):∃ r:Int,(L.all G3=true→r= -1)∧(¬ L.all G3=true→0≤r)∧
  n5 (EN w (n+4)) 56 [.sl s L.length (v8 L),.sc (.func (.func 64) #[] #[])] (.sc (.int .i64 r)) ⟨[],0,0⟩:=by
 have main:∀ (j:Nat),j≤L.length→(L.take j).all G3=true→(j<L.length→G3 L[j]! =false)→n5 (EN w (n+4)) 56 [.sl s L.length (v8 L),.sc (.func (.func 64) #[] #[])] (.sc (.int .i64 (if j<L.length then (j:Int) else -1))) ⟨[],0,0⟩:=by
  intro j hj hall hbad
  refine i9 rfl rfl (fun _ _=>rfl) (Nat.le_of_ble_eq_true rfl) (k9 w) rfl fun C hC h0=>?_
  have hrn:C.E.rounds=x8:=by rw[hC,j8]
  have hil:=v3 L
  simp (disch:=first|exact f8|fail) only[WA,Nat.reduceEqDiff,Nat.reduceLT,Int.reduceNeg,↓reduceIte,reduceCtorEq,c56]
  all_goals try (exfalso;omega)
  refine n9 (fun m fr st=>∃ (k:Nat),m=L.length - k∧k≤j∧fr= [(0,.sl s L.length (v8 L)),(1,.sc (.func (.func 64) #[] #[])),(7,.sc (.int .i64 L.length)),(8,.sc (.int .i64 k))]∧st=⟨[],0,0⟩) L.length ?_ ⟨_,_,.refl _ _,0,by omega,Nat.zero_le _,rfl,rfl⟩ ?_
  ·rw[hrn];unfold x8;omega
  rintro m fr st ⟨k,rfl,hk,rfl,rfl⟩
  by_cases hlt:k<L.length
  case neg=>
   rw[if_neg (by omega)]
   simp (disch:=first|omega|exact f8|fail) only[WA,Nat.reduceEqDiff,Nat.reduceLT,Int.reduceNeg,↓reduceIte,reduceCtorEq,tP]
   all_goals try (exfalso;omega)
   exact b9 rfl h0 rfl
  have hag:=Q9 L k hlt
  have h1:=aV1 w n L[k]! (hK.at hlt)
  by_cases hkj:k=j
  ·subst hkj
   rw[hbad hlt] at h1
   rw[if_pos hlt]
   generalize L[k]! =X at*
   obtain ⟨xk,xp,xa,xb⟩:=X
   simp (disch:=first|omega|exact f8|fail) only[WA,Nat.reduceEqDiff,Nat.reduceLT,Int.reduceNeg,↓reduceIte,reduceCtorEq,tP,hag]
   all_goals try (exfalso;omega)
   refine a9 (by rw[hC];exact h1.flat rfl rfl) ?_
   simp (disch:=first|exact f8|fail) only[WA,Nat.reduceEqDiff,Nat.reduceLT,Int.reduceNeg,↓reduceIte,reduceCtorEq]
   exact b9 rfl h0 rfl
  ·have ho:G3 L[k]! =true:=List.all_eq_true.1 hall _ (by
    rw[getElem!_pos _ k hlt]
    exact List.mem_iff_getElem.2 ⟨k,by rw[List.length_take];omega,List.getElem_take⟩)
   rw[ho] at h1
   generalize L[k]! =X at*
   obtain ⟨xk,xp,xa,xb⟩:=X
   simp (disch:=first|omega|exact f8|fail) only[WA,Nat.reduceEqDiff,Nat.reduceLT,Int.reduceNeg,↓reduceIte,reduceCtorEq,tP,hag]
   all_goals try (exfalso;omega)
   refine a9 (by rw[hC];exact h1.flat rfl rfl) ?_
   simp (disch:=first|omega|exact f8|fail) only[WA,Nat.reduceEqDiff,Nat.reduceLT,Int.reduceNeg,↓reduceIte,reduceCtorEq]
   exact ⟨L.length - (k+1),_,_,by omega,.refl _ _,k+1,rfl,by omega,rfl,rfl⟩
 have hex:∃ j,j≤L.length∧(L.take j).all G3=true∧(j<L.length→G3 L[j]! =false):=by
  have:∀ m,m≤L.length→(L.take m).all G3=true∨∃ j,j<m∧(L.take j).all G3=true∧G3 L[j]! =false:=by
   intro m
   induction m with
   |zero=>intro _;exact .inl rfl
   |succ m ih=>
    intro hm
    rcases ih (by omega) with h|⟨j,h1,h2,h3⟩
    ·cases hc:G3 L[m]! with
     |true=>exact .inl (CP (by omega) h hc)
     |false=>exact .inr ⟨m,by omega,h,hc⟩
    ·exact .inr ⟨j,by omega,h2,h3⟩
  rcases this L.length (Nat.le_refl _) with h|⟨j,h1,h2,h3⟩
  ·exact ⟨L.length,Nat.le_refl _,h,fun h=>absurd h (Nat.lt_irrefl _)⟩
  ·exact ⟨j,by omega,h2,fun _=>h3⟩
 obtain ⟨j,h1,h2,h3⟩:=hex
 refine ⟨_,fun hall=>?_,fun hall=>?_,main j h1 h2 h3⟩
 ·rw[if_neg fun h=>MP h (h3 h) hall]
 ·by_cases h:j<L.length
  ·rw[if_pos h];omega
  ·have:j=L.length:=by omega
   subst this
   rw[List.take_length] at h2
   exact absurd h2 hall
theorem MA (s:Nat) (L:List q8) (hL:L.length≤200) (hK:GQ L):n5 (EN w (n+5)) 46 [.sl s L.length (v8 L),.sc (.func (.func 64) #[] #[])] (.sc (.bool (!(L.all G3)))) ⟨[],0,0⟩:=by
 obtain ⟨r,h1,h2,hr⟩:=aL0 w n s L hL hK
 cases ha:L.all G3 with
 |true=>
  have e:=h1 ha
  subst e
  refine i9 rfl rfl (fun _ _=>rfl) (Nat.le_of_ble_eq_true rfl) (k9 w) rfl fun C hC h0=>?_
  simp (disch:=first|exact f8|fail) only[WA,Nat.reduceEqDiff,Nat.reduceLT,↓reduceIte,reduceCtorEq,c46]
  refine a9 (by rw[hC];exact hr.flat rfl rfl) ?_
  simp (disch:=first|exact f8|fail) only[WA,Nat.reduceEqDiff,Nat.reduceLT,Int.reduceLE,Int.reduceNeg,↓reduceIte,reduceCtorEq]
  exact b9 rfl h0 rfl
 |false=>
  have e:=h2 (by rw[ha];decide)
  refine i9 rfl rfl (fun _ _=>rfl) (Nat.le_of_ble_eq_true rfl) (k9 w) rfl fun C hC h0=>?_
  simp (disch:=first|exact f8|fail) only[WA,Nat.reduceEqDiff,Nat.reduceLT,↓reduceIte,reduceCtorEq,c46]
  refine a9 (by rw[hC];exact hr.flat rfl rfl) ?_
  simp (disch:=first|omega|exact f8|fail) only[WA,Nat.reduceEqDiff,Nat.reduceLT,↓reduceIte,reduceCtorEq]
  all_goals try (exfalso;omega)
  exact b9 rfl h0 rfl
theorem PY (s:Nat) (L:List q8) (hL:L.length≤140737488351232) (hK:GQ L):n5 (EN w (n+6)) 57 [.sl s L.length (v8 L)] (.sc (.int .i64 (J5 L))) ⟨[],0,0⟩:=by
 have hil:=v3 L
 unfold J5
 by_cases h2:200<L.length
 ·rw[if_pos h2]
  refine i9 rfl rfl (fun _ _=>rfl) (Nat.le_of_ble_eq_true rfl) (k9 w) rfl fun C hC h0=>?_
  simp (disch:=first|omega|exact f8|fail) only[WA,Nat.reduceEqDiff,Nat.reduceLT,↓reduceIte,reduceCtorEq,c57]
  all_goals try (exfalso;omega)
  exact b9 rfl h0 rfl
 rw[if_neg h2]
 have hc:=MA w n s L (by omega) hK
 cases ha:L.all G3 with
 |false=>
  rw[ha] at hc
  rw[if_neg (by decide)]
  refine i9 rfl rfl (fun _ _=>rfl) (Nat.le_of_ble_eq_true rfl) (k9 w) rfl fun C hC h0=>?_
  simp (disch:=first|omega|exact f8|fail) only[WA,Nat.reduceEqDiff,Nat.reduceLT,↓reduceIte,reduceCtorEq,c57]
  all_goals try (exfalso;omega)
  refine a9 (by rw[hC];exact hc.flat rfl rfl) ?_
  simp (disch:=first|exact f8|fail) only[WA,Nat.reduceEqDiff,Nat.reduceLT,↓reduceIte,reduceCtorEq]
  exact b9 rfl h0 rfl
 |true=>
  rw[ha] at hc
  rw[if_pos rfl]
  have hs:=QB w (n+3) s L (by omega) ha
  generalize E8 E3 L=U at*
  generalize E8 H9 L=M at*
  by_cases hm:200<U∨200<M
  ·rw[if_pos hm]
   have hmx:200<max U M:=by omega
   generalize hX:max U M=X at*
   refine i9 rfl rfl (fun _ _=>rfl) (Nat.le_of_ble_eq_true rfl) (k9 w) rfl fun C hC h0=>?_
   simp (disch:=first|omega|exact f8|fail) only[WA,Nat.reduceEqDiff,Nat.reduceLT,↓reduceIte,reduceCtorEq,c57]
   all_goals try (exfalso;omega)
   refine a9 (by rw[hC];exact hc.flat rfl rfl) ?_
   simp (disch:=first|exact f8|fail) only[WA,Nat.reduceEqDiff,Nat.reduceLT,↓reduceIte,reduceCtorEq]
   refine a9 (by rw[hC];exact hs.flat rfl rfl) ?_
   simp (disch:=first|omega|exact f8|fail) only[WA,Nat.reduceEqDiff,Nat.reduceLT,↓reduceIte,reduceCtorEq,sI,hX]
   all_goals try (exfalso;omega)
   exact b9 rfl h0 rfl
  ·rw[if_neg hm]
   have hmx:max U M≤200:=by omega
   generalize hX:max U M=X at*
   refine i9 rfl rfl (fun _ _=>rfl) (Nat.le_of_ble_eq_true rfl) (k9 w) rfl fun C hC h0=>?_
   simp (disch:=first|omega|exact f8|fail) only[WA,Nat.reduceEqDiff,Nat.reduceLT,↓reduceIte,reduceCtorEq,c57]
   all_goals try (exfalso;omega)
   refine a9 (by rw[hC];exact hc.flat rfl rfl) ?_
   simp (disch:=first|exact f8|fail) only[WA,Nat.reduceEqDiff,Nat.reduceLT,↓reduceIte,reduceCtorEq]
   refine a9 (by rw[hC];exact hs.flat rfl rfl) ?_
   simp (disch:=first|omega|exact f8|fail) only[WA,Nat.reduceEqDiff,Nat.reduceLT,↓reduceIte,reduceCtorEq,sI,hX]
   all_goals try (exfalso;omega)
   exact b9 rfl h0 rfl
end
set_option maxHeartbeats 1000000
theorem AE (g:Bool) (k k':Nat) (p p':Bool) (a b a' b':Int):lI g [(0,0),(1,2),(2,0),(3,0)] (.agg [.sc (.int .u8 k),.sc (.bool p),.sc (.int .i64 a),.sc (.int .i64 b)]) (.agg [.sc (.int .u8 k'),.sc (.bool p'),.sc (.int .i64 a'),.sc (.int .i64 b')])=some (.sc (.bool (aE9 g (decide ((⟨k,p,a,b⟩:q8)=⟨k',p',a',b'⟩))))):=by
 rw[eG]
 have e:Q1 [(0,0),(1,2),(2,0),(3,0)] [V.sc (.int .u8 k),.sc (.bool p),.sc (.int .i64 a),.sc (.int .i64 b)] [V.sc (.int .u8 k'),.sc (.bool p'),.sc (.int .i64 a'),.sc (.int .i64 b')]=some (decide ((k:Int)=k') && ((p==p') && (decide (a=a') && decide (b=b')))):=by
  simp only[W1,Z3,cB,Z2,iZ,Bool.and_true,B7,Option.bind_some]
 rw[e]
 simp only[Option.map_some]
 congr 4
 rw[Bool.eq_iff_iff]
 simp only[Bool.and_eq_true,beq_iff_eq,decide_eq_true_eq,q8.mk.injEq]
 constructor
 ·rintro ⟨h1,h2,h3,h4⟩;exact ⟨by omega,h2,h3,h4⟩
 ·rintro ⟨h1,h2,h3,h4⟩;exact ⟨by omega,h2,h3,h4⟩
section
variable (w:World) (n:Nat)
theorem aI2 (x:q8) (hk:x.kind<256):n5 (EN w (n+1)) 67 [qC x] (.sc (.int .i64 (if G3 x=true then 0 else 8))) ⟨[],0,0⟩:=by
 have go:∀ e:Int,(bU x∧e=0)∨(¬ bU x∧e=8)→n5 (EN w (n+1)) 67 [qC x] (.sc (.int .i64 e)) ⟨[],0,0⟩:=by
  obtain ⟨k,p,a,b⟩:=x
  unfold bU
  simp only at hk ⊢
  rcases (by omega:k=1∨k=2∨k=3∨k=4∨k=5∨k=6∨k=7∨k=8∨k=9∨k=10∨k=0∨10<k) with rfl|rfl|rfl|rfl|rfl|rfl|rfl|rfl|rfl|rfl|rfl|h10
  all_goals
   rintro e (⟨he,rfl⟩|⟨he,rfl⟩)
  all_goals
   cases p
  all_goals
   simp (config:={decide:=true}) only[reduceCtorEq,false_and,and_false,false_or,or_false,true_or,or_true,true_and,and_true,not_true_eq_false,not_false_eq_true] at he
  all_goals
   refine i9 rfl rfl (fun _ _=>rfl) (Nat.le_of_ble_eq_true rfl) (k9 w) rfl fun C hC h0=>?_
   repeat' (first|(simp (disch:=first|omega|exact f8|fail) only[WA,Nat.reduceEqDiff,Nat.reduceLT,↓reduceIte,reduceCtorEq,c67])|(apply D4<;>intro _))
  all_goals try (exfalso;omega)
  all_goals exact b9 rfl h0 rfl
 refine go _ ?_
 by_cases h:bU x
 ·exact .inl ⟨h,by rw[if_pos (P2.2 h)]⟩
 ·exact .inr ⟨h,by rw[if_neg fun hh=>h (P2.1 hh)]⟩
theorem aU7 (x:q8) (hx:bU x):n5 (EN w (n+1)) 68 [qC x] (.sc (.int .i64 (E3 x))) ⟨[],0,0⟩∧n5 (EN w (n+1)) 69 [qC x] (.sc (.int .i64 (H9 x))) ⟨[],0,0⟩:=by
 have hb:=hx.bounds
 obtain ⟨k,p,a,b⟩:=x
 simp only at hb
 clear hx
 constructor
 all_goals
  rcases (by omega:k=1∨k=2∨k=3∨k=4∨k=5∨k=6∨k=7∨k=8∨k=9∨k=10) with rfl|rfl|rfl|rfl|rfl|rfl|rfl|rfl|rfl|rfl
  all_goals
   refine i9 rfl rfl (fun _ _=>rfl) (Nat.le_of_ble_eq_true rfl) (k9 w) rfl fun C hC h0=>?_
   repeat' (first|(simp (disch:=first|omega|exact f8|fail) only[WA,Nat.reduceEqDiff,Nat.reduceLT,↓reduceIte,reduceCtorEq,c68,c69]))
   exact b9 rfl h0 rfl
theorem FY (s:Nat) (L:List q8) (hL:L.length≤200) (hok:L.all G3=true):n5 (EN w (n+2)) 61 [.sl s L.length (v8 L)] (.tup [.sc (.int .i64 (E8 E3 L)),.sc (.int .i64 (E8 H9 L))]) ⟨[],0,0⟩:=by
 refine i9 rfl rfl (fun _ _=>rfl) (Nat.le_of_ble_eq_true rfl) (k9 w) rfl fun C hC h0=>?_
 have hrn:C.E.rounds=x8:=by rw[hC,j8]
 have hil:=v3 L
 simp (disch:=first|exact f8|fail) only[WA,Nat.reduceEqDiff,Nat.reduceLT,↓reduceIte,reduceCtorEq,c61]
 all_goals try (exfalso;omega)
 refine n9 (fun m fr st=>∃ (k:Nat),m=L.length - k∧k≤L.length∧fr= [(0,.sl s L.length (v8 L)),(4,.sc (.int .i64 (E8 E3 (L.take k)))),(5,.sc (.int .i64 (E8 H9 (L.take k)))),(6,.sc (.int .i64 k))]∧st=⟨[],0,0⟩) L.length ?_ ⟨_,_,.refl _ _,0,by omega,Nat.zero_le _,rfl,rfl⟩ ?_
 ·rw[hrn];unfold x8;omega
 rintro m fr st ⟨k,rfl,hk,rfl,rfl⟩
 by_cases hlt:k<L.length
 case neg=>
  have:k=L.length:=by omega
  subst this
  rw[List.take_length]
  simp (disch:=first|omega|exact f8|fail) only[WA,Nat.reduceEqDiff,Nat.reduceLT,↓reduceIte,reduceCtorEq,ZE]
  all_goals try (exfalso;omega)
  exact b9 rfl h0 rfl
 have hag:=Q9 L k hlt
 have u1:=kC (f:=E3) hlt
 have u2:=kC (f:=H9) hlt
 have htk:∀ x ∈ L.take k,bU x:=fun x hx=>P2.1 (List.all_eq_true.1 hok x (List.mem_of_mem_take hx))
 have b1:=kD (f:=E3) fun x hx=>(V6 (htk x hx)).1
 have b2:=kD (f:=H9) fun x hx=>(V6 (htk x hx)).2
 have hl2:(L.take k).length≤200:=by rw[List.length_take];omega
 have hx:bU L[k]! :=P2.1 (List.all_eq_true.1 hok _ (by rw[getElem!_pos _ k hlt];exact List.getElem_mem hlt))
 generalize L[k]! =X at*
 have c1:=V6 hx
 obtain ⟨l1,l2⟩:=aU7 w n X hx
 generalize E8 E3 (L.take k)=U at*
 generalize E8 H9 (L.take k)=M at*
 generalize E3 X=uu at*
 generalize H9 X=mm at*
 obtain ⟨xk,xp,xa,xb⟩:=X
 simp (disch:=first|omega|exact f8|fail) only[WA,Nat.reduceEqDiff,Nat.reduceLT,↓reduceIte,reduceCtorEq,ZE,hag]
 all_goals try (exfalso;omega)
 refine a9 (by rw[hC];exact l1.flat rfl rfl) ?_
 simp (disch:=first|omega|exact f8|fail) only[WA,Nat.reduceEqDiff,Nat.reduceLT,↓reduceIte,reduceCtorEq,hag]
 refine a9 (by rw[hC];exact l2.flat rfl rfl) ?_
 simp (disch:=first|omega|exact f8|fail) only[WA,Nat.reduceEqDiff,Nat.reduceLT,↓reduceIte,reduceCtorEq]
 all_goals try (exfalso;omega)
 refine ⟨L.length - (k+1),_,_,by omega,.refl _ _,k+1,rfl,by omega,?_,rfl⟩
 rw[u1,u2]
 rfl
theorem aH9 (s:Nat) (L:List q8) (hL:L.length≤140737488351232) (hK:GQ L):n5 (EN w (n+3)) 60 [.sl s L.length (v8 L)] (.sc (.int .i64 (J5 L))) ⟨[],0,0⟩:=by
 refine i9 rfl rfl (fun _ _=>rfl) (Nat.le_of_ble_eq_true rfl) (k9 w) rfl fun C hC h0=>?_
 have hrn:C.E.rounds=x8:=by rw[hC,j8]
 have hil:=v3 L
 unfold J5
 by_cases h2:200<L.length
 ·rw[if_pos h2]
  simp (disch:=first|omega|exact f8|fail) only[WA,Nat.reduceEqDiff,Nat.reduceLT,↓reduceIte,reduceCtorEq,c60]
  all_goals try (exfalso;omega)
  exact b9 rfl h0 rfl
 rw[if_neg h2]
 simp (disch:=first|omega|exact f8|fail) only[WA,Nat.reduceEqDiff,Nat.reduceLT,↓reduceIte,reduceCtorEq,c60]
 all_goals try (exfalso;omega)
 refine n9 (fun m fr st=>∃ (k:Nat),m=L.length - k∧k≤L.length∧(L.take k).all G3=true∧fr= [(0,.sl s L.length (v8 L)),(3,.sc (.int .i64 k))]∧st=⟨[],0,0⟩) L.length ?_ ⟨_,_,.refl _ _,0,by omega,Nat.zero_le _,rfl,rfl,rfl⟩ ?_
 ·rw[hrn];unfold x8;omega
 rintro m fr st ⟨k,rfl,hk,hall,rfl,rfl⟩
 by_cases hlt:k<L.length
 ·have hag:=Q9 L k hlt
  have hc:=aI2 w (n+1) L[k]! (hK.at hlt)
  cases hx:G3 L[k]! with
  |true=>
   have hst:=CP hlt hall hx
   rw[hx,if_pos rfl] at hc
   generalize L[k]! =X at*
   obtain ⟨xk,xp,xa,xb⟩:=X
   simp (disch:=first|omega|exact f8|fail) only[WA,Nat.reduceEqDiff,Nat.reduceLT,↓reduceIte,reduceCtorEq,HS,hag]
   all_goals try (exfalso;omega)
   refine a9 (by rw[hC];exact hc.flat rfl rfl) ?_
   simp (disch:=first|omega|exact f8|fail) only[WA,Nat.reduceEqDiff,Nat.reduceLT,↓reduceIte,reduceCtorEq]
   exact ⟨L.length - (k+1),_,_,by omega,.refl _ _,k+1,rfl,by omega,hst,rfl,rfl⟩
  |false=>
   rw[if_neg (MP hlt hx)]
   rw[hx,if_neg (by decide)] at hc
   generalize L[k]! =X at*
   obtain ⟨xk,xp,xa,xb⟩:=X
   simp (disch:=first|omega|exact f8|fail) only[WA,Nat.reduceEqDiff,Nat.reduceLT,↓reduceIte,reduceCtorEq,HS,hag]
   all_goals try (exfalso;omega)
   refine a9 (by rw[hC];exact hc.flat rfl rfl) ?_
   simp (disch:=first|exact f8|(simp only[d9]<;>omega)) only[WA,Nat.reduceEqDiff,Nat.reduceLT,Int.reduceEq,↓reduceIte,reduceCtorEq]
   exact b9 rfl h0 rfl
 ·have:k=L.length:=by omega
  subst this
  rw[List.take_length] at hall
  rw[if_pos hall]
  have hs:=FY w n s L (by omega) hall
  generalize E8 E3 L=U at*
  generalize E8 H9 L=M at*
  by_cases hm:200<U∨200<M
  ·rw[if_pos hm]
   simp (disch:=first|omega|exact f8|fail) only[WA,Nat.reduceEqDiff,Nat.reduceLT,↓reduceIte,reduceCtorEq,HS]
   all_goals try (exfalso;omega)
   refine a9 (by rw[hC];exact hs.flat rfl rfl) ?_
   repeat' (first|(simp (disch:=first|omega|exact f8|fail) only[WA,Nat.reduceEqDiff,Nat.reduceLT,↓reduceIte,reduceCtorEq])|(apply D4<;>intro _))
   all_goals try (exfalso;omega)
   all_goals exact b9 rfl h0 rfl
  ·rw[if_neg hm]
   simp (disch:=first|omega|exact f8|fail) only[WA,Nat.reduceEqDiff,Nat.reduceLT,↓reduceIte,reduceCtorEq,HS]
   all_goals try (exfalso;omega)
   refine a9 (by rw[hC];exact hs.flat rfl rfl) ?_
   simp (disch:=first|omega|exact f8|fail) only[WA,Nat.reduceEqDiff,Nat.reduceLT,↓reduceIte,reduceCtorEq]
   all_goals try (exfalso;omega)
   all_goals exact b9 rfl h0 rfl
theorem aU6 (s t:Nat) (L M:List q8) (hL:L.length≤140737488351232) (hM:M.length≤140737488351232):n5 (EN w (n+1)) 30 [.sl s L.length (v8 L),.sl t M.length (v8 M)] (.sc (.bool (decide (L=M)))) ⟨[],0,0⟩:=by
 have hil:=v3 L
 have him:=v3 M
 by_cases hlen:L.length=M.length
 case neg=>
  rw[decide_eq_false fun h=>hlen (by rw[h])]
  refine i9 rfl rfl (fun _ _=>rfl) (Nat.le_of_ble_eq_true rfl) (k9 w) rfl fun C hC h0=>?_
  simp (disch:=first|omega|exact f8|fail) only[WA,Nat.reduceEqDiff,Nat.reduceLT,↓reduceIte,reduceCtorEq,c30]
  all_goals try (exfalso;omega)
  exact b9 rfl h0 rfl
 refine i9 rfl rfl (fun _ _=>rfl) (Nat.le_of_ble_eq_true rfl) (k9 w) rfl fun C hC h0=>?_
 have hrn:C.E.rounds=x8:=by rw[hC,j8]
 simp (disch:=first|omega|exact f8|fail) only[WA,Nat.reduceEqDiff,Nat.reduceLT,↓reduceIte,reduceCtorEq,c30]
 all_goals try (exfalso;omega)
 refine n9 (fun m fr st=>∃ (k:Nat),m=L.length - k∧k≤L.length∧(∀ j,j<k→L[j]! =M[j]!)∧fr= [(0,.sl s L.length (v8 L)),(1,.sl t M.length (v8 M)),(5,.sc (.int .i64 k))]∧st=⟨[],0,0⟩) L.length ?_ ⟨_,_,.refl _ _,0,by omega,Nat.zero_le _,fun j hj=>absurd hj (Nat.not_lt_zero _),rfl,rfl⟩ ?_
 ·rw[hrn];unfold x8;omega
 rintro m fr st ⟨k,rfl,hk,heq,rfl,rfl⟩
 by_cases hlt:k<L.length
 ·have hag:=Q9 L k hlt
  have hag2:=Q9 M k (by omega)
  by_cases hx:L[k]! =M[k]!
  ·have hnx:∀ j,j<k+1→L[j]! =M[j]! :=fun j hj=>by
    rcases Nat.lt_succ_iff_lt_or_eq.1 hj with h|h
    ·exact heq j h
    ·rw[h];exact hx
   rw[hx] at hag
   generalize M[k]! =X at*
   obtain ⟨xk,xp,xa,xb⟩:=X
   simp (disch:=first|omega|exact f8|(simp only[d9]<;>omega)) only[WA,a8,b8,Nat.reduceEqDiff,Nat.reduceLT,↓reduceIte,reduceCtorEq,RG,hag,hag2,↓AE]
   all_goals try (exfalso;omega)
   exact ⟨L.length - (k+1),_,_,by omega,.refl _ _,k+1,rfl,by omega,hnx,rfl,rfl⟩
  ·have hd:decide (L=M)=false:=decide_eq_false fun h=>hx (by rw[h])
   rw[hd]
   have hdd:=decide_eq_false hx
   generalize L[k]! =X at*
   generalize M[k]! =Y at*
   obtain ⟨xk,xp,xa,xb⟩:=X
   obtain ⟨yk,yp,ya,yb⟩:=Y
   simp (disch:=first|omega|exact f8|fail) only[WA,a8,b8,Nat.reduceEqDiff,Nat.reduceLT,↓reduceIte,reduceCtorEq,RG,hag,hag2,↓AE,hdd]
   all_goals try (exfalso;omega)
   exact b9 rfl h0 rfl
 ·have hd:decide (L=M)=true:=decide_eq_true (List.ext_getElem hlen fun j h1 h2=>by
   have:=heq j (by omega)
   rwa [getElem!_pos L j h1,getElem!_pos M j h2] at this)
  rw[hd]
  simp (disch:=first|omega|exact f8|fail) only[WA,Nat.reduceEqDiff,Nat.reduceLT,↓reduceIte,reduceCtorEq,RG]
  all_goals try (exfalso;omega)
  exact b9 rfl h0 rfl
end
end Go.Proofs.Ytgohenjcanfolaa
namespace Go.Itp
set_option linter.unusedVariables false
set_option linter.unusedSimpArgs false
structure v4 where
 op:Nat
 right:Bool
 bed:Nat
 pos:Int
 to:Int
 car:Int
 rack:Int
theorem v4.ext' {i j:v4} (h1:i.op=j.op) (h2:i.right=j.right) (h3:i.bed=j.bed) (h4:i.pos=j.pos) (h5:i.to=j.to) (h6:i.car=j.car) (h7:i.rack=j.rack):i=j:=by
 cases i;cases j;simp_all
def gU:v4:=⟨0,false,0,0,0,0,0⟩
def bA (i:v4):List Value:= [.int .u8 i.op,.bool i.right,.int .u8 i.bed,.int .i64 i.pos,.int .i64 i.to,.int .i64 i.car,.int .i64 i.rack]
def Z6 (i:v4):V:= .agg [.sc (.int .u8 i.op),.sc (.bool i.right),.sc (.int .u8 i.bed),.sc (.int .i64 i.pos),.sc (.int .i64 i.to),.sc (.int .i64 i.car),.sc (.int .i64 i.rack)]
abbrev L4 (z:Int):Prop:= -100≤z∧z≤100
def sT (i:v4):Prop:=
 (i.op=1∨i.op=2)∧(1≤i.car∧i.car≤6)∧i.right=false∧i.bed=0∧i.pos=0∧i.to=0∧i.rack=0∨
 (i.op=3∨i.op=4∨i.op=5)∧(1≤i.car∧i.car≤6)∧i.bed≤1∧L4 i.pos∧i.to=0∧i.rack=0∨
 i.op=6∧(1≤i.car∧i.car≤6)∧i.bed≤1∧L4 i.pos∧L4 i.to∧i.rack=0∨
 i.op=7∧i.right=false∧i.car=0∧i.rack=0∧i.bed≤1∧L4 i.pos∧L4 i.to∨
 i.op=8∧i.right=false∧i.bed=0∧i.pos=0∧i.to=0∧i.car=0∧ -8≤i.rack∧i.rack≤8∨
 i.op=9∧i.right=false∧i.to=0∧i.car=0∧i.rack=0∧i.bed≤1∧L4 i.pos
open Classical in
noncomputable def K9 (i:v4):Bool:=decide (sT i)
open Classical in
theorem jI {i:v4}:K9 i=true↔sT i:=by
 unfold K9
 constructor
 ·exact of_decide_eq_true
 ·intro h;exact decide_eq_true h
def bO4:Nat→List UInt8
 |1=> [105,110]
 |2=> [111,117,116]
 |3=> [107,110,105,116]
 |4=> [116,117,99,107]
 |5=> [109,105,115,115]
 |6=> [115,112,108,105,116]
 |7=> [120,102,101,114]
 |8=> [114,97,99,107]
 |9=> [100,114,111,112]
 |_=> []
def bG8:Nat→List UInt8
 |1=> [99]
 |2=> [99]
 |3=> [100,110,99]
 |4=> [100,110,99]
 |5=> [100,110,99]
 |6=> [100,110,111,99]
 |7=> [110,111]
 |8=> [114]
 |9=> [110]
 |_=> []
def ndl (b:Nat) (z:Int):List UInt8:=(if b=1 then 98 else 102)::Lib.itoa z
def bP5 (i:v4) (c:UInt8):List UInt8:=
 if c=100 then (if i.right=true then [43] else [45]) else if c=110 then ndl i.bed i.pos else if c=111 then ndl (1 - i.bed) i.to else if c=99 then Lib.itoa i.car else Lib.itoa i.rack
def bQ2 (i:v4):List UInt8:=join 32 (bO4 i.op::(bG8 i.op).map (bP5 i))
end Go.Itp
namespace Go.Itp
set_option linter.unusedVariables false
set_option linter.unusedSimpArgs false
open Classical in
noncomputable def cB2 (s:List UInt8):Option v4:=if h:∃ i,sT i∧bQ2 i=s then some (Classical.choose h) else none
theorem sT.bounds {i:v4} (h:sT i):i.bed≤1∧L4 i.pos∧L4 i.to∧(0≤i.car∧i.car≤6)∧ -8≤i.rack∧i.rack≤8:=by
 unfold sT L4 at h
 unfold L4
 omega
end Go.Itp
namespace Go.Proofs.Ytgohenjcanfolaa
open Go Go.Itp
set_option maxRecDepth 100000
set_option maxHeartbeats 2000000
set_option linter.unusedSimpArgs false
set_option linter.unusedVariables false
section
variable (w:World) (n:Nat)
theorem zA (z:Int):n5 (EN w (n+1)) 33 [.sc (.int .i64 z)] (.sc (.bool (decide (L4 z)))) ⟨[],0,0⟩:=by
 refine i9 rfl rfl (fun _ _=>rfl) (Nat.le_of_ble_eq_true rfl) (k9 w) rfl fun C hC h0=>?_
 by_cases h:L4 z
 ·rw[decide_eq_true h]
  unfold L4 at h
  simp (disch:=first|omega|exact f8|fail) only[WA,Nat.reduceEqDiff,Nat.reduceLT,Int.reduceNeg,↓reduceIte,reduceCtorEq,c33]
  all_goals try (exfalso;omega)
  exact b9 rfl h0 rfl
 ·rw[decide_eq_false h]
  unfold L4 at h
  repeat' (first|(simp (disch:=first|omega|exact f8|fail) only[WA,Nat.reduceEqDiff,Nat.reduceLT,Int.reduceNeg,↓reduceIte,reduceCtorEq,c33])|(apply D4<;>intro _))
  all_goals try (exfalso;omega)
  all_goals exact b9 rfl h0 rfl
theorem bB6 (z:Int):n5 (EN w (n+1)) 44 [.sc (.int .i64 z)] (.sc (.bool (decide (L4 z)))) ⟨[],0,0⟩:=by
 refine i9 rfl rfl (fun _ _=>rfl) (Nat.le_of_ble_eq_true rfl) (k9 w) rfl fun C hC h0=>?_
 by_cases h:L4 z
 ·rw[decide_eq_true h]
  unfold L4 at h
  simp (disch:=first|omega|exact f8|fail) only[WA,Nat.reduceEqDiff,Nat.reduceLT,Int.reduceNeg,↓reduceIte,reduceCtorEq,c44]
  all_goals try (exfalso;omega)
  exact b9 rfl h0 rfl
 ·rw[decide_eq_false h]
  unfold L4 at h
  repeat' (first|(simp (disch:=first|omega|exact f8|fail) only[WA,Nat.reduceEqDiff,Nat.reduceLT,Int.reduceNeg,↓reduceIte,reduceCtorEq,c44])|(apply D4<;>intro _))
  all_goals try (exfalso;omega)
  all_goals exact b9 rfl h0 rfl
theorem aU1 (z:Int):n5 (EN w (n+1)) 43 [.sc (.int .i64 z)] (.sc (.bool (decide (1≤z∧z≤6)))) ⟨[],0,0⟩:=by
 refine i9 rfl rfl (fun _ _=>rfl) (Nat.le_of_ble_eq_true rfl) (k9 w) rfl fun C hC h0=>?_
 by_cases h:1≤z∧z≤6
 ·rw[decide_eq_true h]
  simp (disch:=first|omega|exact f8|fail) only[WA,Nat.reduceEqDiff,Nat.reduceLT,↓reduceIte,reduceCtorEq,c43]
  all_goals try (exfalso;omega)
  exact b9 rfl h0 rfl
 ·rw[decide_eq_false h]
  repeat' (first|(simp (disch:=first|omega|exact f8|fail) only[WA,Nat.reduceEqDiff,Nat.reduceLT,↓reduceIte,reduceCtorEq,c43])|(apply D4<;>intro _))
  all_goals try (exfalso;omega)
  all_goals exact b9 rfl h0 rfl
end
end Go.Proofs.Ytgohenjcanfolaa
namespace Go.Itp
def AC.l:AC→AC
 | .seq a _=>a
 |x=>x
def AC.r:AC→AC
 | .seq _ b=>b
 |x=>x
end Go.Itp
namespace Go.Proofs.Ytgohenjcanfolaa
open Go Go.Itp
set_option maxRecDepth 100000
set_option maxHeartbeats 2000000
set_option linter.unusedSimpArgs false
set_option linter.unusedVariables false
abbrev bV6 (o:Nat) (r:Bool) (b:Nat) (p t c k:Int):List V:= [.sc (.int .u8 o),.sc (.bool r),.sc (.int .u8 b),.sc (.int .i64 p),.sc (.int .i64 t),.sc (.int .i64 c),.sc (.int .i64 k)]
abbrev aR6 (o:Nat) (r:Bool) (b:Nat) (p t c k:Int):Itp.Obj:= .box 40 1 (bV6 o r b p t c k)
section
variable (w:World) (n:Nat)
theorem HH {C:C6} (hC:C.E=EN w (n+1)) (h0:C.w0.nx=0) (o:Nat) (r:Bool) (b:Nat) (p t c k:Int) (o':Nat) (r':Bool) (b':Nat) (p' t' c' k':Int) (ok:Bool) (E:Bool) (R:Int)
  (hE:(decide ((o':Int)=0) && (r'==false && (decide ((b':Int)=0) && (decide (p'=0) && (decide (t'=0) && (decide (c'=0) && decide (k'=0)))))))=E)
  (h:R=if ok=true∧E=true∧b≤1∧L4 p∧L4 t then 0 else 8) {T:AC} (hT:T=AC.r (AC.r (AC.r (AC.r (AC.r (AC.r sF.code)))))):
  gC C T [] [(1,.ptr 0 0),(4,.ptr 1 0),(5,.sc (.bool ok))] ⟨[(1,aR6 o' r' b' p' t' c' k'),(0,aR6 o r b p t c k)],2,0⟩ (oK C sF.res (.sc (.int .i64 R)) ⟨[],0,0⟩):=by
 have hp:=(zA w n p).of hC rfl
 have ht:=(zA w n t).of hC rfl
 simp only[sF,AC.r] at hT
 subst hT
 cases ok
 ·rw[if_neg (by simp)] at h
  subst h
  simp (disch:=first|exact f8|fail) only[WA,Nat.reduceEqDiff,Nat.reduceLT,Int.reduceNeg,↓reduceIte,sF]
  exact b9 rfl h0 rfl
 cases E
 ·rw[if_neg (by simp)] at h
  subst h
  simp (disch:=first|exact f8|fail) only[WA,Nat.reduceEqDiff,Nat.reduceLT,Int.reduceNeg,↓reduceIte,sF,hE]
  exact b9 rfl h0 rfl
 by_cases hb:b≤1
 case neg=>
  rw[if_neg (fun hh=>hb hh.2.2.1)] at h
  subst h
  simp (disch:=first|omega|exact f8|fail) only[WA,Nat.reduceEqDiff,Nat.reduceLT,Int.reduceNeg,↓reduceIte,reduceCtorEq,sF,hE]
  all_goals try (exfalso;omega)
  exact b9 rfl h0 rfl
 by_cases h1:L4 p
 case neg=>
  rw[if_neg (fun hh=>h1 hh.2.2.2.1)] at h
  subst h
  rw[decide_eq_false h1] at hp
  simp (disch:=first|omega|exact f8|fail) only[WA,Nat.reduceEqDiff,Nat.reduceLT,Int.reduceNeg,↓reduceIte,reduceCtorEq,sF,hE]
  all_goals try (exfalso;omega)
  refine a9 (hp _ rfl) ?_
  simp (disch:=first|exact f8|fail) only[WA,Nat.reduceEqDiff,Nat.reduceLT,↓reduceIte]
  exact b9 rfl h0 rfl
 rw[decide_eq_true h1] at hp
 simp (disch:=first|omega|exact f8|fail) only[WA,Nat.reduceEqDiff,Nat.reduceLT,Int.reduceNeg,↓reduceIte,reduceCtorEq,sF,hE]
 all_goals try (exfalso;omega)
 refine a9 (hp _ rfl) ?_
 simp (disch:=first|exact f8|fail) only[WA,Nat.reduceEqDiff,Nat.reduceLT,↓reduceIte,reduceCtorEq]
 refine a9 (ht _ rfl) ?_
 by_cases h2:L4 t
 ·rw[if_pos ⟨rfl,rfl,hb,h1,h2⟩] at h
  subst h
  rw[decide_eq_true h2]
  simp (disch:=first|exact f8|fail) only[WA,Nat.reduceEqDiff,Nat.reduceLT,↓reduceIte]
  exact b9 rfl h0 rfl
 ·rw[if_neg (fun hh=>h2 hh.2.2.2.2)] at h
  subst h
  rw[decide_eq_false h2]
  simp (disch:=first|exact f8|fail) only[WA,Nat.reduceEqDiff,Nat.reduceLT,↓reduceIte]
  exact b9 rfl h0 rfl
theorem YX (i:v4):n5 (EN w (n+2)) 13 [Z6 i] (.sc (.int .i64 (if K9 i=true then 0 else 8))) ⟨[],0,0⟩:=by
 refine i9 rfl rfl (fun _ _=>rfl) (Nat.le_of_ble_eq_true rfl) (k9 w) rfl fun C hC h0=>?_
 obtain ⟨T,hT⟩:∃ T,T=AC.r (AC.r (AC.r (AC.r (AC.r (AC.r sF.code))))):=⟨_,rfl⟩
 have hc:sF.code= .seq (AC.l sF.code) (.seq (AC.l (AC.r sF.code)) (.seq (AC.l (AC.r (AC.r sF.code))) (.seq (AC.l (AC.r (AC.r (AC.r sF.code)))) (.seq (AC.l (AC.r (AC.r (AC.r (AC.r sF.code))))) (.seq (AC.l (AC.r (AC.r (AC.r (AC.r (AC.r sF.code)))))) T))))):=by rw[hT];rfl
 rw[hc]
 obtain ⟨op,right,bed,pos,to,car,rack⟩:=i
 have key:∀ x:Prop,[Decidable x]→(sT ⟨op,right,bed,pos,to,car,rack⟩↔x)→(if K9 ⟨op,right,bed,pos,to,car,rack⟩=true then (0:Int) else 8)=if x then 0 else 8:=fun x _ h=>by
  by_cases hx:x
  ·rw[if_pos hx,if_pos (jI.2 (h.2 hx))]
  ·rw[if_neg hx,if_neg (fun hh=>hx (h.1 (jI.1 hh)))]
 have tl:=fun (o':Nat) (r':Bool) (b':Nat) (p' t' c' k':Int) (ok E:Bool) (hE) (h)=>HH w n hC h0 op right bed pos to car rack o' r' b' p' t' c' k' ok E _ hE (key _ h) hT
 unfold sT at tl
 by_cases h1:op=1∨op=2
 ·rcases h1 with rfl|rfl
  all_goals
   repeat' (first|(simp (disch:=first|omega|exact f8|(simp only[d9]<;>omega)) only[WA,Nat.reduceEqDiff,Nat.reduceLT,Nat.reduceAdd,Int.reduceNeg,↓reduceIte,reduceCtorEq,List.replicate,sF,Z6,AC.l,AC.r])|(apply D4<;>intro _))
   all_goals try (exfalso;omega)
   all_goals refine tl 0 right bed pos to 0 rack _ _ rfl ?_
   all_goals
    cases right<;>simp only[L4,Bool.and_eq_true,decide_eq_true_eq,beq_iff_eq,true_and,and_true,reduceCtorEq,false_and,and_false,or_false,false_or,Nat.reduceEqDiff,true_or,or_true,iff_false,true_iff,false_iff]<;>omega
 by_cases h2:op=3∨op=4∨op=5
 ·rcases h2 with rfl|rfl|rfl
  all_goals
   repeat' (first|(simp (disch:=first|omega|exact f8|(simp only[d9]<;>omega)) only[WA,Nat.reduceEqDiff,Nat.reduceLT,Nat.reduceAdd,Int.reduceNeg,↓reduceIte,reduceCtorEq,List.replicate,sF,Z6,AC.l,AC.r])|(apply D4<;>intro _))
   all_goals try (exfalso;omega)
   all_goals refine tl 0 false 0 0 to 0 rack _ _ rfl ?_
   all_goals
    cases right<;>simp only[L4,Bool.and_eq_true,decide_eq_true_eq,beq_iff_eq,true_and,and_true,reduceCtorEq,false_and,and_false,or_false,false_or,Nat.reduceEqDiff,true_or,or_true,iff_false,true_iff,false_iff]<;>omega
 by_cases h3:op=6
 ·subst h3
  all_goals
   repeat' (first|(simp (disch:=first|omega|exact f8|(simp only[d9]<;>omega)) only[WA,Nat.reduceEqDiff,Nat.reduceLT,Nat.reduceAdd,Int.reduceNeg,↓reduceIte,reduceCtorEq,List.replicate,sF,Z6,AC.l,AC.r])|(apply D4<;>intro _))
   all_goals try (exfalso;omega)
   all_goals refine tl 0 false 0 0 0 0 rack _ _ rfl ?_
   all_goals
    cases right<;>simp only[L4,Bool.and_eq_true,decide_eq_true_eq,beq_iff_eq,true_and,and_true,reduceCtorEq,false_and,and_false,or_false,false_or,Nat.reduceEqDiff,true_or,or_true,iff_false,true_iff,false_iff]<;>omega
 by_cases h4:op=7
 ·subst h4
  all_goals
   repeat' (first|(simp (disch:=first|omega|exact f8|(simp only[d9]<;>omega)) only[WA,Nat.reduceEqDiff,Nat.reduceLT,Nat.reduceAdd,Int.reduceNeg,↓reduceIte,reduceCtorEq,List.replicate,sF,Z6,AC.l,AC.r])|(apply D4<;>intro _))
   all_goals try (exfalso;omega)
   all_goals refine tl 0 right 0 0 0 car rack _ _ rfl ?_
   all_goals
    cases right<;>simp only[L4,Bool.and_eq_true,decide_eq_true_eq,beq_iff_eq,true_and,and_true,reduceCtorEq,false_and,and_false,or_false,false_or,Nat.reduceEqDiff,true_or,or_true,iff_false,true_iff,false_iff]<;>omega
 by_cases h5:op=8
 ·subst h5
  have hw:IntKind.i64.wrap (0 - rack)= -rack∨8<rack∨rack< -8:=by
   by_cases h: -8≤rack∧rack≤8
   ·left;rw[QQ _ (by omega) (by omega)];omega
   ·omega
  repeat' (first|(simp (disch:=first|omega|exact f8|(simp only[d9]<;>omega)) only[WA,Nat.reduceEqDiff,Nat.reduceLT,Nat.reduceAdd,Int.reduceNeg,↓reduceIte,reduceCtorEq,List.replicate,sF,Z6,AC.l,AC.r])|(apply D4<;>intro _))
  all_goals refine tl 0 right bed pos to car 0 _ _ rfl ?_
  all_goals generalize IntKind.i64.wrap (0 - rack)=NR at*
  all_goals
   cases right<;>simp only[L4,Bool.and_eq_true,decide_eq_true_eq,beq_iff_eq,true_and,and_true,reduceCtorEq,false_and,and_false,or_false,false_or,Nat.reduceEqDiff,true_or,or_true,iff_false,true_iff,false_iff]<;>omega
 by_cases h6:op=9
 ·subst h6
  all_goals
   repeat' (first|(simp (disch:=first|omega|exact f8|(simp only[d9]<;>omega)) only[WA,Nat.reduceEqDiff,Nat.reduceLT,Nat.reduceAdd,Int.reduceNeg,↓reduceIte,reduceCtorEq,List.replicate,sF,Z6,AC.l,AC.r])|(apply D4<;>intro _))
   all_goals try (exfalso;omega)
   all_goals refine tl 0 right 0 0 to car rack _ _ rfl ?_
   all_goals
    cases right<;>simp only[L4,Bool.and_eq_true,decide_eq_true_eq,beq_iff_eq,true_and,and_true,reduceCtorEq,false_and,and_false,or_false,false_or,Nat.reduceEqDiff,true_or,or_true,iff_false,true_iff,false_iff]<;>omega
 repeat' (first|(simp (disch:=first|omega|exact f8|(simp only[d9]<;>omega)) only[WA,Nat.reduceEqDiff,Nat.reduceLT,Nat.reduceAdd,Int.reduceNeg,↓reduceIte,reduceCtorEq,List.replicate,sF,Z6,AC.l,AC.r])|(apply D4<;>intro _))
 all_goals try (exfalso;omega)
 all_goals refine tl 0 right bed pos to car rack _ _ rfl ?_
 all_goals
  cases right<;>simp only[L4,Bool.and_eq_true,decide_eq_true_eq,beq_iff_eq,true_and,and_true,reduceCtorEq,false_and,and_false,or_false,false_or,Nat.reduceEqDiff,true_or,or_true,iff_false,true_iff,false_iff]<;>omega
end
end Go.Proofs.Ytgohenjcanfolaa
namespace Go.Proofs.Ytgohenjcanfolaa
open Go Go.Itp
set_option maxRecDepth 100000
set_option maxHeartbeats 20000000
set_option linter.unusedSimpArgs false
set_option linter.unusedVariables false
section
variable (w:World) (n:Nat)
theorem LN {C:C6} (hC:C.E=EN w (n+1)) (h0:C.w0.nx=0) (o:Nat) (r:Bool) (b:Nat) (p t c k:Int) (o':Nat) (r':Bool) (b':Nat) (p' t' c' k':Int) (ok:Bool) (E:Bool) (R:Int)
  (hE:(decide ((o':Int)=o) && (r'==r && (decide ((b':Int)=b) && (decide (p'=p) && (decide (t'=t) && (decide (c'=c) && decide (k'=k)))))))=E)
  (h:R=if ok=true∧E=true∧b≤1∧L4 p∧L4 t then 0 else 8) {T:AC} (hT:T=AC.r (AC.r (AC.r (AC.r yB.code)))):
  gC C T [] [(1,.ptr 0 0),(3,.ptr 1 0),(4,.sc (.bool ok))] ⟨[(1,aR6 o' r' b' p' t' c' k'),(0,aR6 o r b p t c k)],2,0⟩ (oK C yB.res (.sc (.int .i64 R)) ⟨[],0,0⟩):=by
 have hp:=(bB6 w n p).of hC rfl
 have ht:=(bB6 w n t).of hC rfl
 simp only[yB,AC.r] at hT
 subst hT
 cases ok
 ·rw[if_neg (by simp)] at h
  subst h
  simp (disch:=first|omega|assumption|exact f8|exact Or.inl rfl|exact Or.inl trivial|exact j6 _ (fun _=>rfl) _|(simp only[d9]<;>omega)|fail) only[WA,a8,b8,Nat.reduceEqDiff,Nat.reduceLT,Nat.reduceAdd,Nat.reduceBEq,Int.reduceAdd,Int.reduceSub,Int.reduceLT,Int.reduceLE,Int.reduceEq,Int.reduceNeg,↓reduceIte,reduceCtorEq,List.replicate,yB]
  exact b9 rfl h0 rfl
 cases E
 ·rw[if_neg (by simp)] at h
  subst h
  simp (disch:=first|omega|assumption|exact f8|exact Or.inl rfl|exact Or.inl trivial|exact j6 _ (fun _=>rfl) _|(simp only[d9]<;>omega)|fail) only[WA,a8,b8,Nat.reduceEqDiff,Nat.reduceLT,Nat.reduceAdd,Nat.reduceBEq,Int.reduceAdd,Int.reduceSub,Int.reduceLT,Int.reduceLE,Int.reduceEq,Int.reduceNeg,↓reduceIte,reduceCtorEq,List.replicate,yB,hE]
  exact b9 rfl h0 rfl
 by_cases hb:b≤1
 case neg=>
  rw[if_neg (fun hh=>hb hh.2.2.1)] at h
  subst h
  simp (disch:=first|omega|assumption|exact f8|exact Or.inl rfl|exact Or.inl trivial|exact j6 _ (fun _=>rfl) _|(simp only[d9]<;>omega)|fail) only[WA,a8,b8,Nat.reduceEqDiff,Nat.reduceLT,Nat.reduceAdd,Nat.reduceBEq,Int.reduceAdd,Int.reduceSub,Int.reduceLT,Int.reduceLE,Int.reduceEq,Int.reduceNeg,↓reduceIte,reduceCtorEq,List.replicate,yB,hE]
  all_goals try (exfalso;omega)
  exact b9 rfl h0 rfl
 by_cases h1:L4 p
 case neg=>
  rw[if_neg (fun hh=>h1 hh.2.2.2.1)] at h
  subst h
  rw[decide_eq_false h1] at hp
  simp (disch:=first|omega|assumption|exact f8|exact Or.inl rfl|exact Or.inl trivial|exact j6 _ (fun _=>rfl) _|(simp only[d9]<;>omega)|fail) only[WA,a8,b8,Nat.reduceEqDiff,Nat.reduceLT,Nat.reduceAdd,Nat.reduceBEq,Int.reduceAdd,Int.reduceSub,Int.reduceLT,Int.reduceLE,Int.reduceEq,Int.reduceNeg,↓reduceIte,reduceCtorEq,List.replicate,yB,hE]
  all_goals try (exfalso;omega)
  refine a9 (hp _ rfl) ?_
  simp (disch:=first|omega|assumption|exact f8|exact Or.inl rfl|exact Or.inl trivial|exact j6 _ (fun _=>rfl) _|(simp only[d9]<;>omega)|fail) only[WA,a8,b8,Nat.reduceEqDiff,Nat.reduceLT,Nat.reduceAdd,Nat.reduceBEq,Int.reduceAdd,Int.reduceSub,Int.reduceLT,Int.reduceLE,Int.reduceEq,Int.reduceNeg,↓reduceIte,reduceCtorEq,List.replicate]
  exact b9 rfl h0 rfl
 rw[decide_eq_true h1] at hp
 simp (disch:=first|omega|assumption|exact f8|exact Or.inl rfl|exact Or.inl trivial|exact j6 _ (fun _=>rfl) _|(simp only[d9]<;>omega)|fail) only[WA,a8,b8,Nat.reduceEqDiff,Nat.reduceLT,Nat.reduceAdd,Nat.reduceBEq,Int.reduceAdd,Int.reduceSub,Int.reduceLT,Int.reduceLE,Int.reduceEq,Int.reduceNeg,↓reduceIte,reduceCtorEq,List.replicate,yB,hE]
 all_goals try (exfalso;omega)
 refine a9 (hp _ rfl) ?_
 simp (disch:=first|omega|assumption|exact f8|exact Or.inl rfl|exact Or.inl trivial|exact j6 _ (fun _=>rfl) _|(simp only[d9]<;>omega)|fail) only[WA,a8,b8,Nat.reduceEqDiff,Nat.reduceLT,Nat.reduceAdd,Nat.reduceBEq,Int.reduceAdd,Int.reduceSub,Int.reduceLT,Int.reduceLE,Int.reduceEq,Int.reduceNeg,↓reduceIte,reduceCtorEq,List.replicate]
 refine a9 (ht _ rfl) ?_
 by_cases h2:L4 t
 ·rw[if_pos ⟨rfl,rfl,hb,h1,h2⟩] at h
  subst h
  rw[decide_eq_true h2]
  simp (disch:=first|omega|assumption|exact f8|exact Or.inl rfl|exact Or.inl trivial|exact j6 _ (fun _=>rfl) _|(simp only[d9]<;>omega)|fail) only[WA,a8,b8,Nat.reduceEqDiff,Nat.reduceLT,Nat.reduceAdd,Nat.reduceBEq,Int.reduceAdd,Int.reduceSub,Int.reduceLT,Int.reduceLE,Int.reduceEq,Int.reduceNeg,↓reduceIte,reduceCtorEq,List.replicate]
  exact b9 rfl h0 rfl
 ·rw[if_neg (fun hh=>h2 hh.2.2.2.2)] at h
  subst h
  rw[decide_eq_false h2]
  simp (disch:=first|omega|assumption|exact f8|exact Or.inl rfl|exact Or.inl trivial|exact j6 _ (fun _=>rfl) _|(simp only[d9]<;>omega)|fail) only[WA,a8,b8,Nat.reduceEqDiff,Nat.reduceLT,Nat.reduceAdd,Nat.reduceBEq,Int.reduceAdd,Int.reduceSub,Int.reduceLT,Int.reduceLE,Int.reduceEq,Int.reduceNeg,↓reduceIte,reduceCtorEq,List.replicate]
  exact b9 rfl h0 rfl
theorem aJ4 (i:v4):n5 (EN w (n+2)) 34 [Z6 i] (.sc (.int .i64 (if K9 i=true then 0 else 8))) ⟨[],0,0⟩:=by
 refine i9 rfl rfl (fun _ _=>rfl) (Nat.le_of_ble_eq_true rfl) (k9 w) rfl fun C hC h0=>?_
 obtain ⟨T,hT⟩:∃ T,T=AC.r (AC.r (AC.r (AC.r yB.code))):=⟨_,rfl⟩
 have hc:yB.code= .seq (AC.l yB.code) (.seq (AC.l (AC.r yB.code)) (.seq (AC.l (AC.r (AC.r yB.code))) (.seq (AC.l (AC.r (AC.r (AC.r yB.code)))) T))):=by rw[hT];rfl
 rw[hc]
 obtain ⟨op,right,bed,pos,to,car,rack⟩:=i
 have key:∀ x:Prop,[Decidable x]→(sT ⟨op,right,bed,pos,to,car,rack⟩↔x)→(if K9 ⟨op,right,bed,pos,to,car,rack⟩=true then (0:Int) else 8)=if x then 0 else 8:=fun x _ h=>by
  by_cases hx:x
  ·rw[if_pos hx,if_pos (jI.2 (h.2 hx))]
  ·rw[if_neg hx,if_neg (fun hh=>hx (h.1 (jI.1 hh)))]
 have tl:=fun (o':Nat) (r':Bool) (b':Nat) (p' t' c' k':Int) (ok E:Bool) (hE) (h)=>LN w n hC h0 op right bed pos to car rack o' r' b' p' t' c' k' ok E _ hE (key _ h) hT
 unfold sT at tl
 have hf:=(aU1 w n car).of hC rfl
 by_cases h1:op=1∨op=2
 ·rcases h1 with h1|h1
  all_goals
   repeat' (first|(simp (disch:=first|omega|assumption|exact f8|exact Or.inl rfl|exact Or.inl trivial|exact j6 _ (fun _=>rfl) _|(simp only[d9]<;>omega)|fail) only[WA,a8,b8,Nat.reduceEqDiff,Nat.reduceLT,Nat.reduceAdd,Nat.reduceBEq,Int.reduceAdd,Int.reduceSub,Int.reduceLT,Int.reduceLE,Int.reduceEq,Int.reduceNeg,↓reduceIte,reduceCtorEq,List.replicate,yB,Z6,AC.l,AC.r]))
   all_goals try (exfalso;omega)
   refine a9 (hf _ rfl) ?_
   repeat' (first|(simp (disch:=first|omega|assumption|exact f8|exact Or.inl rfl|exact Or.inl trivial|exact j6 _ (fun _=>rfl) _|(simp only[d9]<;>omega)|fail) only[WA,a8,b8,Nat.reduceEqDiff,Nat.reduceLT,Nat.reduceAdd,Nat.reduceBEq,Int.reduceAdd,Int.reduceSub,Int.reduceLT,Int.reduceLE,Int.reduceEq,Int.reduceNeg,↓reduceIte,reduceCtorEq,List.replicate])|apply C3|((first|apply N9|apply D4|apply I8|apply O0|apply N8|apply I9)<;>intro _))
   all_goals refine tl op false 0 0 0 car 0 _ _ rfl ?_
   all_goals
    cases right<;>simp only[L4,Bool.and_eq_true,decide_eq_true_eq,beq_iff_eq,true_and,and_true,reduceCtorEq,false_and,and_false,or_false,false_or,Nat.reduceEqDiff,true_or,or_true,iff_false,true_iff,false_iff]<;>omega
 by_cases h2:op=3∨op=4∨op=5
 ·rcases h2 with h2|h2|h2
  all_goals
   repeat' (first|(simp (disch:=first|omega|assumption|exact f8|exact Or.inl rfl|exact Or.inl trivial|exact j6 _ (fun _=>rfl) _|(simp only[d9]<;>omega)|fail) only[WA,a8,b8,Nat.reduceEqDiff,Nat.reduceLT,Nat.reduceAdd,Nat.reduceBEq,Int.reduceAdd,Int.reduceSub,Int.reduceLT,Int.reduceLE,Int.reduceEq,Int.reduceNeg,↓reduceIte,reduceCtorEq,List.replicate,yB,Z6,AC.l,AC.r])|apply C3)
   all_goals try (exfalso;omega)
   refine a9 (hf _ rfl) ?_
   repeat' (first|(simp (disch:=first|omega|assumption|exact f8|exact Or.inl rfl|exact Or.inl trivial|exact j6 _ (fun _=>rfl) _|(simp only[d9]<;>omega)|fail) only[WA,a8,b8,Nat.reduceEqDiff,Nat.reduceLT,Nat.reduceAdd,Nat.reduceBEq,Int.reduceAdd,Int.reduceSub,Int.reduceLT,Int.reduceLE,Int.reduceEq,Int.reduceNeg,↓reduceIte,reduceCtorEq,List.replicate])|apply C3|((first|apply N9|apply D4|apply I8|apply O0|apply N8|apply I9)<;>intro _))
   all_goals refine tl op right bed pos 0 car 0 _ _ rfl ?_
   all_goals
    cases right<;>simp only[L4,Bool.and_eq_true,decide_eq_true_eq,beq_iff_eq,true_and,and_true,reduceCtorEq,false_and,and_false,or_false,false_or,Nat.reduceEqDiff,true_or,or_true,iff_false,true_iff,false_iff]<;>omega
 by_cases h3:op=6
 ·all_goals
   simp (disch:=first|omega|assumption|exact f8|exact Or.inl rfl|exact Or.inl trivial|exact j6 _ (fun _=>rfl) _|(simp only[d9]<;>omega)|fail) only[WA,a8,b8,Nat.reduceEqDiff,Nat.reduceLT,Nat.reduceAdd,Nat.reduceBEq,Int.reduceAdd,Int.reduceSub,Int.reduceLT,Int.reduceLE,Int.reduceEq,Int.reduceNeg,↓reduceIte,reduceCtorEq,List.replicate,yB,Z6,AC.l,AC.r]
   all_goals try (exfalso;omega)
   refine a9 (hf _ rfl) ?_
   repeat' (first|(simp (disch:=first|omega|assumption|exact f8|exact Or.inl rfl|exact Or.inl trivial|exact j6 _ (fun _=>rfl) _|(simp only[d9]<;>omega)|fail) only[WA,a8,b8,Nat.reduceEqDiff,Nat.reduceLT,Nat.reduceAdd,Nat.reduceBEq,Int.reduceAdd,Int.reduceSub,Int.reduceLT,Int.reduceLE,Int.reduceEq,Int.reduceNeg,↓reduceIte,reduceCtorEq,List.replicate])|apply C3|((first|apply N9|apply D4|apply I8|apply O0|apply N8|apply I9)<;>intro _))
   all_goals refine tl op right bed pos to car 0 _ _ rfl ?_
   all_goals
    cases right<;>simp only[L4,Bool.and_eq_true,decide_eq_true_eq,beq_iff_eq,true_and,and_true,reduceCtorEq,false_and,and_false,or_false,false_or,Nat.reduceEqDiff,true_or,or_true,iff_false,true_iff,false_iff]<;>omega
 by_cases h4:op=7
 ·all_goals
   repeat' (first|(simp (disch:=first|omega|assumption|exact f8|exact Or.inl rfl|exact Or.inl trivial|exact j6 _ (fun _=>rfl) _|(simp only[d9]<;>omega)|fail) only[WA,a8,b8,Nat.reduceEqDiff,Nat.reduceLT,Nat.reduceAdd,Nat.reduceBEq,Int.reduceAdd,Int.reduceSub,Int.reduceLT,Int.reduceLE,Int.reduceEq,Int.reduceNeg,↓reduceIte,reduceCtorEq,List.replicate,yB,Z6,AC.l,AC.r])|apply C3)
   all_goals try (exfalso;omega)
   all_goals refine tl op false bed pos to 0 0 _ _ rfl ?_
   all_goals
    cases right<;>simp only[L4,Bool.and_eq_true,decide_eq_true_eq,beq_iff_eq,true_and,and_true,reduceCtorEq,false_and,and_false,or_false,false_or,Nat.reduceEqDiff,true_or,or_true,iff_false,true_iff,false_iff]<;>omega
 by_cases h5:op=8
 ·all_goals
   repeat' (first|(simp (disch:=first|omega|assumption|exact f8|exact Or.inl rfl|exact Or.inl trivial|exact j6 _ (fun _=>rfl) _|(simp only[d9]<;>omega)|fail) only[WA,a8,b8,Nat.reduceEqDiff,Nat.reduceLT,Nat.reduceAdd,Nat.reduceBEq,Int.reduceAdd,Int.reduceSub,Int.reduceLT,Int.reduceLE,Int.reduceEq,Int.reduceNeg,↓reduceIte,reduceCtorEq,List.replicate,yB,Z6,AC.l,AC.r])|(apply D4<;>intro _))
   all_goals try (exfalso;omega)
   all_goals refine tl op false 0 0 0 0 rack _ _ rfl ?_
   all_goals
    cases right<;>simp only[L4,Bool.and_eq_true,decide_eq_true_eq,beq_iff_eq,true_and,and_true,reduceCtorEq,false_and,and_false,or_false,false_or,Nat.reduceEqDiff,true_or,or_true,iff_false,true_iff,false_iff]<;>omega
 by_cases h6:op=9
 ·all_goals
   repeat' (first|(simp (disch:=first|omega|assumption|exact f8|exact Or.inl rfl|exact Or.inl trivial|exact j6 _ (fun _=>rfl) _|(simp only[d9]<;>omega)|fail) only[WA,a8,b8,Nat.reduceEqDiff,Nat.reduceLT,Nat.reduceAdd,Nat.reduceBEq,Int.reduceAdd,Int.reduceSub,Int.reduceLT,Int.reduceLE,Int.reduceEq,Int.reduceNeg,↓reduceIte,reduceCtorEq,List.replicate,yB,Z6,AC.l,AC.r])|apply C3)
   all_goals try (exfalso;omega)
   all_goals refine tl op false bed pos 0 0 0 _ _ rfl ?_
   all_goals
    cases right<;>simp only[L4,Bool.and_eq_true,decide_eq_true_eq,beq_iff_eq,true_and,and_true,reduceCtorEq,false_and,and_false,or_false,false_or,Nat.reduceEqDiff,true_or,or_true,iff_false,true_iff,false_iff]<;>omega
 rw[key False ?_]
 ·simp (disch:=first|omega|assumption|exact f8|exact Or.inl rfl|exact Or.inl trivial|exact j6 _ (fun _=>rfl) _|(simp only[d9]<;>omega)|fail) only[WA,a8,b8,Nat.reduceEqDiff,Nat.reduceLT,Nat.reduceAdd,Nat.reduceBEq,Int.reduceAdd,Int.reduceSub,Int.reduceLT,Int.reduceLE,Int.reduceEq,Int.reduceNeg,↓reduceIte,reduceCtorEq,List.replicate,yB,Z6,AC.l,AC.r]
  all_goals try (exfalso;omega)
  exact b9 rfl h0 rfl
 ·unfold sT
  simp only[iff_false]
  omega
end
set_option maxHeartbeats 1000000
instance:Inhabited v4:=⟨gU⟩
def p8 (L:List v4):List D:=L.flatMap fun a=>(bA a).map D.sc
theorem l7 (L:List v4):(p8 L).length=L.length*7:=by
 induction L with
 |nil=>rfl
 |cons p L ih=>
  have e:p8 (p::L)=(bA p).map D.sc++p8 L:=by simp[p8]
  rw[e,List.length_append,ih];simp[bA];omega
theorem H7 (L:List v4) (k:Nat) (hk:k<L.length):B4 (p8 L) (k*7) (some 7)=some (Z6 L[k]!):=by
 have:=lH (fun p:v4=>(bA p).map D.sc) 7 L (fun _=>rfl) (by decide) k hk
 unfold p8
 rw[this]
 rfl
theorem U5 (acc:List v4) (i:v4):p8 (acc++ [i])=p8 acc++ [.sc (.int .u8 i.op),.sc (.bool i.right),.sc (.int .u8 i.bed),.sc (.int .i64 i.pos),.sc (.int .i64 i.to),.sc (.int .i64 i.car),.sc (.int .i64 i.rack)]:=by
 simp[p8,bA]
theorem s6 (nx t:Nat) (a b c d e f g:Value):P7 nx t 7 1 [.int .u8 0,.bool false,.int .u8 0,.int .i64 0,.int .i64 0,.int .i64 0,.int .i64 0] [(0,7,.agg [.sc a,.sc b,.sc c,.sc d,.sc e,.sc f,.sc g])]=some (.ref nx 0 1 1,some (.row t 7 false false [.sc a,.sc b,.sc c,.sc d,.sc e,.sc f,.sc g]),[]):=rfl
theorem bJ {H:D6} {o t n:Nat} {z:Bool} {l:List D} (h:i7 H o=some (.gro t 7 z l)) (hl:l.length=n*7):B1 H (.gr 2 o n)=some (.sl 2 n l):=by
 simp only[B1,aL,h]
 rw[if_pos ⟨hl,by decide,by decide,by decide⟩]
 rfl
theorem L6 (L M:List v4):p8 (L++M)=p8 L++p8 M:=by simp[p8]
theorem rJ (L:List v4) (a:Nat) (h:a≤L.length):partD (p8 L) 0 (a*7)=p8 (L.take a):=by
 have h1:(p8 (L.take a)).length=a*7:=by rw[l7,List.length_take];congr 1;omega
 have h2:p8 L=p8 (L.take a)++p8 (L.drop a):=by rw[← L6,List.take_append_drop]
 unfold partD
 rw[h2,List.drop_zero,Nat.sub_zero,List.take_left' h1]
theorem I0 (L:List v4) (a:Nat) (h:a≤L.length):partD (p8 L) (a*7) (L.length*7)=p8 (L.drop a):=by
 have h1:(p8 (L.take a)).length=a*7:=by rw[l7,List.length_take];congr 1;omega
 have h2:p8 L=p8 (L.take a)++p8 (L.drop a):=by rw[← L6,List.take_append_drop]
 have h3:(p8 (L.drop a)).length=L.length*7 - a*7:=by rw[l7,List.length_drop];omega
 unfold partD
 rw[h2,List.drop_left' h1,← h3,List.take_length]
instance:DecidableEq v4:=fun x y=>decidable_of_iff (x.op=y.op∧x.right=y.right∧x.bed=y.bed∧x.pos=y.pos∧x.to=y.to∧x.car=y.car∧x.rack=y.rack) ⟨fun ⟨h1,h2,h3,h4,h5,h6,h7⟩=>v4.ext' h1 h2 h3 h4 h5 h6 h7,fun h=>by subst h;exact ⟨rfl,rfl,rfl,rfl,rfl,rfl,rfl⟩⟩
abbrev iN (z:Int):V:= .sc (.int .i64 z)
abbrev jS (s:Nat) (L:List v4):V:= .sl s L.length (p8 L)
theorem M4 (g:Bool) (x y:v4):lI g [(0,0),(1,2),(2,0),(3,0),(4,0),(5,0),(6,0)] (Z6 x) (Z6 y)=some (.sc (.bool (aE9 g (decide (x=y))))):=by
 obtain ⟨a1,a2,a3,a4,a5,a6,a7⟩:=x
 obtain ⟨b1,b2,b3,b4,b5,b6,b7⟩:=y
 unfold Z6
 rw[eG]
 have e:Q1 [(0,0),(1,2),(2,0),(3,0),(4,0),(5,0),(6,0)] [V.sc (.int .u8 a1),.sc (.bool a2),.sc (.int .u8 a3),.sc (.int .i64 a4),.sc (.int .i64 a5),.sc (.int .i64 a6),.sc (.int .i64 a7)] [V.sc (.int .u8 b1),.sc (.bool b2),.sc (.int .u8 b3),.sc (.int .i64 b4),.sc (.int .i64 b5),.sc (.int .i64 b6),.sc (.int .i64 b7)]=
   some (decide ((a1:Int)=b1) && ((a2==b2) && (decide ((a3:Int)=b3) && (decide (a4=b4) && (decide (a5=b5) && (decide (a6=b6) && decide (a7=b7))))))):=by
  simp only[W1,Z3,cB,Z2,iZ,Bool.and_true,B7,Option.bind_some]
 rw[e]
 simp only[Option.map_some]
 congr 4
 rw[Bool.eq_iff_iff]
 simp only[Bool.and_eq_true,beq_iff_eq,decide_eq_true_eq,v4.mk.injEq]
 constructor
 ·rintro ⟨h1,h2,h3,h4⟩;exact ⟨by omega,h2,by omega,h4⟩
 ·rintro ⟨h1,h2,h3,h4⟩;exact ⟨by omega,h2,by omega,h4⟩
theorem N7 {a l:List v4} (h:a.length=l.length) (ha:∀ j,j<l.length→a[j]! =l[j]!):a=l:=by
 refine List.ext_getElem h fun i h1 h2=>?_
 have:=ha i h2
 rwa [getElem!_pos a i h1,getElem!_pos l i h2] at this
def J7:List v4→List v4→Nat
 |a::A,b::B=>if a=b then J7 A B+1 else 0
 |_,_=>0
theorem cN:∀ (A B:List v4),J7 A B≤A.length∧J7 A B≤B.length
 | [],_=>⟨Nat.zero_le _,Nat.zero_le _⟩
 |_::_,[]=>⟨Nat.zero_le _,Nat.zero_le _⟩
 |a::A,b::B=>by
  have ih:=cN A B
  rw[J7]
  split<;>simp<;>omega
theorem lG:∀ (A B:List v4) (j:Nat),j<J7 A B→A[j]! =B[j]!
 | [],_,j,h=>absurd h (Nat.not_lt_zero _)
 |_::_,[],j,h=>absurd h (Nat.not_lt_zero _)
 |a::A,b::B,j,h=>by
  rw[J7] at h
  split at h
  ·rename_i e
   cases j with
   |zero=>simpa using e
   |succ j=>simpa using lG A B j (by omega)
  ·exact absurd h (Nat.not_lt_zero _)
theorem OP:∀ (A B:List v4),J7 A B<A.length→J7 A B<B.length→A[J7 A B]! ≠ B[J7 A B]!
 | [],_,h,_=>absurd h (Nat.not_lt_zero _)
 |_::_,[],_,h=>absurd h (Nat.not_lt_zero _)
 |a::A,b::B,h1,h2=>by
  rw[J7] at h1 h2 ⊢
  split at h1
  ·rename_i e
   rw[if_pos e] at h2 ⊢
   have:=OP A B (by simpa using h1) (by simpa using h2)
   simpa using this
  ·rename_i e
   rw[if_neg e]
   simpa using e
section
variable (w:World) (n:Nat)
theorem nJ (s t:Nat) (L M:List v4) (hL:L.length≤140737488351232) (hM:M.length≤140737488351232):n5 (EN w (n+1)) 16 [jS s L,jS t M] (.sc (.bool (decide (L=M)))) ⟨[],0,0⟩:=by
 have hil:=l7 L
 have him:=l7 M
 by_cases hlen:L.length=M.length
 case neg=>
  rw[decide_eq_false fun h=>hlen (by rw[h])]
  refine i9 rfl rfl (fun _ _=>rfl) (Nat.le_of_ble_eq_true rfl) (k9 w) rfl fun C hC h0=>?_
  simp (disch:=first|omega|exact f8|fail) only[WA,Nat.reduceEqDiff,Nat.reduceLT,↓reduceIte,reduceCtorEq,c16]
  all_goals try (exfalso;omega)
  exact b9 rfl h0 rfl
 refine i9 rfl rfl (fun _ _=>rfl) (Nat.le_of_ble_eq_true rfl) (k9 w) rfl fun C hC h0=>?_
 have hrn:C.E.rounds=x8:=by rw[hC,j8]
 simp (disch:=first|omega|exact f8|fail) only[WA,Nat.reduceEqDiff,Nat.reduceLT,↓reduceIte,reduceCtorEq,c16]
 all_goals try (exfalso;omega)
 refine n9 (fun m fr st=>∃ (k:Nat),m=L.length - k∧k≤L.length∧(∀ j,j<k→L[j]! =M[j]!)∧fr= [(0,jS s L),(1,jS t M),(12,iN L.length),(13,iN k)]∧st=⟨[],0,0⟩) L.length ?_ ⟨_,_,.refl _ _,0,by omega,Nat.zero_le _,fun j hj=>absurd hj (Nat.not_lt_zero _),rfl,rfl⟩ ?_
 ·rw[hrn];unfold x8;omega
 rintro m fr st ⟨k,rfl,hk,heq,rfl,rfl⟩
 by_cases hlt:k<L.length
 ·have hag:=H7 L k hlt
  have hag2:=H7 M k (by omega)
  by_cases hx:L[k]! =M[k]!
  ·have hnx:∀ j,j<k+1→L[j]! =M[j]! :=fun j hj=>by
    rcases Nat.lt_succ_iff_lt_or_eq.1 hj with h|h
    ·exact heq j h
    ·rw[h];exact hx
   rw[hx] at hag
   simp (disch:=first|omega|exact f8|(simp only[d9]<;>omega)) only[WA,a8,b8,Nat.reduceEqDiff,Nat.reduceLT,↓reduceIte,reduceCtorEq,RB,hag,hag2,↓M4]
   all_goals try (exfalso;omega)
   exact ⟨L.length - (k+1),_,_,by omega,.refl _ _,k+1,rfl,by omega,hnx,rfl,rfl⟩
  ·rw[decide_eq_false fun h=>hx (by rw[h])]
   have hdd:=decide_eq_false hx
   simp (disch:=first|omega|exact f8|fail) only[WA,a8,b8,Nat.reduceEqDiff,Nat.reduceLT,↓reduceIte,reduceCtorEq,RB,hag,hag2,↓M4,hdd]
   all_goals try (exfalso;omega)
   exact b9 rfl h0 rfl
 ·rw[decide_eq_true (N7 hlen fun j h=>heq j (by omega))]
  simp (disch:=first|omega|exact f8|fail) only[WA,Nat.reduceEqDiff,Nat.reduceLT,↓reduceIte,reduceCtorEq,RB]
  all_goals try (exfalso;omega)
  exact b9 rfl h0 rfl
theorem EY (s t:Nat) (L M:List v4) (hL:L.length≤140737488351232) (hM:M.length≤140737488351232):n5 (EN w (n+1)) 26 [jS s L,jS t M] (.sc (.bool (decide (L=M)))) ⟨[],0,0⟩:=by
 have hil:=l7 L
 have him:=l7 M
 by_cases hlen:L.length=M.length
 case neg=>
  rw[decide_eq_false fun h=>hlen (by rw[h])]
  refine i9 rfl rfl (fun _ _=>rfl) (Nat.le_of_ble_eq_true rfl) (k9 w) rfl fun C hC h0=>?_
  simp (disch:=first|omega|exact f8|fail) only[WA,Nat.reduceEqDiff,Nat.reduceLT,↓reduceIte,reduceCtorEq,c26]
  all_goals try (exfalso;omega)
  exact b9 rfl h0 rfl
 refine i9 rfl rfl (fun _ _=>rfl) (Nat.le_of_ble_eq_true rfl) (k9 w) rfl fun C hC h0=>?_
 have hrn:C.E.rounds=x8:=by rw[hC,j8]
 simp (disch:=first|omega|exact f8|fail) only[WA,Nat.reduceEqDiff,Nat.reduceLT,↓reduceIte,reduceCtorEq,c26]
 all_goals try (exfalso;omega)
 refine n9 (fun m fr st=>∃ (k:Nat),m=L.length - k∧k≤L.length∧(∀ j,j<k→L[j]! =M[j]!)∧fr= [(0,jS s L),(1,jS t M),(5,iN k)]∧st=⟨[],0,0⟩) L.length ?_ ⟨_,_,.refl _ _,0,by omega,Nat.zero_le _,fun j hj=>absurd hj (Nat.not_lt_zero _),rfl,rfl⟩ ?_
 ·rw[hrn];unfold x8;omega
 rintro m fr st ⟨k,rfl,hk,heq,rfl,rfl⟩
 by_cases hlt:k<L.length
 ·have hag:=H7 L k hlt
  have hag2:=H7 M k (by omega)
  by_cases hx:L[k]! =M[k]!
  ·have hnx:∀ j,j<k+1→L[j]! =M[j]! :=fun j hj=>by
    rcases Nat.lt_succ_iff_lt_or_eq.1 hj with h|h
    ·exact heq j h
    ·rw[h];exact hx
   rw[hx] at hag
   simp (disch:=first|omega|exact f8|(simp only[d9]<;>omega)) only[WA,a8,b8,Nat.reduceEqDiff,Nat.reduceLT,↓reduceIte,reduceCtorEq,RF,hag,hag2,↓M4]
   all_goals try (exfalso;omega)
   exact ⟨L.length - (k+1),_,_,by omega,.refl _ _,k+1,rfl,by omega,hnx,rfl,rfl⟩
  ·rw[decide_eq_false fun h=>hx (by rw[h])]
   have hdd:=decide_eq_false hx
   simp (disch:=first|omega|exact f8|fail) only[WA,a8,b8,Nat.reduceEqDiff,Nat.reduceLT,↓reduceIte,reduceCtorEq,RF,hag,hag2,↓M4,hdd]
   all_goals try (exfalso;omega)
   exact b9 rfl h0 rfl
 ·rw[decide_eq_true (N7 hlen fun j h=>heq j (by omega))]
  simp (disch:=first|omega|exact f8|fail) only[WA,Nat.reduceEqDiff,Nat.reduceLT,↓reduceIte,reduceCtorEq,RF]
  all_goals try (exfalso;omega)
  exact b9 rfl h0 rfl
theorem UM (s:Nat) (L:List v4) (hL:L.length≤140737488351232):n5 (EN w (n+1)) 4 [.sl s L.length (p8 L)] (.sc (.bool (decide (300<L.length∧L.length≤2000∨2100<L.length)))) ⟨[],0,0⟩:=by
 refine i9 rfl rfl (fun _ _=>rfl) (Nat.le_of_ble_eq_true rfl) (k9 w) rfl fun C hC h0=>?_
 have hil:=l7 L
 by_cases h1:300<L.length
 ·by_cases h2:L.length≤2000
  ·rw[decide_eq_true (.inl ⟨h1,h2⟩)]
   simp (disch:=first|omega|exact f8|fail) only[WA,Nat.reduceEqDiff,Nat.reduceLT,↓reduceIte,reduceCtorEq,c4]
   all_goals try (exfalso;omega)
   exact b9 rfl h0 rfl
  ·by_cases h3:2100<L.length
   ·rw[decide_eq_true (.inr h3)]
    simp (disch:=first|omega|exact f8|fail) only[WA,Nat.reduceEqDiff,Nat.reduceLT,↓reduceIte,reduceCtorEq,c4]
    all_goals try (exfalso;omega)
    exact b9 rfl h0 rfl
   ·rw[decide_eq_false (by omega)]
    simp (disch:=first|omega|exact f8|fail) only[WA,Nat.reduceEqDiff,Nat.reduceLT,↓reduceIte,reduceCtorEq,c4]
    all_goals try (exfalso;omega)
    exact b9 rfl h0 rfl
 ·rw[decide_eq_false (by omega)]
  simp (disch:=first|omega|exact f8|fail) only[WA,Nat.reduceEqDiff,Nat.reduceLT,↓reduceIte,reduceCtorEq,c4]
  all_goals try (exfalso;omega)
  exact b9 rfl h0 rfl
end
end Go.Proofs.Ytgohenjcanfolaa
namespace Go.Proofs.Ytgohenjcanfolaa
open Go Go.Itp
set_option maxRecDepth 100000
set_option maxHeartbeats 1000000
set_option linter.unusedSimpArgs false
set_option linter.unusedVariables false
def cT (A:List v4):Nat→Nat
 |0=>0
 |n+1=>if A[n]! =A[n+1]! then cT A n else n+1
theorem HD (A:List v4):∀ n,cT A n≤n
 |0=>Nat.le_refl _
 |n+1=>by
  have:=HD A n
  rw[cT];split<;>omega
theorem tI (A:List v4):∀ n j,cT A n≤j→j≤n→A[j]! =A[n]!
 |0,j,h1,h2=>by rw[show j=0 by omega]
 |n+1,j,h1,h2=>by
  rw[cT] at h1
  split at h1
  ·rename_i e
   by_cases hj:j=n+1
   ·rw[hj]
   ·rw[tI A n j h1 (by omega),e]
  ·rw[show j=n+1 by omega]
theorem HE (A:List v4):∀ n i,i<cT A n→∃ j,i≤j∧j<n∧A[j]! ≠ A[j+1]!
 |0,i,h=>absurd h (Nat.not_lt_zero _)
 |n+1,i,h=>by
  rw[cT] at h
  split at h
  ·obtain ⟨j,h1,h2,h3⟩:=HE A n i h
   exact ⟨j,h1,by omega,h3⟩
  ·rename_i e
   exact ⟨n,by omega,by omega,e⟩
def H8 (A B:List v4):Option Nat:=if A.length=B.length+1∧A.drop (J7 A B+1)=B.drop (J7 A B) then some (cT A (J7 A B)) else none
def wo (A:List v4) (i:Nat):List v4:=A.take i++A.drop (i+1)
theorem dW (A:List v4) (i j:Nat) (h:i+j<A.length):(A.drop i)[j]! =A[i+j]! :=by
 rw[getElem!_pos _ j (by rw[List.length_drop];omega),List.getElem_drop,getElem!_pos A (i+j) h]
theorem QN {A B:List v4} (hl:A.length=B.length+1) {i:Nat} (hi:i≤J7 A B):wo A i=B↔∀ j,i≤j→j<B.length→A[j+1]! =B[j]! :=by
 have hc:=cN A B
 have e1:(A.take i).length=i:=by rw[List.length_take];omega
 constructor
 ·intro h j h1 h2
  have:B[j]! =(wo A i)[j]! :=by rw[h]
  rw[this]
  unfold wo
  rw[getElem!_pos (A.take i++A.drop (i+1)) j (by simp;omega),List.getElem_append_right (by omega)]
  simp only[e1]
  rw[List.getElem_drop,getElem!_pos A (j+1) (by omega)]
  congr 1;omega
 ·intro h
  refine N7 (by unfold wo;simp;omega) fun j hj=>?_
  unfold wo
  rw[getElem!_pos (A.take i++A.drop (i+1)) j (by simp;omega)]
  by_cases hji:j<i
  ·rw[List.getElem_append_left (by omega),List.getElem_take]
   have:=lG A B j (by omega)
   rw[getElem!_pos A j (by omega)] at this
   exact this
  ·rw[List.getElem_append_right (by omega)]
   simp only[e1]
   rw[List.getElem_drop,← h j (by omega) hj,getElem!_pos A (j+1) (by omega)]
   congr 1;omega
theorem IL {A B:List v4} (hl:A.length=B.length+1):A.drop (J7 A B+1)=B.drop (J7 A B)↔∀ j,J7 A B≤j→j<B.length→A[j+1]! =B[j]! :=by
 have hc:=cN A B
 constructor
 ·intro h j h1 h2
  obtain ⟨d,rfl⟩:∃ d,j=J7 A B+d:=⟨j - J7 A B,by omega⟩
  have a1:=dW A (J7 A B+1) d (by omega)
  have a2:=dW B (J7 A B) d (by omega)
  rw[h,a2] at a1
  rw[a1]
  congr 1;omega
 ·intro h
  refine N7 (by simp;omega) fun j hj=>?_
  rw[List.length_drop] at hj
  rw[dW _ _ _ (by omega),dW _ _ _ (by omega),← h (J7 A B+j) (by omega) (by omega)]
  congr 1;omega
theorem PC {A B:List v4} (hl:A.length=B.length+1) (h:H8 A B=none) {i:Nat} (hi:i≤J7 A B):wo A i ≠ B:=fun e=>by
 unfold H8 at h
 rw[if_pos ⟨hl,(IL hl).2 fun j h1 h2=>(QN hl hi).1 e j (by omega) h2⟩] at h
 cases h
theorem uS {A B:List v4} {k:Nat} (h:H8 A B=some k):A.length=B.length+1∧A.drop (J7 A B+1)=B.drop (J7 A B)∧k=cT A (J7 A B)∧k≤J7 A B∧wo A k=B∧∀ i,i<k→wo A i ≠ B:=by
 unfold H8 at h
 split at h
 case isFalse=>cases h
 rename_i hc
 cases h
 obtain ⟨hl,hd⟩:=hc
 have hle:=cN A B
 have hb:=HD A (J7 A B)
 have hd':=(IL hl).1 hd
 refine ⟨hl,hd,rfl,hb,(QN hl hb).2 fun j h1 h2=>?_,fun i hi e=>?_⟩
 ·by_cases hj:J7 A B≤j
  ·exact hd' j hj h2
  ·rw[← lG A B j (by omega),tI A (J7 A B) j h1 (by omega),tI A (J7 A B) (j+1) (by omega) (by omega)]
 ·obtain ⟨j,h1,h2,h3⟩:=HE A (J7 A B) i hi
  have:=(QN hl (by omega)).1 e j h1 (by omega)
  rw[← lG A B j h2] at this
  exact h3 this.symm
section
variable (w:World) (n:Nat)
theorem IC (s t:Nat) (L M:List v4) (hL:L.length≤140737488351232) (hM:M.length≤140737488351232):n5 (EN w (n+1)) 14 [jS s L,jS t M] (iN (J7 L M)) ⟨[],0,0⟩:=by
 have hil:=l7 L
 have him:=l7 M
 have hc:=cN L M
 refine i9 rfl rfl (fun _ _=>rfl) (Nat.le_of_ble_eq_true rfl) (k9 w) rfl fun C hC h0=>?_
 have hrn:C.E.rounds=x8:=by rw[hC,j8]
 simp (disch:=first|exact f8|fail) only[WA,Nat.reduceEqDiff,Nat.reduceLT,↓reduceIte,reduceCtorEq,c14]
 refine n9 (fun m fr st=>∃ (k:Nat),m=J7 L M - k∧k≤J7 L M∧fr= [(0,jS s L),(1,jS t M),(5,iN k)]∧st=⟨[],0,0⟩) (J7 L M) ?_ ⟨_,_,.refl _ _,0,by omega,Nat.zero_le _,rfl,rfl⟩ ?_
 ·rw[hrn];unfold x8;omega
 rintro m fr st ⟨k,rfl,hk,rfl,rfl⟩
 by_cases hlt:k<L.length∧k<M.length
 case neg=>
  have:k=J7 L M:=by omega
  rw[← this]
  simp (disch:=first|omega|exact f8|fail) only[WA,a8,b8,Nat.reduceEqDiff,Nat.reduceLT,↓reduceIte,reduceCtorEq,RA]
  all_goals try (exfalso;omega)
  exact b9 rfl h0 rfl
 obtain ⟨hl1,hl2⟩:=hlt
 have hag:=H7 L k hl1
 have hag2:=H7 M k hl2
 by_cases hx:L[k]! =M[k]!
 ·have hkc:k<J7 L M:=by
   by_cases h:k<J7 L M
   ·exact h
   ·have:k=J7 L M:=by omega
    have hne:=OP L M (by omega) (by omega)
    rw[← this] at hne
    exact absurd hx hne
  rw[hx] at hag
  simp (disch:=first|omega|exact f8|(simp only[d9]<;>omega)) only[WA,a8,b8,Nat.reduceEqDiff,Nat.reduceLT,↓reduceIte,reduceCtorEq,RA,hag,hag2,↓M4]
  all_goals try (exfalso;omega)
  exact ⟨J7 L M - (k+1),_,_,by omega,.refl _ _,k+1,rfl,by omega,rfl,rfl⟩
 ·have hkc:k=J7 L M:=by
   by_cases h:k<J7 L M
   ·exact absurd (lG L M k h) hx
   ·omega
  rw[← hkc]
  have hdd:=decide_eq_false hx
  simp (disch:=first|omega|exact f8|fail) only[WA,a8,b8,Nat.reduceEqDiff,Nat.reduceLT,↓reduceIte,reduceCtorEq,RA,hag,hag2,↓M4,hdd]
  all_goals try (exfalso;omega)
  exact b9 rfl h0 rfl
theorem RS (s t:Nat) (L M:List v4) (hL:L.length≤140737488351232) (hM:M.length≤140737488351232):n5 (EN w (n+1)) 24 [jS s L,jS t M] (iN (J7 L M)) ⟨[],0,0⟩:=by
 have hil:=l7 L
 have him:=l7 M
 have hc:=cN L M
 refine i9 rfl rfl (fun _ _=>rfl) (Nat.le_of_ble_eq_true rfl) (k9 w) rfl fun C hC h0=>?_
 have hrn:C.E.rounds=x8:=by rw[hC,j8]
 simp (disch:=first|exact f8|fail) only[WA,Nat.reduceEqDiff,Nat.reduceLT,↓reduceIte,reduceCtorEq,c24]
 refine n9 (fun m fr st=>∃ (k:Nat),m=J7 L M - k∧k≤J7 L M∧fr= [(0,jS s L),(1,jS t M),(5,iN k)]∧st=⟨[],0,0⟩) (J7 L M) ?_ ⟨_,_,.refl _ _,0,by omega,Nat.zero_le _,rfl,rfl⟩ ?_
 ·rw[hrn];unfold x8;omega
 rintro m fr st ⟨k,rfl,hk,rfl,rfl⟩
 by_cases hl1:k<L.length
 case neg=>
  have:k=J7 L M:=by omega
  rw[← this]
  simp (disch:=first|omega|exact f8|fail) only[WA,a8,b8,Nat.reduceEqDiff,Nat.reduceLT,↓reduceIte,reduceCtorEq,HL]
  all_goals try (exfalso;omega)
  exact b9 rfl h0 rfl
 by_cases hl2:k<M.length
 case neg=>
  have:k=J7 L M:=by omega
  rw[← this]
  simp (disch:=first|omega|exact f8|fail) only[WA,a8,b8,Nat.reduceEqDiff,Nat.reduceLT,↓reduceIte,reduceCtorEq,HL]
  all_goals try (exfalso;omega)
  exact b9 rfl h0 rfl
 have hag:=H7 L k hl1
 have hag2:=H7 M k hl2
 by_cases hx:L[k]! =M[k]!
 ·have hkc:k<J7 L M:=by
   by_cases h:k<J7 L M
   ·exact h
   ·have:k=J7 L M:=by omega
    have hne:=OP L M (by omega) (by omega)
    rw[← this] at hne
    exact absurd hx hne
  rw[hx] at hag
  simp (disch:=first|omega|exact f8|(simp only[d9]<;>omega)) only[WA,a8,b8,Nat.reduceEqDiff,Nat.reduceLT,↓reduceIte,reduceCtorEq,HL,hag,hag2,↓M4]
  all_goals try (exfalso;omega)
  exact ⟨J7 L M - (k+1),_,_,by omega,.refl _ _,k+1,rfl,by omega,rfl,rfl⟩
 ·have hkc:k=J7 L M:=by
   by_cases h:k<J7 L M
   ·exact absurd (lG L M k h) hx
   ·omega
  rw[← hkc]
  have hdd:=decide_eq_false hx
  simp (disch:=first|omega|exact f8|fail) only[WA,a8,b8,Nat.reduceEqDiff,Nat.reduceLT,↓reduceIte,reduceCtorEq,HL,hag,hag2,↓M4,hdd]
  all_goals try (exfalso;omega)
  exact b9 rfl h0 rfl
end
def dA (o:Option Nat):V:=match o with
 |none=> .tup [iN 0,.sc (.bool false)]
 |some k=> .tup [iN k,.sc (.bool true)]
section
variable (w:World) (n:Nat)
theorem aD8 (A B:List v4) (hA:A.length≤2500) (hB:B.length≤2500):n5 (EN w (n+2)) 19 [jS 3 A,jS 3 B] (dA (H8 A B)) ⟨[],0,0⟩:=by
 have hil:=l7 A
 have him:=l7 B
 have hc:=cN A B
 have hcm:=IC w n 3 3 A B (by omega) (by omega)
 refine i9 rfl rfl (fun _ _=>rfl) (Nat.le_of_ble_eq_true rfl) (k9 w) (by cases H8 A B<;>rfl) fun C hC h0=>?_
 have hrn:C.E.rounds=x8:=by rw[hC,j8]
 by_cases hl:A.length=B.length+1
 case neg=>
  have e:H8 A B=none:=if_neg fun h=>hl h.1
  rw[e]
  simp (disch:=first|omega|exact f8|fail) only[WA,a8,b8,Nat.reduceEqDiff,Nat.reduceLT,↓reduceIte,reduceCtorEq,c19]
  refine a9 (by rw[hC];exact hcm.flat rfl rfl) ?_
  repeat' (first|(simp (disch:=fail) only[WA,a8,b8,Nat.reduceEqDiff,Nat.reduceLT,Nat.reduceAdd,Nat.reduceBEq,Int.reduceAdd,Int.reduceSub,Int.reduceLT,Int.reduceLE,Int.reduceEq,Int.reduceNeg,↓reduceIte,reduceCtorEq,List.replicate])|apply C3|((first|apply N9|apply D4|apply I8|apply O0|apply N8|apply I9)<;>intro _))
  all_goals try (exfalso;omega)
  exact b9 rfl h0 rfl
 have e1:=I0 A (J7 A B+1) (by omega)
 have e2:=I0 B (J7 A B) (by omega)
 have heq:=nJ w n 3 3 (A.drop (J7 A B+1)) (B.drop (J7 A B)) (by simp;omega) (by simp;omega)
 unfold jS at heq
 rw[← e1,← e2,List.length_drop,List.length_drop] at heq
 by_cases hd:A.drop (J7 A B+1)=B.drop (J7 A B)
 case neg=>
  have e:H8 A B=none:=if_neg fun h=>hd h.2
  rw[e]
  rw[decide_eq_false hd] at heq
  generalize J7 A B=N at*
  simp (disch:=first|omega|exact f8|fail) only[WA,a8,b8,Nat.reduceEqDiff,Nat.reduceLT,↓reduceIte,reduceCtorEq,c19]
  refine a9 (by rw[hC];exact hcm.flat rfl rfl) ?_
  simp (disch:=first|omega|exact f8|fail) only[WA,a8,b8,Nat.reduceEqDiff,Nat.reduceLT,↓reduceIte,reduceCtorEq,show ((N:Int)+1).toNat=N+1 from by omega]
  all_goals try (exfalso;omega)
  refine a9 (by rw[hC];exact heq.flat rfl rfl) ?_
  simp (disch:=first|exact f8|fail) only[WA,Nat.reduceEqDiff,Nat.reduceLT,↓reduceIte,reduceCtorEq]
  exact b9 rfl h0 rfl
 have e:H8 A B=some (cT A (J7 A B)):=if_pos ⟨hl,hd⟩
 rw[e]
 rw[decide_eq_true hd] at heq
 generalize J7 A B=N at*
 simp (disch:=first|omega|exact f8|fail) only[WA,a8,b8,Nat.reduceEqDiff,Nat.reduceLT,↓reduceIte,reduceCtorEq,c19]
 refine a9 (by rw[hC];exact hcm.flat rfl rfl) ?_
 simp (disch:=first|omega|exact f8|fail) only[WA,a8,b8,Nat.reduceEqDiff,Nat.reduceLT,↓reduceIte,reduceCtorEq,show ((N:Int)+1).toNat=N+1 from by omega]
 all_goals try (exfalso;omega)
 refine a9 (by rw[hC];exact heq.flat rfl rfl) ?_
 simp (disch:=first|exact f8|fail) only[WA,Nat.reduceEqDiff,Nat.reduceLT,↓reduceIte,reduceCtorEq]
 refine n9 (fun m fr st=>∃ k:Nat,m=k∧k≤N∧cT A k=cT A N∧fr= [(0,jS 3 A),(6,iN k)]∧st=⟨[],0,0⟩) N ?_ ⟨_,_,mA [0,6] rfl,N,rfl,Nat.le_refl _,rfl,rfl,rfl⟩ ?_
 ·rw[hrn];unfold x8;omega
 rintro m fr st ⟨k,rfl,hk,hb,rfl,rfl⟩
 cases m with
 |zero=>
  rw[← hb]
  simp (disch:=first|omega|exact f8|fail) only[WA,a8,b8,Nat.reduceEqDiff,Nat.reduceLT,↓reduceIte,reduceCtorEq,RC]
  all_goals try (exfalso;omega)
  exact b9 rfl h0 rfl
 |succ k=>
  have hag:=H7 A k (by omega)
  have hag2:=H7 A (k+1) (by omega)
  have hk1:((k+1:Nat):Int) - 1=(k:Int):=by omega
  have hk2:((k+1:Nat):Int).toNat=k+1:=by omega
  rw[cT] at hb
  by_cases hx:A[k]! =A[k+1]!
  ·rw[if_pos hx] at hb
   rw[hx] at hag
   simp (disch:=first|omega|exact f8|(simp only[d9]<;>omega)) only[WA,a8,b8,Nat.reduceEqDiff,Nat.reduceLT,↓reduceIte,reduceCtorEq,RC,hag,hag2,↓M4,hk1,hk2]
   all_goals try (exfalso;omega)
   exact ⟨k,_,_,by omega,.refl _ _,k,rfl,by omega,hb,rfl,rfl⟩
  ·rw[if_neg hx] at hb
   rw[← hb]
   have hdd:=decide_eq_false hx
   simp (disch:=first|omega|exact f8|fail) only[WA,a8,b8,Nat.reduceEqDiff,Nat.reduceLT,↓reduceIte,reduceCtorEq,RC,hag,hag2,↓M4,hdd,hk1,hk2]
   all_goals try (exfalso;omega)
   exact b9 rfl h0 rfl
end
def z7:List Value:= [.int .u8 0,.bool false,.int .u8 0,.int .i64 0,.int .i64 0,.int .i64 0,.int .i64 0]
theorem bH5 (m:Nat):lU (rep z7 m)=p8 (List.replicate m gU):=by
 induction m with
 |zero=>rfl
 |succ m ih=>
  have e:p8 (List.replicate (m+1) gU)=lU z7++p8 (List.replicate m gU):=by simp[p8,List.replicate_succ];rfl
  rw[e,← ih]
  simp[rep,lU]
theorem bD8 (nx t b:Nat) (n:Nat) (hn:0<n) (h1:n≤1099511627776) (h2:n*b≤1099511627776):lY nx t 7 b [.int .u8 0,.bool false,.int .u8 0,.int .i64 0,.int .i64 0,.int .i64 0,.int .i64 0] (.sc (.slice none 0 0)) (.sc (.int .i64 n))=some (.gr 2 nx n,some (.gro t 7 false (p8 (List.replicate n gU))),[]):=by
 simp only[lY]
 rw[if_neg (by omega),if_pos ⟨by omega,by unfold r5;omega,rfl,by simp⟩]
 simp only[Int.toNat_natCast]
 rw[if_pos (by rw[Nat.ble_eq];exact h2)]
 have:=bH5 n
 unfold z7 at this
 rw[this]
theorem nG:p8 []= []:=(rfl)
def PV (p:Nat × List v4):D:= .sl p.1 p.2.length (p8 p.2)
theorem sL (p:Nat × List v4):dv (PV p)= .sl p.1 p.2.length (p8 p.2):=(rfl)
def N3 (L:List (Nat × List v4)):List v4:=L.flatMap (·.2)
theorem oR {L:List (Nat × List v4)} {k:Nat} (hk:k<L.length):N3 (L.take (k+1))=N3 (L.take k)++L[k]!.2:=by
 unfold N3
 rw[List.take_succ_eq_append_getElem hk,List.flatMap_append,getElem!_pos L k hk]
 simp
theorem mO {L:List (Nat × List v4)} (k:Nat):(N3 (L.take k)).length≤(N3 L).length:=by
 have:N3 L=N3 (L.take k)++N3 (L.drop k):=by
  unfold N3
  rw[← List.flatMap_append,List.take_append_drop]
 rw[this,List.length_append]
 omega
theorem GZ (nx t e b n N o k m:Nat) (base:YQ) (new:List D) (fz:List Nat) (hm:m ≠ 0):Z0 nx t e b n (t8+N) o k base (some (m,new,fz))=none:=by
 have h:Nat.blt (t8+N) t8=false:=by rw[← Bool.not_eq_true,Nat.blt_eq];omega
 simp only[Z0,h,Bool.false_and,Bool.false_eq_true,if_false]
 rw[if_neg (by rw[j7];exact hm)]
 split<;>rfl
theorem aJ6 (A l:List v4) (T:Nat) (h:A.length+l.length≤T):
  (p8 (A++List.replicate (T - A.length) gU)).take (A.length*7)++p8 l++(p8 (A++List.replicate (T - A.length) gU)).drop (A.length*7+(p8 l).length)=p8 ((A++l)++List.replicate (T - (A.length+l.length)) gU):=by
 have h1:(p8 A).length=A.length*7:=l7 A
 have h2:List.replicate (T - A.length) gU=List.replicate l.length gU++List.replicate (T - (A.length+l.length)) gU:=by
  rw[List.replicate_append_replicate];congr 1;omega
 have h3:(p8 (List.replicate l.length gU)).length=(p8 l).length:=by rw[l7,l7,List.length_replicate]
 rw[h2,L6,L6,L6,L6,List.take_left' h1,← List.append_assoc (p8 A),List.drop_left' (by rw[List.length_append,h1,h3])]
section
variable (w:World) (n:Nat)
theorem PA:n5 (EN w (n+1)) 32 [.sc (.slice none 0 0),iN 0] (.sc (.slice none 0 0)) ⟨[],0,0⟩:=by
 refine i9 rfl rfl (fun _ _=>rfl) (Nat.le_of_ble_eq_true rfl) (k9 w) rfl fun C hC h0=>?_
 simp (disch:=first|omega|exact f8|fail) only[WA,Nat.reduceEqDiff,Nat.reduceLT,Int.reduceSub,Int.reduceLT,↓reduceIte,reduceCtorEq,c32]
 exact b9 rfl h0 rfl
theorem aR4 (N:Nat) (hN:0<N) (hN2:N≤1000000000):n5 (EN w (n+1)) 32 [.sc (.slice none 0 0),iN N] (.ref 0 0 0 (t8+N)) ⟨[(0,.row 40 7 true false (p8 (List.replicate N gU)))],1,0⟩:=by
 refine N2 rfl rfl (fun _ _=>rfl) (Nat.le_of_ble_eq_true rfl) (k9 w) XI rfl fun C hC h0=>?_
 have hne:N ≠ 0:=by omega
 have hil:=l7 (List.replicate N gU)
 rw[List.length_replicate] at hil
 simp (disch:=first|omega|exact f8|fail) only[WA,Nat.reduceEqDiff,Nat.reduceLT,↓reduceIte,reduceCtorEq,c32,Int.sub_zero,bD8]
 refine (aO7 (o:=0) (t:=40) (e:=7) (z:=false) (l:=p8 (List.replicate N gU)) rfl (by intro e;rw[e] at hil;simp at hil;omega)).trans ?_
 exact .refl _ _
theorem VY (L:List (Nat × List v4)) (hL:L.length≤1000) (hk:∀ p ∈ L,p.1 ≠ 1∨p.2.length ≠ 0) (hT:(N3 L).length≤100000):n5 (EN w (n+2)) 11 [.sl 0 L.length (L.map PV)] (.gr 2 0 (N3 L).length) ⟨[(0,.gro 40 7 false (p8 (N3 L)))],1,0⟩:=by
 refine N2 rfl rfl (fun _ _=>rfl) (Nat.le_of_ble_eq_true rfl) (k9 w) (aJ3 (by have:=l7 (N3 L);constructor<;>intro h;exact List.eq_nil_of_length_eq_zero (by omega);rw[h] at this;simp at this;omega)) rfl fun C hC h0=>?_
 simp (disch:=first|exact f8|fail) only[WA,Nat.reduceEqDiff,Nat.reduceLT,↓reduceIte,reduceCtorEq,c11]
 refine n9 (fun m fr st=>∃ k:Nat,m=L.length - k∧k≤L.length∧fr= [(0,.sl 0 L.length (L.map PV)),(3,iN (N3 (L.take k)).length),(9,.sl 0 L.length (L.map PV)),(10,iN L.length),(11,iN k)]∧st=⟨[],0,0⟩) L.length ?_ ⟨_,_,.refl _ _,0,?_⟩ ?_
 ·rw[hC,j8];unfold x8;omega
 ·exact ⟨by omega,by omega,rfl,rfl⟩
 ·rintro m fr st ⟨k,rfl,hkl,rfl,rfl⟩
  have hcl:=mO (L:=L) k
  by_cases hlt:k<L.length
  ·have hcs:=oR hlt
   have hcl2:=mO (L:=L) (k+1)
   have hl2:(N3 (L.take (k+1))).length=(N3 (L.take k)).length+L[k]!.2.length:=by rw[hcs,List.length_append]
   generalize hp:L[k]! =p at hl2
   obtain ⟨s,l⟩:=p
   simp only at hl2
   simp (disch:=first|omega|exact f8|fail) only[WA,Nat.reduceEqDiff,Nat.reduceLT,↓reduceIte,reduceCtorEq,QZ,sL,hp]
   exact ⟨_,_,_,by omega,.refl _ _,k+1,rfl,hlt,by rw[hl2];rfl,rfl⟩
  ·have:k=L.length:=by omega
   subst this
   rw[List.take_length]
   by_cases hz:(N3 L).length=0
   ·simp (disch:=first|omega|exact f8|fail) only[WA,Nat.reduceEqDiff,Nat.reduceLT,↓reduceIte,reduceCtorEq,QZ,hz]
    refine a9 ((fun st=>(PA w n).of hC rfl st rfl) _) ?_
    repeat' (first|(simp (disch:=fail) only[WA,a8,b8,Nat.reduceEqDiff,Nat.reduceLT,Nat.reduceAdd,Nat.reduceBEq,Int.reduceAdd,Int.reduceSub,Int.reduceLT,Int.reduceLE,Int.reduceEq,Int.reduceNeg,↓reduceIte,reduceCtorEq,List.replicate])|apply C3|((first|apply N9|apply D4|apply I8|apply O0|apply N8|apply I9)<;>intro _))
    refine n9 (fun m fr st=>∃ k:Nat,m=L.length - k∧k≤L.length∧fr= [(6,.sc (.slice none 0 0)),(25,.sl 0 L.length (L.map PV)),(26,iN L.length),(27,iN k)]∧st=⟨[],0,0⟩) L.length ?_ ⟨_,_,.refl _ _,0,?_⟩ ?_
    ·rw[hC,j8];unfold x8;omega
    ·exact ⟨by omega,by omega,rfl,rfl⟩
    ·rintro m fr st ⟨k,rfl,hkl,rfl,rfl⟩
     by_cases hlt:k<L.length
     ·have hcs:=oR hlt
      have hcl2:=mO (L:=L) (k+1)
      have hl2:(N3 (L.take (k+1))).length=(N3 (L.take k)).length+L[k]!.2.length:=by rw[hcs,List.length_append]
      generalize hp:L[k]! =p at hl2
      obtain ⟨s,l⟩:=p
      simp only at hl2
      obtain rfl:l= []:=List.eq_nil_of_length_eq_zero (by omega)
      simp (disch:=first|omega|exact f8|fail) only[WA,Nat.reduceEqDiff,Nat.reduceLT,↓reduceIte,zE,sL,hp,nG]
      exact ⟨_,_,_,by omega,.refl _ _,k+1,rfl,hlt,rfl,rfl⟩
     ·have:k=L.length:=by omega
      subst this
      have hc0:N3 L= []:=List.eq_nil_of_length_eq_zero hz
      rw[hc0]
      simp (disch:=first|omega|exact f8|fail) only[WA,Nat.reduceEqDiff,Nat.reduceLT,↓reduceIte,zE]
      exact (aD 0 40 7 rfl).trans (.refl _ _)
   ·have hgr:=aR4 w n (N3 L).length (by omega) (by omega)
    obtain ⟨T,hT0⟩:∃ T,(N3 L).length=T:=⟨_,rfl⟩
    rw[hT0] at hgr hz hcl hT
    simp (disch:=first|omega|exact f8|fail) only[WA,Nat.reduceEqDiff,Nat.reduceLT,↓reduceIte,reduceCtorEq,QZ,hT0]
    refine aQ (by rw[hC];exact hgr) rfl rfl rfl ?_
    simp (disch:=fail) only[WA,oH,rP,PZ,R5,bS]
    refine n9 (fun m fr st=>∃ k:Nat,m=L.length - k∧k≤L.length∧fr= [(6,.ref 0 0 (N3 (L.take k)).length (t8+T)),(25,.sl 0 L.length (L.map PV)),(26,iN L.length),(27,iN k)]∧st=⟨[(0,.row 40 7 true false (p8 (N3 (L.take k)++List.replicate (T - (N3 (L.take k)).length) gU)))],1,0⟩) L.length ?_ ⟨_,_,.refl _ _,0,?_⟩ ?_
    ·rw[hC,j8];unfold x8;omega
    ·exact ⟨by omega,by omega,rfl,rfl⟩
    ·rintro m fr st ⟨k,rfl,hkl,rfl,rfl⟩
     have hcl:=mO (L:=L) k
     rw[hT0] at hcl
     by_cases hlt:k<L.length
     ·have hcs:=oR hlt
      have hcl2:=mO (L:=L) (k+1)
      have hl2:(N3 (L.take (k+1))).length=(N3 (L.take k)).length+L[k]!.2.length:=by rw[hcs,List.length_append]
      have hkk:=hk L[k]! (by rw[getElem!_pos L k hlt];exact List.getElem_mem hlt)
      generalize hp:L[k]! =p at hl2 hcs hkk
      obtain ⟨s,l⟩:=p
      simp only at hl2 hcs hkk
      rw[hT0] at hcl2
      by_cases hl0:l= []
      ·subst hl0
       rw[List.append_nil] at hcs
       simp (disch:=first|omega|exact f8|(simp only[d9]<;>omega)) only[WA,Nat.reduceEqDiff,Nat.reduceLT,↓reduceIte,zE,sL,hp,nG]
       exact ⟨_,_,_,by omega,.refl _ _,k+1,rfl,hlt,by rw[hcs];rfl,by rw[hcs]⟩
      ·have hlp:l.length ≠ 0:=fun h=>hl0 (List.eq_nil_of_length_eq_zero h)
       have hlm:=l7 l
       have hrl:(p8 (N3 (L.take k)++List.replicate (T - (N3 (L.take k)).length) gU)).length=T*7:=by rw[l7];simp;omega
       have hnT:(N3 (L.take k)).length ≠ T:=by omega
       have hrm:=aJ6 (N3 (L.take k)) l T (by omega)
       have hok:P1 (p8 l)=true:=by
        simp only[P1,List.all_eq_true]
        intro d hd
        simp only[p8,List.mem_flatMap,List.mem_map] at hd
        obtain ⟨a,_,c,hc,rfl⟩:=hd
        simp[bA] at hc
        rcases hc with rfl|rfl|rfl|rfl|rfl|rfl|rfl<;>rfl
       simp (disch:=first|omega|exact f8|fail) only[WA,Nat.reduceEqDiff,Nat.reduceLT,↓reduceIte,zE,sL,hp,GZ,hok]
       refine ⟨_,_,_,by omega,.refl _ _,k+1,rfl,hlt,by rw[hl2];rfl,?_⟩
       rw[hl2,hcs,← hrm]
     ·have:k=L.length:=by omega
      subst this
      rw[List.take_length,hT0]
      have hil:=l7 (N3 L)
      have hcn:p8 (N3 L) ≠ []:=fun h=>hz (by rw[h] at hil;simp at hil;omega)
      simp (disch:=first|omega|exact f8|fail) only[WA,Nat.reduceEqDiff,Nat.reduceLT,↓reduceIte,zE,Nat.sub_self,List.replicate_zero,List.append_nil]
      refine (aO6 (o:=0) (t:=40) (e:=7) (z:=false) (l:=p8 (N3 L)) ?_ hcn).trans ?_
      ·rw[m7,if_pos rfl]
      ·exact (S6 (t:=0) (v:= .ref 0 0 T (t8+T)) (v':= .gr 2 0 T) rfl (aV2 hz)).trans (.refl _ _)
end
theorem nH (L:List v4):P1 (p8 L)=true:=by
 simp only[P1,List.all_eq_true]
 intro d hd
 simp only[p8,List.mem_flatMap,List.mem_map] at hd
 obtain ⟨a,_,c,hc,rfl⟩:=hd
 simp[bA] at hc
 rcases hc with rfl|rfl|rfl|rfl|rfl|rfl|rfl<;>rfl
theorem uB {C:C6} {st:n4} {v:V} {s n:Nat} {l:List D} (hs:B1 st.own v=some (.sl s n l)) (hrow:B0 st.ro st.own (bS v)=true) (hk:s ≠ 1∨n ≠ 0) (h0:C.w0.nx=0) (hro:st.ro=0):L2 C [(0,v)] st [(0,.sl 3 n l)] ⟨[],0,0⟩:=by
 refine (kH (t:=0) (v:=v) rfl hs hrow).trans ?_
 exact (S6 (t:=0) (v:= .sl s n l) (v':= .sl 3 n l) rfl (wK hk)).trans (o7 [] 0 h0 hro rfl rfl rfl)
theorem QA {H:D6} {o c t:Nat} {g z:Bool} {l:List D} (h:i7 H o=some (.row t 7 g z l)):B1 H (.ref o 0 0 c)=some (.sl 0 0 []):=by
 simp only[B1,aL,h,Nat.zero_add,List.drop_zero]
 rw[if_pos (by omega)]
 rfl
theorem dH {n:Nat} {l:List D}:kJ [] (.sl 3 n l):=pR (by simp only[Cl];rfl)
theorem QX {p:v4→Bool} {L:List v4} (h:L.all p=true) {k:Nat} (hk:k<L.length):p L[k]! =true:=List.all_eq_true.1 h _ (by rw[getElem!_pos L k hk];exact List.getElem_mem hk)
theorem kE {p:v4→Bool} {L:List v4} {k:Nat} (h:k<L.length) (h1:(L.take k).all p=true) (h2:p L[k]! =true):(L.take (k+1)).all p=true:=by
 rw[List.take_succ_eq_append_getElem h,List.all_append,h1]
 rw[getElem!_pos L k h] at h2
 simp[h2]
theorem tA {p:v4→Bool} {L:List v4} {k:Nat} (h:k<L.length) (h2:p L[k]! =false):L.all p=false:=by
 rw[Bool.eq_false_iff]
 intro ha
 rw[QX ha h] at h2
 cases h2
section
variable (w:World) (n:Nat)
theorem YI (A:List v4) (i:Nat) (hi:i<A.length) (hA:A.length≤2500):n5 (EN w (n+1)) 35 [jS 3 A,iN i] (jS 3 (wo A i)) ⟨[],0,0⟩:=by
 have hil:=l7 A
 have hwl:(wo A i).length=A.length - 1:=by unfold wo;simp;omega
 have e1:=rJ A i (by omega)
 have e2:=I0 A (i+1) (by omega)
 have l1:(A.take i).length=i:=by rw[List.length_take];omega
 have l2:(A.drop (i+1)).length=A.length - (i+1):=List.length_drop
 have q1:=l7 (A.take i)
 have q2:=l7 (A.drop (i+1))
 have o1:=nH (A.take i)
 have o2:=nH (A.drop (i+1))
 have hwo:p8 (wo A i)=p8 (A.take i)++p8 (A.drop (i+1)):=by unfold wo;rw[L6]
 have hz:((i:Int)+1).toNat=i+1:=by omega
 unfold jS
 rw[hwl,hwo]
 refine N2 rfl rfl (fun _ _=>rfl) (Nat.le_of_ble_eq_true rfl) (k9 w) dH rfl fun C hC h0=>?_
 by_cases c1:i=0
 ·subst c1
  have t1:p8 (A.take 0)= []:=rfl
  rw[t1] at e1 o1 ⊢
  rw[List.nil_append]
  by_cases c2:A.length=1
  ·have t2:A.drop (0+1)= []:=List.drop_eq_nil_of_le (by omega)
   rw[t2,nG] at e2 ⊢
   rw[c2] at e2 ⊢
   simp (disch:=first|omega|exact f8|(simp only[d9]<;>omega)) only[WA,a8,b8,Nat.reduceEqDiff,Nat.reduceLT,↓reduceIte,reduceCtorEq,c35,e1,e2,hz,c2,Nat.zero_mul,Nat.sub_self,Nat.one_mul,Nat.sub_zero]
   exact uB (QA rfl) rfl (.inl (by decide)) h0 rfl
  ·obtain ⟨M,hM⟩:∃ M,M=A.length - (0+1):=⟨_,rfl⟩
   have hM2:A.length - 1=M:=by omega
   rw[← hM] at l2
   rw[l2] at q2
   rw[hM2]
   generalize p8 (A.drop (0+1))=Z at*
   simp (disch:=first|omega|exact f8|(simp only[d9]<;>omega)) only[WA,a8,b8,Nat.reduceEqDiff,Nat.reduceLT,Nat.reduceAdd,↓reduceIte,reduceCtorEq,c35,e1,e2,hz,Nat.zero_mul,Nat.sub_zero,← hM,hM2]
   exact uB (bJ rfl q2) rfl (.inl (by decide)) h0 rfl
 ·by_cases c2:i+1=A.length
  ·have t2:A.drop (i+1)= []:=List.drop_eq_nil_of_le (by omega)
   rw[t2,nG] at e2 ⊢
   rw[List.append_nil,show A.length - 1=i from by omega]
   rw[l1] at q1
   generalize p8 (A.take i)=Y at*
   have hs:A.length - (i+1)=0:=by omega
   simp (disch:=first|omega|exact f8|(simp only[d9]<;>omega)) only[WA,a8,b8,Nat.reduceEqDiff,Nat.reduceLT,Nat.reduceAdd,↓reduceIte,reduceCtorEq,c35,e1,e2,hz,hs]
   exact uB (bJ rfl q1) rfl (.inl (by decide)) h0 rfl
  ·obtain ⟨M,hM⟩:∃ M,M=A.length - (i+1):=⟨_,rfl⟩
   rw[← hM] at l2
   rw[l2] at q2
   rw[l1] at q1
   rw[show A.length - 1=i+M from by omega]
   generalize p8 (A.take i)=Y at*
   generalize p8 (A.drop (i+1))=Z at*
   have hM0:M ≠ 0:=by omega
   simp (disch:=first|omega|exact f8|(simp only[d9]<;>omega)) only[WA,a8,b8,Nat.reduceEqDiff,Nat.reduceLT,Nat.reduceAdd,↓reduceIte,reduceCtorEq,c35,e1,e2,hz,← hM]
   exact uB (bJ rfl (by rw[List.length_append,q1,q2,Nat.add_mul])) rfl (.inl (by decide)) h0 rfl
def bN6 (o:Option Nat):Int:=match o with
 |none=> -1
 |some k=>k
theorem UL (A B:List v4) (hA:A.length≤2500) (hB:B.length≤2500):n5 (EN w (n+2)) 25 [jS 3 A,jS 3 B] (iN (bN6 (H8 A B))) ⟨[],0,0⟩:=by
 have hil:=l7 A
 have him:=l7 B
 have hc:=cN A B
 have hcm:=RS w n 3 3 A B (by omega) (by omega)
 refine i9 rfl rfl (fun _ _=>rfl) (Nat.le_of_ble_eq_true rfl) (k9 w) rfl fun C hC h0=>?_
 have hrn:C.E.rounds=x8:=by rw[hC,j8]
 by_cases hl:A.length=B.length+1
 case neg=>
  have e:H8 A B=none:=if_neg fun h=>hl h.1
  rw[e]
  simp (disch:=first|omega|exact f8|fail) only[WA,Nat.reduceEqDiff,Nat.reduceLT,Int.reduceNeg,↓reduceIte,reduceCtorEq,c25]
  all_goals try (exfalso;omega)
  exact b9 rfl h0 rfl
 simp (disch:=first|omega|exact f8|fail) only[WA,Nat.reduceEqDiff,Nat.reduceLT,Int.reduceNeg,↓reduceIte,reduceCtorEq,c25]
 all_goals try (exfalso;omega)
 have hstop:∀ i,i≤J7 A B→wo A i=B→(∀ j,j<i→wo A j ≠ B)→H8 A B=some i:=fun i hi h1 h2=>by
  cases hf:H8 A B with
  |none=>exact absurd h1 (PC hl hf hi)
  |some k=>
   obtain ⟨_,_,_,k1,k2,k3⟩:=uS hf
   by_cases hki:k<i
   ·exact absurd k2 (h2 k hki)
   ·by_cases hik:i<k
    ·exact absurd h1 (k3 i hik)
    ·rw[show k=i by omega]
 have hend:(∀ j,j<J7 A B+1→wo A j ≠ B)→H8 A B=none:=fun h=>by
  cases hf:H8 A B with
  |none=>rfl
  |some k=>
   obtain ⟨_,_,_,k1,k2,_⟩:=uS hf
   exact absurd k2 (h k (by omega))
 generalize J7 A B=N at*
 refine n9 (fun m fr st=>∃ k:Nat,m=N+1 - k∧k≤N+1∧(∀ j,j<k→wo A j ≠ B)∧fr= [(0,jS 3 A),(1,jS 3 B),(5,iN k)]∧st=⟨[],0,0⟩) (N+1) ?_ ⟨_,_,.refl _ _,0,by omega,Nat.zero_le _,fun j hj=>absurd hj (Nat.not_lt_zero _),rfl,rfl⟩ ?_
 ·rw[hrn];unfold x8;omega
 rintro m fr st ⟨k,rfl,hk,hne,rfl,rfl⟩
 by_cases hlt:k≤N
 case neg=>
  have:k=N+1:=by omega
  subst this
  rw[hend hne]
  simp (disch:=first|exact f8|fail) only[WA,Nat.reduceEqDiff,Nat.reduceLT,Int.reduceNeg,↓reduceIte,reduceCtorEq,RE]
  refine a9 (by rw[hC];exact hcm.flat rfl rfl) ?_
  simp (disch:=first|omega|exact f8|fail) only[WA,Nat.reduceEqDiff,Nat.reduceLT,Int.reduceNeg,↓reduceIte,reduceCtorEq]
  all_goals try (exfalso;omega)
  exact b9 rfl h0 rfl
 have hwo:=YI w n A k (by omega) hA
 have hwl:(wo A k).length≤2500:=by unfold wo;simp;omega
 have heq:=EY w n 3 3 (wo A k) B (by omega) (by omega)
 by_cases hx:wo A k=B
 ·rw[decide_eq_true hx] at heq
  rw[hstop k hlt hx hne]
  simp (disch:=first|exact f8|fail) only[WA,Nat.reduceEqDiff,Nat.reduceLT,Int.reduceNeg,↓reduceIte,reduceCtorEq,RE]
  refine a9 (by rw[hC];exact hcm.flat rfl rfl) ?_
  simp (disch:=first|omega|exact f8|fail) only[WA,Nat.reduceEqDiff,Nat.reduceLT,Int.reduceNeg,↓reduceIte,reduceCtorEq]
  all_goals try (exfalso;omega)
  refine M3 (by rw[hC];exact hwo) rfl rfl (fun _=>rfl) ?_
  repeat' (first|(simp (disch:=fail) only[WA,a8,b8,Nat.reduceEqDiff,Nat.reduceLT,Nat.reduceAdd,Nat.reduceBEq,Int.reduceAdd,Int.reduceSub,Int.reduceLT,Int.reduceLE,Int.reduceEq,Int.reduceNeg,↓reduceIte,reduceCtorEq,List.replicate])|apply C3|((first|apply N9|apply D4|apply I8|apply O0|apply N8|apply I9)<;>intro _))
  refine a9 (by rw[hC];exact heq.flat rfl rfl) ?_
  simp (disch:=first|exact f8|fail) only[WA,Nat.reduceEqDiff,Nat.reduceLT,Int.reduceNeg,↓reduceIte,reduceCtorEq]
  exact b9 rfl h0 rfl
 ·rw[decide_eq_false hx] at heq
  have hn2:∀ j,j<k+1→wo A j ≠ B:=fun j hj=>by
   rcases Nat.lt_succ_iff_lt_or_eq.1 hj with h|h
   ·exact hne j h
   ·rw[h];exact hx
  simp (disch:=first|exact f8|fail) only[WA,Nat.reduceEqDiff,Nat.reduceLT,Int.reduceNeg,↓reduceIte,reduceCtorEq,RE]
  refine a9 (by rw[hC];exact hcm.flat rfl rfl) ?_
  simp (disch:=first|omega|exact f8|fail) only[WA,Nat.reduceEqDiff,Nat.reduceLT,Int.reduceNeg,↓reduceIte,reduceCtorEq]
  all_goals try (exfalso;omega)
  refine M3 (by rw[hC];exact hwo) rfl rfl (fun _=>rfl) ?_
  repeat' (first|(simp (disch:=fail) only[WA,a8,b8,Nat.reduceEqDiff,Nat.reduceLT,Nat.reduceAdd,Nat.reduceBEq,Int.reduceAdd,Int.reduceSub,Int.reduceLT,Int.reduceLE,Int.reduceEq,Int.reduceNeg,↓reduceIte,reduceCtorEq,List.replicate])|apply C3|((first|apply N9|apply D4|apply I8|apply O0|apply N8|apply I9)<;>intro _))
  refine a9 (by rw[hC];exact heq.flat rfl rfl) ?_
  simp (disch:=first|omega|exact f8|fail) only[WA,Nat.reduceEqDiff,Nat.reduceLT,Int.reduceNeg,↓reduceIte,reduceCtorEq]
  exact ⟨N+1 - (k+1),_,_,by omega,.refl _ _,k+1,rfl,by omega,hn2,rfl,rfl⟩
theorem uW (s:Nat) (L:List v4) (hL:L.length≤140737488351232):n5 (EN w (n+1)) 22 [jS s L] (iN (if 2000<L.length then 4 else 0)) ⟨[],0,0⟩:=by
 refine i9 rfl rfl (fun _ _=>rfl) (Nat.le_of_ble_eq_true rfl) (k9 w) rfl fun C hC h0=>?_
 by_cases h:2000<L.length
 ·rw[if_pos h]
  simp (disch:=first|omega|exact f8|fail) only[WA,Nat.reduceEqDiff,Nat.reduceLT,↓reduceIte,reduceCtorEq,c22]
  all_goals try (exfalso;omega)
  exact b9 rfl h0 rfl
 ·rw[if_neg h]
  simp (disch:=first|omega|exact f8|fail) only[WA,Nat.reduceEqDiff,Nat.reduceLT,↓reduceIte,reduceCtorEq,c22]
  all_goals try (exfalso;omega)
  exact b9 rfl h0 rfl
theorem aZ8 (s:Nat) (L:List v4) (hL:L.length≤140737488351232):n5 (EN w (n+3)) 23 [jS s L] (.sc (.bool (!(L.all K9)))) ⟨[],0,0⟩:=by
 have hil:=l7 L
 refine i9 rfl rfl (fun _ _=>rfl) (Nat.le_of_ble_eq_true rfl) (k9 w) rfl fun C hC h0=>?_
 have hrn:C.E.rounds=x8:=by rw[hC,j8]
 simp (disch:=first|exact f8|fail) only[WA,Nat.reduceLT,↓reduceIte,reduceCtorEq,c23]
 refine n9 (fun m fr st=>∃ k:Nat,m=L.length - k∧k≤L.length∧(L.take k).all K9=true∧fr= [(0,jS s L),(3,iN k)]∧st=⟨[],0,0⟩) L.length ?_ ⟨_,_,.refl _ _,0,by omega,Nat.zero_le _,rfl,rfl,rfl⟩ ?_
 ·rw[hrn];unfold x8;omega
 rintro m fr st ⟨k,rfl,hk,hall,rfl,rfl⟩
 by_cases hlt:k<L.length
 case neg=>
  have:k=L.length:=by omega
  subst this
  rw[List.take_length] at hall
  rw[hall]
  simp (disch:=first|omega|exact f8|fail) only[WA,Nat.reduceEqDiff,Nat.reduceLT,↓reduceIte,reduceCtorEq,RD]
  all_goals try (exfalso;omega)
  exact b9 rfl h0 rfl
 have hag:=H7 L k hlt
 have hi:=aJ4 w n L[k]!
 by_cases ho:K9 L[k]! =true
 ·have hn:=kE hlt hall ho
  rw[if_pos ho] at hi
  simp (disch:=first|omega|exact f8|fail) only[WA,Nat.reduceEqDiff,Nat.reduceLT,↓reduceIte,reduceCtorEq,RD,hag]
  all_goals try (exfalso;omega)
  refine a9 (by rw[hC];exact hi.flat rfl rfl) ?_
  simp (disch:=first|omega|exact f8|fail) only[WA,Nat.reduceEqDiff,Nat.reduceLT,↓reduceIte,reduceCtorEq]
  exact ⟨L.length - (k+1),_,_,by omega,.refl _ _,k+1,rfl,by omega,hn,rfl,rfl⟩
 ·rw[if_neg ho] at hi
  rw[Bool.not_eq_true] at ho
  rw[tA hlt ho]
  simp (disch:=first|omega|exact f8|fail) only[WA,Nat.reduceEqDiff,Nat.reduceLT,↓reduceIte,reduceCtorEq,RD,hag]
  all_goals try (exfalso;omega)
  refine a9 (by rw[hC];exact hi.flat rfl rfl) ?_
  simp (disch:=first|exact f8|(simp only[d9]<;>omega)) only[WA,Nat.reduceEqDiff,Nat.reduceLT,Int.reduceEq,↓reduceIte,reduceCtorEq]
  exact b9 rfl h0 rfl
end
set_option maxHeartbeats 2000000
def aR9 (P D:List v4) (N:Nat) (K1 K2:Option Nat):Nat × Int × Int:=
 if P=D then (0,0,0) else if N=D.length then (1,N,0) else match K1 with
 |some k=>(2,k,0)
 |none=>match K2 with
  |some k=>(3,k,0)
  |none=>if P.length=D.length∧P.drop (N+1)=D.drop (N+1) then (4,N,0) else (5,N,0)
noncomputable def aE3 (P D:List v4):Nat × Int × Int:=
 if 2000<P.length∨2000<D.length then (0,0,4) else if ¬ ((P++D).all K9=true) then (0,0,8) else aR9 P D (J7 P D) (H8 P D) (H8 D P)
def aS0 (r:Nat × Int × Int):V:= .tup [.sc (.int .u8 r.1),iN r.2.1,iN r.2.2]
abbrev WW:V:= .sc (.func (.func 12) #[] #[])
theorem UN (nx t:Nat) (P D:List v4):P7 nx t 1 2 [.slice none 0 0] [(0,1,jS 3 P),(1,1,jS 3 D)]=some (.ref nx 0 2 2,some (.row t 1 false false ([(3,P),(3,D)].map PV)),[]):=(rfl)
section
variable (w:World) (n:Nat)
theorem bO1 (i:v4):n5 (EN w (n+3)) 12 [Z6 i] (.sc (.bool (!K9 i))) ⟨[],0,0⟩:=by
 have hi:=YX w n i
 refine i9 rfl rfl (fun _ _=>rfl) (Nat.le_of_ble_eq_true rfl) (k9 w) rfl fun C hC h0=>?_
 unfold Z6 at hi ⊢
 by_cases ho:K9 i=true
 ·rw[if_pos ho] at hi
  rw[ho]
  simp (disch:=first|exact f8|fail) only[WA,Nat.reduceEqDiff,Nat.reduceLT,↓reduceIte,reduceCtorEq,c12]
  refine a9 (by rw[hC];exact hi.flat rfl rfl) ?_
  simp (disch:=first|exact f8|fail) only[WA,Nat.reduceEqDiff,Nat.reduceLT,↓reduceIte]
  exact b9 rfl h0 rfl
 ·rw[if_neg ho] at hi
  rw[Bool.not_eq_true] at ho
  rw[ho]
  simp (disch:=first|exact f8|fail) only[WA,Nat.reduceEqDiff,Nat.reduceLT,↓reduceIte,reduceCtorEq,c12]
  refine a9 (by rw[hC];exact hi.flat rfl rfl) ?_
  simp (disch:=first|exact f8|(simp only[d9]<;>omega)) only[WA,Nat.reduceEqDiff,Nat.reduceLT,Int.reduceEq,↓reduceIte]
  exact b9 rfl h0 rfl
theorem JY (s:Nat) (L:List v4) (hL:L.length≤140737488351232):n5 (EN w (n+5)) 10 [jS s L,WW] (.sc (.bool (!(L.all K9)))) ⟨[],0,0⟩:=by
 have hil:=l7 L
 have hix:∃ r:Int,(L.all K9=true→r= -1)∧(¬ L.all K9=true→0≤r)∧n5 (EN w (n+4)) 31 [jS s L,WW] (iN r) ⟨[],0,0⟩:=by
  have main:∀ (j:Nat),j≤L.length→(L.take j).all K9=true→(j<L.length→K9 L[j]! =false)→n5 (EN w (n+4)) 31 [jS s L,WW] (iN (if j<L.length then (j:Int) else -1)) ⟨[],0,0⟩:=by
   intro j hj hall hbad
   refine i9 rfl rfl (fun _ _=>rfl) (Nat.le_of_ble_eq_true rfl) (k9 w) rfl fun C hC h0=>?_
   simp (disch:=first|exact f8|fail) only[WA,Nat.reduceEqDiff,Nat.reduceLT,Int.reduceNeg,↓reduceIte,reduceCtorEq,c31]
   refine n9 (fun m fr st=>∃ (k:Nat),m=L.length - k∧k≤j∧fr= [(0,jS s L),(1,WW),(7,iN L.length),(8,iN k)]∧st=⟨[],0,0⟩) L.length ?_ ⟨_,_,.refl _ _,0,by omega,Nat.zero_le _,rfl,rfl⟩ ?_
   ·rw[hC,j8];unfold x8;omega
   rintro m fr st ⟨k,rfl,hk,rfl,rfl⟩
   by_cases hlt:k<L.length
   case neg=>
    rw[if_neg (by omega)]
    simp (disch:=first|omega|exact f8|fail) only[WA,Nat.reduceEqDiff,Nat.reduceLT,Int.reduceNeg,↓reduceIte,reduceCtorEq,RH]
    all_goals try (exfalso;omega)
    exact b9 rfl h0 rfl
   have hag:=H7 L k hlt
   have h1:=bO1 w n L[k]!
   by_cases hkj:k=j
   ·subst hkj
    rw[hbad hlt] at h1
    rw[if_pos hlt]
    simp (disch:=first|omega|exact f8|fail) only[WA,Nat.reduceEqDiff,Nat.reduceLT,Int.reduceNeg,↓reduceIte,reduceCtorEq,RH,hag]
    all_goals try (exfalso;omega)
    refine a9 (by rw[hC];exact h1.flat rfl rfl) ?_
    simp (disch:=first|exact f8|fail) only[WA,Nat.reduceEqDiff,Nat.reduceLT,Int.reduceNeg,↓reduceIte,reduceCtorEq]
    exact b9 rfl h0 rfl
   ·have ho:K9 L[k]! =true:=List.all_eq_true.1 hall _ (by
     rw[getElem!_pos _ k hlt]
     exact List.mem_iff_getElem.2 ⟨k,by rw[List.length_take];omega,List.getElem_take⟩)
    rw[ho] at h1
    simp (disch:=first|omega|exact f8|fail) only[WA,Nat.reduceEqDiff,Nat.reduceLT,Int.reduceNeg,↓reduceIte,reduceCtorEq,RH,hag]
    all_goals try (exfalso;omega)
    refine a9 (by rw[hC];exact h1.flat rfl rfl) ?_
    simp (disch:=first|omega|exact f8|fail) only[WA,Nat.reduceEqDiff,Nat.reduceLT,Int.reduceNeg,↓reduceIte,reduceCtorEq]
    exact ⟨L.length - (k+1),_,_,by omega,.refl _ _,k+1,rfl,by omega,rfl,rfl⟩
  have hex:∀ m,m≤L.length→(L.take m).all K9=true∨∃ j,j<m∧(L.take j).all K9=true∧K9 L[j]! =false:=by
   intro m
   induction m with
   |zero=>intro _;exact .inl rfl
   |succ m ih=>
    intro hm
    rcases ih (by omega) with h|⟨j,h1,h2,h3⟩
    ·cases hc:K9 L[m]! with
     |true=>exact .inl (kE (by omega) h hc)
     |false=>exact .inr ⟨m,by omega,h,hc⟩
    ·exact .inr ⟨j,by omega,h2,h3⟩
  rcases hex L.length (Nat.le_refl _) with h|⟨j,h1,h2,h3⟩
  ·refine ⟨_,fun _=>?_,fun hn=>absurd (by rwa [List.take_length] at h) hn,main L.length (Nat.le_refl _) h fun h=>absurd h (Nat.lt_irrefl _)⟩
   rw[if_neg (Nat.lt_irrefl _)]
  ·refine ⟨_,fun ha=>?_,fun _=>?_,main j (by omega) h2 fun _=>h3⟩
   ·rw[tA h1 h3] at ha;cases ha
   ·rw[if_pos h1];omega
 obtain ⟨r,h1,h2,hr⟩:=hix
 by_cases ha:L.all K9=true
 ·have e:=h1 ha
  subst e
  rw[ha]
  refine i9 rfl rfl (fun _ _=>rfl) (Nat.le_of_ble_eq_true rfl) (k9 w) rfl fun C hC h0=>?_
  simp (disch:=first|exact f8|fail) only[WA,Nat.reduceEqDiff,Nat.reduceLT,↓reduceIte,reduceCtorEq,c10]
  refine a9 (by rw[hC];exact hr.flat rfl rfl) ?_
  simp (disch:=first|exact f8|fail) only[WA,Nat.reduceEqDiff,Nat.reduceLT,Int.reduceLE,Int.reduceNeg,↓reduceIte,reduceCtorEq]
  exact b9 rfl h0 rfl
 ·have e:=h2 ha
  rw[Bool.not_eq_true] at ha
  rw[ha]
  refine i9 rfl rfl (fun _ _=>rfl) (Nat.le_of_ble_eq_true rfl) (k9 w) rfl fun C hC h0=>?_
  simp (disch:=first|exact f8|fail) only[WA,Nat.reduceEqDiff,Nat.reduceLT,↓reduceIte,reduceCtorEq,c10]
  refine a9 (by rw[hC];exact hr.flat rfl rfl) ?_
  simp (disch:=first|omega|exact f8|fail) only[WA,Nat.reduceEqDiff,Nat.reduceLT,↓reduceIte,reduceCtorEq]
  all_goals try (exfalso;omega)
  exact b9 rfl h0 rfl
variable {st:n4} {a b c t e t' e' t2 e2:Nat} {P D:List v4} {N:Nat}
theorem bW2 (ha:i7 st.own a=some (.box t e [jS 3 P])) (hb:i7 st.own b=some (.box t' e' [jS 3 D])) (hP:P.length≤2500) (hD:D.length≤2500):I5 (EN w (n+2)) 15 st [.ptr a 0,.ptr b 0] (.tup [iN 0,.sc (.bool (decide (P=D)))]):=by
 have heq:=nJ w n 3 3 P D (by omega) (by omega)
 refine iP rfl rfl (fun _ _=>rfl) (Nat.le_of_ble_eq_true rfl) rfl fun C hC h0=>⟨⟨st.own,st.next,st.next⟩,?_⟩
 simp (disch:=first|exact f8|fail) only[WA,Nat.reduceEqDiff,Nat.reduceLT,↓reduceIte,reduceCtorEq,c15,ha,hb]
 refine a9 (by rw[hC];exact heq.flat rfl rfl) ?_
 repeat' (first|(simp (disch:=fail) only[WA,a8,b8,Nat.reduceEqDiff,Nat.reduceLT,Nat.reduceAdd,Nat.reduceBEq,Int.reduceAdd,Int.reduceSub,Int.reduceLT,Int.reduceLE,Int.reduceEq,Int.reduceNeg,↓reduceIte,reduceCtorEq,List.replicate])|apply C3|((first|apply N9|apply D4|apply I8|apply O0|apply N8|apply I9)<;>intro _))
 exact .refl _ _
theorem bW3 (ha:i7 st.own a=some (.box t e [iN N])) (hb:i7 st.own b=some (.box t' e' [jS 3 D])) (hD:D.length≤2500):I5 (EN w (n+1)) 17 st [.ptr a 0,.ptr b 0] (.tup [iN N,.sc (.bool (decide (N=D.length)))]):=by
 refine iP rfl rfl (fun _ _=>rfl) (Nat.le_of_ble_eq_true rfl) rfl fun C hC h0=>⟨⟨st.own,st.next,st.next⟩,?_⟩
 by_cases h:N=D.length
 ·rw[decide_eq_true h]
  simp (disch:=first|omega|exact f8|fail) only[WA,a8,b8,Nat.reduceEqDiff,Nat.reduceLT,↓reduceIte,reduceCtorEq,c17,ha,hb]
  exact .refl _ _
 ·rw[decide_eq_false h]
  simp (disch:=first|omega|exact f8|fail) only[WA,a8,b8,Nat.reduceEqDiff,Nat.reduceLT,↓reduceIte,reduceCtorEq,c17,ha,hb]
  exact .refl _ _
theorem bW4 (ha:i7 st.own a=some (.box t e [jS 3 P])) (hb:i7 st.own b=some (.box t' e' [jS 3 D])) (hP:P.length≤2500) (hD:D.length≤2500):I5 (EN w (n+3)) 18 st [.ptr a 0,.ptr b 0] (dA (H8 P D)):=by
 have hk:=aD8 w n P D hP hD
 refine iP rfl rfl (fun _ _=>rfl) (Nat.le_of_ble_eq_true rfl) (by cases H8 P D<;>rfl) fun C hC h0=>⟨⟨st.own,st.next,st.next⟩,?_⟩
 generalize H8 P D=q at*
 cases q with
 |none=>
  unfold dA at hk ⊢
  simp (disch:=first|exact f8|fail) only[WA,Nat.reduceEqDiff,Nat.reduceLT,↓reduceIte,reduceCtorEq,c18,ha,hb]
  refine a9 (by rw[hC];exact hk.flat rfl rfl) ?_
  simp (disch:=first|exact f8|fail) only[WA,Nat.reduceEqDiff,Nat.reduceLT,↓reduceIte,reduceCtorEq]
  exact .refl _ _
 |some k=>
  unfold dA at hk ⊢
  simp (disch:=first|exact f8|fail) only[WA,Nat.reduceEqDiff,Nat.reduceLT,↓reduceIte,reduceCtorEq,c18,ha,hb]
  refine a9 (by rw[hC];exact hk.flat rfl rfl) ?_
  simp (disch:=first|exact f8|fail) only[WA,Nat.reduceEqDiff,Nat.reduceLT,↓reduceIte,reduceCtorEq]
  exact .refl _ _
theorem bW5 (ha:i7 st.own a=some (.box t e [jS 3 P])) (hb:i7 st.own b=some (.box t' e' [jS 3 D])) (hP:P.length≤2500) (hD:D.length≤2500):I5 (EN w (n+3)) 20 st [.ptr a 0,.ptr b 0] (dA (H8 P D)):=by
 have hk:=aD8 w n P D hP hD
 refine iP rfl rfl (fun _ _=>rfl) (Nat.le_of_ble_eq_true rfl) (by cases H8 P D<;>rfl) fun C hC h0=>⟨⟨st.own,st.next,st.next⟩,?_⟩
 generalize H8 P D=q at*
 cases q with
 |none=>
  unfold dA at hk ⊢
  simp (disch:=first|exact f8|fail) only[WA,Nat.reduceEqDiff,Nat.reduceLT,↓reduceIte,reduceCtorEq,c20,ha,hb]
  refine a9 (by rw[hC];exact hk.flat rfl rfl) ?_
  simp (disch:=first|exact f8|fail) only[WA,Nat.reduceEqDiff,Nat.reduceLT,↓reduceIte,reduceCtorEq]
  exact .refl _ _
 |some k=>
  unfold dA at hk ⊢
  simp (disch:=first|exact f8|fail) only[WA,Nat.reduceEqDiff,Nat.reduceLT,↓reduceIte,reduceCtorEq,c20,ha,hb]
  refine a9 (by rw[hC];exact hk.flat rfl rfl) ?_
  simp (disch:=first|exact f8|fail) only[WA,Nat.reduceEqDiff,Nat.reduceLT,↓reduceIte,reduceCtorEq]
  exact .refl _ _
theorem bW6 (ha:i7 st.own a=some (.box t e [iN N])) (hb:i7 st.own b=some (.box t' e' [jS 3 P])) (hc:i7 st.own c=some (.box t2 e2 [jS 3 D])) (hP:P.length≤2500) (hD:D.length≤2500) (hN:P.length=D.length→N+1≤P.length):
  I5 (EN w (n+2)) 21 st [.ptr a 0,.ptr b 0,.ptr c 0] (.tup [iN N,.sc (.bool (decide (P.length=D.length∧P.drop (N+1)=D.drop (N+1))))]):=by
 refine iP rfl rfl (fun _ _=>rfl) (Nat.le_of_ble_eq_true rfl) rfl fun C hC h0=>⟨⟨st.own,st.next,st.next⟩,?_⟩
 by_cases h:P.length=D.length
 case neg=>
  rw[decide_eq_false fun q=>h q.1]
  simp (disch:=first|omega|exact f8|fail) only[WA,a8,b8,Nat.reduceEqDiff,Nat.reduceLT,Nat.reduceAdd,↓reduceIte,reduceCtorEq,c21,ha,hb,hc]
  exact .refl _ _
 have hn:=hN h
 have e1:=I0 P (N+1) (by omega)
 have e2:=I0 D (N+1) (by omega)
 have heq:=nJ w n 3 3 (P.drop (N+1)) (D.drop (N+1)) (by simp;omega) (by simp;omega)
 unfold jS at heq
 rw[← e1,← e2,List.length_drop,List.length_drop] at heq
 have hz:((N:Int)+1).toNat=N+1:=by omega
 have hil:=l7 P
 have him:=l7 D
 rw[show decide (P.length=D.length∧P.drop (N+1)=D.drop (N+1))=decide (P.drop (N+1)=D.drop (N+1)) from by simp only[h,true_and]]
 generalize decide (P.drop (N+1)=D.drop (N+1))=q at*
 simp (disch:=first|omega|exact f8|fail) only[WA,a8,b8,Nat.reduceEqDiff,Nat.reduceLT,Nat.reduceAdd,↓reduceIte,reduceCtorEq,c21,ha,hb,hc,hz]
 refine ZJ (by rw[hC];exact heq.flat rfl rfl) ?_
 simp (disch:=fail) only[WA]
 exact .refl _ _
end
theorem jx0 (a b c d e:V):gR 5 1 none (.agg [a,b,c,d,e]) (iN ((0:Nat):Int))=some a:=(rfl)
theorem jx1 (a b c d e:V):gR 5 1 none (.agg [a,b,c,d,e]) (iN ((1:Nat):Int))=some b:=(rfl)
theorem jx2 (a b c d e:V):gR 5 1 none (.agg [a,b,c,d,e]) (iN ((2:Nat):Int))=some c:=(rfl)
theorem jx3 (a b c d e:V):gR 5 1 none (.agg [a,b,c,d,e]) (iN ((3:Nat):Int))=some d:=(rfl)
theorem jx4 (a b c d e:V):gR 5 1 none (.agg [a,b,c,d,e]) (iN ((4:Nat):Int))=some e:=(rfl)
section
variable (w:World) (n:Nat)
theorem aE4 (P D:List v4) (hP:P.length≤2500) (hD:D.length≤2500):n5 (EN w (n+6)) 5 [jS 3 P,jS 3 D] (aS0 (aE3 P D)) ⟨[],0,0⟩:=by
 refine i9 rfl rfl (fun _ _=>rfl) (Nat.le_of_ble_eq_true rfl) (k9 w) rfl fun C hC h0=>?_
 have hrn:C.E.rounds=x8:=by rw[hC,j8]
 unfold aE3
 by_cases c1:2000<P.length∨2000<D.length
 ·rw[if_pos c1]
  simp (disch:=first|omega|exact f8|fail) only[WA,Nat.reduceEqDiff,Nat.reduceLT,Nat.reduceAdd,↓reduceIte,reduceCtorEq,c5]
  all_goals try (exfalso;omega)
  exact b9 rfl h0 rfl
 rw[if_neg c1]
 have hcat:N3 [(3,P),(3,D)]=P++D:=by simp[N3]
 have hcc:=VY w (n+3) [(3,P),(3,D)] (by simp) (by simp) (by rw[hcat,List.length_append];omega)
 rw[hcat] at hcc
 have hct:=JY w n 2 (P++D) (by rw[List.length_append];omega)
 have hcm:=IC w (n+4) 3 3 P D (by omega) (by omega)
 have hPD:=l7 (P++D)
 have hsn:∀ H:D6,i7 H 3=some (.gro 40 7 false (p8 (P++D)))→Q6 H [.gr 2 3 (P++D).length,WW]=some [.sl 2 (P++D).length (p8 (P++D)),WW]:=fun H h=>by
  have e:=bJ h hPD
  show (B1 H (.gr 2 3 (P++D).length)).bind _=_
  rw[e]
  rfl
 by_cases c2:(P++D).all K9=true
 case neg=>
  rw[if_pos c2]
  rw[Bool.not_eq_true] at c2
  rw[c2] at hct
  simp (disch:=first|omega|exact f8|fail) only[WA,Nat.reduceEqDiff,Nat.reduceLT,Nat.reduceAdd,↓reduceIte,reduceCtorEq,c5,UN]
  all_goals try (exfalso;omega)
  refine aQ (by rw[hC];exact hcc) (by rfl) rfl rfl ?_
  simp (disch:=fail) only[WA,Nat.reduceEqDiff,Nat.reduceAdd,↓reduceIte,reduceCtorEq,oH,rP,PZ,R5,bS]
  refine a9 (by rw[hC];exact hct.flat rfl (hsn _ rfl)) ?_
  simp (disch:=first|exact f8|fail) only[WA,Nat.reduceEqDiff,Nat.reduceLT,↓reduceIte]
  exact b9 rfl h0 rfl
 rw[if_neg (not_not_intro c2)]
 rw[c2] at hct
 simp (disch:=first|omega|exact f8|fail) only[WA,Nat.reduceEqDiff,Nat.reduceLT,Nat.reduceAdd,↓reduceIte,reduceCtorEq,c5,UN]
 all_goals try (exfalso;omega)
 refine aQ (by rw[hC];exact hcc) (by rfl) rfl rfl ?_
 simp (disch:=fail) only[WA,Nat.reduceEqDiff,Nat.reduceAdd,↓reduceIte,reduceCtorEq,oH,rP,PZ,R5,bS]
 refine a9 (by rw[hC];exact hct.flat rfl (hsn _ rfl)) ?_
 simp (disch:=first|exact f8|fail) only[WA,Nat.reduceEqDiff,Nat.reduceLT,↓reduceIte,reduceCtorEq,List.replicate]
 refine a9 (by rw[hC];exact hcm.flat rfl rfl) ?_
 simp (disch:=first|exact f8|(simp only[d9]<;>omega)) only[WA,Nat.reduceEqDiff,Nat.reduceLT,Nat.reduceAdd,↓reduceIte,List.replicate,KG]
 have hc:=cN P D
 have f0:∀ (st:n4),i7 st.own 0=some (.box 22 1 [jS 3 P])→i7 st.own 1=some (.box 22 1 [jS 3 D])→I5 (EN w (n+5)) 15 st [.ptr 0 0,.ptr 1 0] (.tup [iN 0,.sc (.bool (decide (P=D)))]):=fun st a b=>bW2 w (n+3) a b hP hD
 have f1:∀ (st:n4),i7 st.own 4=some (.box 3 1 [iN (J7 P D)])→i7 st.own 1=some (.box 22 1 [jS 3 D])→I5 (EN w (n+5)) 17 st [.ptr 4 0,.ptr 1 0] (.tup [iN (J7 P D),.sc (.bool (decide (J7 P D=D.length)))]):=fun st a b=>bW3 w (n+4) a b hD
 have f2:∀ (st:n4),i7 st.own 0=some (.box 22 1 [jS 3 P])→i7 st.own 1=some (.box 22 1 [jS 3 D])→I5 (EN w (n+5)) 18 st [.ptr 0 0,.ptr 1 0] (dA (H8 P D)):=fun st a b=>bW4 w (n+2) a b hP hD
 have f3:∀ (st:n4),i7 st.own 0=some (.box 22 1 [jS 3 P])→i7 st.own 1=some (.box 22 1 [jS 3 D])→I5 (EN w (n+5)) 20 st [.ptr 1 0,.ptr 0 0] (dA (H8 D P)):=fun st a b=>bW5 w (n+2) b a hD hP
 have f4:(J7 P D ≠ D.length)→∀ (st:n4),i7 st.own 4=some (.box 3 1 [iN (J7 P D)])→i7 st.own 0=some (.box 22 1 [jS 3 P])→i7 st.own 1=some (.box 22 1 [jS 3 D])→I5 (EN w (n+5)) 21 st [.ptr 4 0,.ptr 0 0,.ptr 1 0] (.tup [iN (J7 P D),.sc (.bool (decide (P.length=D.length∧P.drop (J7 P D+1)=D.drop (J7 P D+1))))]):=fun hne st a b c=>bW6 w (n+3) a b c hP hD (fun h=>by omega)
 obtain ⟨R,hR⟩:∃ R,R=aR9 P D (J7 P D) (H8 P D) (H8 D P):=⟨_,rfl⟩
 rw[← hR]
 generalize H8 P D=K1 at*
 generalize H8 D P=K2 at*
 generalize J7 P D=N at*
 unfold aR9 at hR
 refine n9 (fun m fr st=>∃ k:Nat,m=5 - k∧k≤5∧(0<k→P ≠ D)∧(1<k→N ≠ D.length)∧(2<k→K1=none)∧(3<k→K2=none)∧(4<k→¬ (P.length=D.length∧P.drop (N+1)=D.drop (N+1)))∧
  fr= [(7,.ptr 4 0),(33,.agg [.fn 15 [] [.ptr 0 0,.ptr 1 0],.fn 17 [] [.ptr 4 0,.ptr 1 0],.fn 18 [] [.ptr 0 0,.ptr 1 0],.fn 20 [] [.ptr 1 0,.ptr 0 0],.fn 21 [] [.ptr 4 0,.ptr 0 0,.ptr 1 0]]),(34,iN k)]∧
  st=⟨[(4,.box 3 1 [iN N]),(1,.box 22 1 [jS 3 D]),(0,.box 22 1 [jS 3 P])],5,0⟩) 5 ?_ ⟨_,_,o7 [(4,4),(1,1),(0,0)] 5 h0 rfl rfl rfl rfl,0,rfl,by omega,(fun h=>absurd h (by decide)),(fun h=>absurd h (by decide)),(fun h=>absurd h (by decide)),(fun h=>absurd h (by decide)),(fun h=>absurd h (by decide)),rfl,rfl⟩ ?_
 ·rw[hrn];decide
 rintro m fr st ⟨k,rfl,hk,g0,g1,g2,g3,g4,rfl,rfl⟩
 rcases (by omega:k=0∨k=1∨k=2∨k=3∨k=4∨k=5) with rfl|rfl|rfl|rfl|rfl|rfl
 ·by_cases q:P=D
  ·rw[if_pos q] at hR
   rw[decide_eq_true q] at f0
   rw[hR]
   simp (disch:=first|omega|exact f8|fail) only[WA,Nat.reduceEqDiff,Nat.reduceLT,↓reduceIte,rY,jx0]
   refine a9 (by rw[hC];exact f0 _ rfl rfl) ?_
   simp (disch:=first|exact f8|fail) only[WA,Nat.reduceEqDiff,Nat.reduceLT,↓reduceIte]
   exact b9 rfl h0 rfl
  ·rw[decide_eq_false q] at f0
   simp (disch:=first|omega|exact f8|fail) only[WA,Nat.reduceEqDiff,Nat.reduceLT,↓reduceIte,rY,jx0]
   refine a9 (by rw[hC];exact f0 _ rfl rfl) ?_
   simp (disch:=first|omega|exact f8|fail) only[WA,Nat.reduceEqDiff,Nat.reduceLT,↓reduceIte]
   exact ⟨4,_,_,by decide,.refl _ _,1,rfl,by decide,fun _=>q,(fun h=>absurd h (by decide)),(fun h=>absurd h (by decide)),(fun h=>absurd h (by decide)),(fun h=>absurd h (by decide)),rfl,rfl⟩
 ·have p0:=g0 (by decide)
  rw[if_neg p0] at hR
  by_cases q:N=D.length
  ·rw[if_pos q] at hR
   rw[decide_eq_true q] at f1
   rw[hR]
   simp (disch:=first|omega|exact f8|fail) only[WA,Nat.reduceEqDiff,Nat.reduceLT,↓reduceIte,rY,jx1]
   refine a9 (by rw[hC];exact f1 _ rfl rfl) ?_
   simp (disch:=first|exact f8|fail) only[WA,Nat.reduceEqDiff,Nat.reduceLT,↓reduceIte]
   exact b9 rfl h0 rfl
  ·rw[decide_eq_false q] at f1
   simp (disch:=first|omega|exact f8|fail) only[WA,Nat.reduceEqDiff,Nat.reduceLT,↓reduceIte,rY,jx1]
   refine a9 (by rw[hC];exact f1 _ rfl rfl) ?_
   simp (disch:=first|omega|exact f8|fail) only[WA,Nat.reduceEqDiff,Nat.reduceLT,↓reduceIte]
   exact ⟨3,_,_,by decide,.refl _ _,2,rfl,by decide,fun _=>p0,fun _=>q,(fun h=>absurd h (by decide)),(fun h=>absurd h (by decide)),(fun h=>absurd h (by decide)),rfl,rfl⟩
 ·have p0:=g0 (by decide)
  have p1:=g1 (by decide)
  rw[if_neg p0,if_neg p1] at hR
  cases K1 with
  |some k=>
   rw[show R=(2,↑k,0) from hR]
   unfold dA at f2
   simp (disch:=first|omega|exact f8|fail) only[WA,Nat.reduceEqDiff,Nat.reduceLT,↓reduceIte,reduceCtorEq,rY,jx2]
   refine a9 (by rw[hC];exact f2 _ rfl rfl) ?_
   simp (disch:=first|exact f8|fail) only[WA,Nat.reduceEqDiff,Nat.reduceLT,↓reduceIte]
   exact b9 rfl h0 rfl
  |none=>
   unfold dA at f2
   simp (disch:=first|omega|exact f8|fail) only[WA,Nat.reduceEqDiff,Nat.reduceLT,↓reduceIte,rY,jx2]
   refine a9 (by rw[hC];exact f2 _ rfl rfl) ?_
   simp (disch:=first|omega|exact f8|fail) only[WA,Nat.reduceEqDiff,Nat.reduceLT,↓reduceIte]
   exact ⟨2,_,_,by decide,.refl _ _,3,rfl,by decide,fun _=>p0,fun _=>p1,fun _=>by trivial,(fun h=>absurd h (by decide)),(fun h=>absurd h (by decide)),rfl,rfl⟩
 ·have p0:=g0 (by decide)
  have p1:=g1 (by decide)
  have p2:=g2 (by decide)
  rw[if_neg p0,if_neg p1,p2] at hR
  cases K2 with
  |some k=>
   rw[show R=(3,↑k,0) from hR]
   unfold dA at f3
   simp (disch:=first|omega|exact f8|fail) only[WA,Nat.reduceEqDiff,Nat.reduceLT,↓reduceIte,reduceCtorEq,rY,jx3]
   refine a9 (by rw[hC];exact f3 _ rfl rfl) ?_
   simp (disch:=first|exact f8|fail) only[WA,Nat.reduceEqDiff,Nat.reduceLT,↓reduceIte]
   exact b9 rfl h0 rfl
  |none=>
   unfold dA at f3
   simp (disch:=first|omega|exact f8|fail) only[WA,Nat.reduceEqDiff,Nat.reduceLT,↓reduceIte,rY,jx3]
   refine a9 (by rw[hC];exact f3 _ rfl rfl) ?_
   simp (disch:=first|omega|exact f8|fail) only[WA,Nat.reduceEqDiff,Nat.reduceLT,↓reduceIte]
   exact ⟨1,_,_,by decide,.refl _ _,4,rfl,by decide,fun _=>p0,fun _=>p1,fun _=>p2,fun _=>by trivial,(fun h=>absurd h (by decide)),rfl,rfl⟩
 ·have p0:=g0 (by decide)
  have p1:=g1 (by decide)
  have p2:=g2 (by decide)
  have p3:=g3 (by decide)
  have f4':=f4 p1
  rw[if_neg p0,if_neg p1,p2,p3] at hR
  by_cases q:P.length=D.length∧P.drop (N+1)=D.drop (N+1)
  ·rw[decide_eq_true q] at f4'
   rw[show R=(4,↑N,0) from hR.trans (if_pos q)]
   simp (disch:=first|omega|exact f8|fail) only[WA,Nat.reduceEqDiff,Nat.reduceLT,↓reduceIte,rY,jx4]
   refine a9 (by rw[hC];exact f4' _ rfl rfl rfl) ?_
   simp (disch:=first|exact f8|fail) only[WA,Nat.reduceEqDiff,Nat.reduceLT,↓reduceIte]
   exact b9 rfl h0 rfl
  ·rw[decide_eq_false q] at f4'
   simp (disch:=first|omega|exact f8|fail) only[WA,Nat.reduceEqDiff,Nat.reduceLT,↓reduceIte,rY,jx4]
   refine a9 (by rw[hC];exact f4' _ rfl rfl rfl) ?_
   simp (disch:=first|omega|exact f8|fail) only[WA,Nat.reduceEqDiff,Nat.reduceLT,↓reduceIte]
   exact ⟨0,_,_,by decide,.refl _ _,5,rfl,by decide,fun _=>p0,fun _=>p1,fun _=>p2,fun _=>p3,fun _=>q,rfl,rfl⟩
 ·have p0:=g0 (by decide)
  have p1:=g1 (by decide)
  have p2:=g2 (by decide)
  have p3:=g3 (by decide)
  have p4:=g4 (by decide)
  rw[if_neg p0,if_neg p1,p2,p3] at hR
  rw[show R=(5,↑N,0) from hR.trans (if_neg p4)]
  simp (disch:=first|omega|exact f8|fail) only[WA,a8,b8,Nat.reduceEqDiff,Nat.reduceLT,↓reduceIte,rY]
  all_goals try (exfalso;omega)
  exact b9 rfl h0 rfl
end
theorem IB:∀ P:List v4,J7 P P=P.length
 | []=>rfl
 |a::P=>by rw[J7,if_pos rfl,IB P];rfl
theorem ZP {P D:List v4} (h1:J7 P D=D.length) (h2:P.length=D.length):P=D:=N7 h2 fun j hj=>lG P D j (by omega)
section
variable (w:World) (n:Nat)
theorem XK (P D:List v4) (hP:P.length≤2500) (hD:D.length≤2500):n5 (EN w (n+4)) 6 [jS 3 P,jS 3 D] (aS0 (aE3 P D)) ⟨[],0,0⟩:=by
 refine i9 rfl rfl (fun _ _=>rfl) (Nat.le_of_ble_eq_true rfl) (k9 w) rfl fun C hC h0=>?_
 have k1:=uW w (n+2) 3 P (by omega)
 have k2:=uW w (n+2) 3 D (by omega)
 have b1:=aZ8 w n 3 P (by omega)
 have b2:=aZ8 w n 3 D (by omega)
 have f1:=RS w (n+2) 3 3 P D (by omega) (by omega)
 have q1:=UL w (n+1) P D hP hD
 have q2:=UL w (n+1) D P hD hP
 have hc:=cN P D
 have hil:=l7 P
 have him:=l7 D
 unfold aE3
 by_cases u1:2000<P.length
 ·rw[if_pos (Or.inl u1)]
  rw[if_pos u1] at k1
  simp (disch:=first|exact f8|fail) only[WA,a8,b8,Nat.reduceEqDiff,Nat.reduceLT,Nat.reduceAdd,Nat.reduceBEq,Int.reduceAdd,Int.reduceSub,Int.reduceLT,Int.reduceLE,Int.reduceEq,Int.reduceNeg,↓reduceIte,reduceCtorEq,List.replicate,c6]
  refine a9 (by rw[hC];exact k1.flat rfl rfl) ?_
  simp (disch:=first|exact f8|(simp only[d9]<;>omega)) only[WA,a8,b8,Nat.reduceEqDiff,Nat.reduceLT,Nat.reduceAdd,Nat.reduceBEq,Int.reduceAdd,Int.reduceSub,Int.reduceLT,Int.reduceLE,Int.reduceEq,Int.reduceNeg,↓reduceIte,reduceCtorEq,List.replicate]
  exact b9 rfl h0 rfl
 rw[if_neg u1] at k1
 by_cases u2:2000<D.length
 ·rw[if_pos (Or.inr u2)]
  rw[if_pos u2] at k2
  simp (disch:=first|exact f8|fail) only[WA,a8,b8,Nat.reduceEqDiff,Nat.reduceLT,Nat.reduceAdd,Nat.reduceBEq,Int.reduceAdd,Int.reduceSub,Int.reduceLT,Int.reduceLE,Int.reduceEq,Int.reduceNeg,↓reduceIte,reduceCtorEq,List.replicate,c6]
  refine a9 (by rw[hC];exact k1.flat rfl rfl) ?_
  simp (disch:=first|exact f8|fail) only[WA,a8,b8,Nat.reduceEqDiff,Nat.reduceLT,Nat.reduceAdd,Nat.reduceBEq,Int.reduceAdd,Int.reduceSub,Int.reduceLT,Int.reduceLE,Int.reduceEq,Int.reduceNeg,↓reduceIte,reduceCtorEq,List.replicate]
  refine a9 (by rw[hC];exact k2.flat rfl rfl) ?_
  simp (disch:=first|exact f8|(simp only[d9]<;>omega)) only[WA,a8,b8,Nat.reduceEqDiff,Nat.reduceLT,Nat.reduceAdd,Nat.reduceBEq,Int.reduceAdd,Int.reduceSub,Int.reduceLT,Int.reduceLE,Int.reduceEq,Int.reduceNeg,↓reduceIte,reduceCtorEq,List.replicate]
  exact b9 rfl h0 rfl
 rw[if_neg u2] at k2
 rw[if_neg (fun h=>h.elim u1 u2),List.all_append]
 by_cases u3:P.all K9=true
 case neg=>
  rw[Bool.not_eq_true] at u3
  rw[u3] at b1
  rw[u3,Bool.false_and,if_pos (by decide)]
  simp (disch:=first|exact f8|fail) only[WA,a8,b8,Nat.reduceEqDiff,Nat.reduceLT,Nat.reduceAdd,Nat.reduceBEq,Int.reduceAdd,Int.reduceSub,Int.reduceLT,Int.reduceLE,Int.reduceEq,Int.reduceNeg,↓reduceIte,reduceCtorEq,List.replicate,c6]
  refine a9 (by rw[hC];exact k1.flat rfl rfl) ?_
  simp (disch:=first|exact f8|fail) only[WA,a8,b8,Nat.reduceEqDiff,Nat.reduceLT,Nat.reduceAdd,Nat.reduceBEq,Int.reduceAdd,Int.reduceSub,Int.reduceLT,Int.reduceLE,Int.reduceEq,Int.reduceNeg,↓reduceIte,reduceCtorEq,List.replicate]
  refine a9 (by rw[hC];exact k2.flat rfl rfl) ?_
  simp (disch:=first|exact f8|fail) only[WA,a8,b8,Nat.reduceEqDiff,Nat.reduceLT,Nat.reduceAdd,Nat.reduceBEq,Int.reduceAdd,Int.reduceSub,Int.reduceLT,Int.reduceLE,Int.reduceEq,Int.reduceNeg,↓reduceIte,reduceCtorEq,List.replicate]
  refine a9 (by rw[hC];exact b1.flat rfl rfl) ?_
  simp (disch:=first|exact f8|fail) only[WA,a8,b8,Nat.reduceEqDiff,Nat.reduceLT,Nat.reduceAdd,Nat.reduceBEq,Int.reduceAdd,Int.reduceSub,Int.reduceLT,Int.reduceLE,Int.reduceEq,Int.reduceNeg,↓reduceIte,reduceCtorEq,List.replicate]
  exact b9 rfl h0 rfl
 rw[u3] at b1
 rw[u3,Bool.true_and]
 by_cases u4:D.all K9=true
 case neg=>
  rw[if_pos u4]
  rw[Bool.not_eq_true] at u4
  rw[u4] at b2
  simp (disch:=first|exact f8|fail) only[WA,a8,b8,Nat.reduceEqDiff,Nat.reduceLT,Nat.reduceAdd,Nat.reduceBEq,Int.reduceAdd,Int.reduceSub,Int.reduceLT,Int.reduceLE,Int.reduceEq,Int.reduceNeg,↓reduceIte,reduceCtorEq,List.replicate,c6]
  refine a9 (by rw[hC];exact k1.flat rfl rfl) ?_
  simp (disch:=first|exact f8|fail) only[WA,a8,b8,Nat.reduceEqDiff,Nat.reduceLT,Nat.reduceAdd,Nat.reduceBEq,Int.reduceAdd,Int.reduceSub,Int.reduceLT,Int.reduceLE,Int.reduceEq,Int.reduceNeg,↓reduceIte,reduceCtorEq,List.replicate]
  refine a9 (by rw[hC];exact k2.flat rfl rfl) ?_
  simp (disch:=first|exact f8|fail) only[WA,a8,b8,Nat.reduceEqDiff,Nat.reduceLT,Nat.reduceAdd,Nat.reduceBEq,Int.reduceAdd,Int.reduceSub,Int.reduceLT,Int.reduceLE,Int.reduceEq,Int.reduceNeg,↓reduceIte,reduceCtorEq,List.replicate]
  refine a9 (by rw[hC];exact b1.flat rfl rfl) ?_
  simp (disch:=first|exact f8|fail) only[WA,a8,b8,Nat.reduceEqDiff,Nat.reduceLT,Nat.reduceAdd,Nat.reduceBEq,Int.reduceAdd,Int.reduceSub,Int.reduceLT,Int.reduceLE,Int.reduceEq,Int.reduceNeg,↓reduceIte,reduceCtorEq,List.replicate]
  refine a9 (by rw[hC];exact b2.flat rfl rfl) ?_
  simp (disch:=first|exact f8|fail) only[WA,a8,b8,Nat.reduceEqDiff,Nat.reduceLT,Nat.reduceAdd,Nat.reduceBEq,Int.reduceAdd,Int.reduceSub,Int.reduceLT,Int.reduceLE,Int.reduceEq,Int.reduceNeg,↓reduceIte,reduceCtorEq,List.replicate]
  exact b9 rfl h0 rfl
 rw[if_neg (not_not_intro u4)]
 rw[u4] at b2
 have hsame:P=D→J7 P D=D.length∧P.length=D.length:=fun h=>by rw[h];exact ⟨IB D,rfl⟩
 have hsame2:=ZP (P:=P) (D:=D)
 unfold aR9
 generalize H8 P D=K1 at*
 generalize H8 D P=K2 at*
 generalize J7 P D=N at*
 by_cases u5:P=D
 ·obtain ⟨d1,d2⟩:=hsame u5
  rw[if_pos u5]
  simp (disch:=first|exact f8|fail) only[WA,a8,b8,Nat.reduceEqDiff,Nat.reduceLT,Nat.reduceAdd,Nat.reduceBEq,Int.reduceAdd,Int.reduceSub,Int.reduceLT,Int.reduceLE,Int.reduceEq,Int.reduceNeg,↓reduceIte,reduceCtorEq,List.replicate,c6]
  refine a9 (by rw[hC];exact k1.flat rfl rfl) ?_
  simp (disch:=first|exact f8|fail) only[WA,a8,b8,Nat.reduceEqDiff,Nat.reduceLT,Nat.reduceAdd,Nat.reduceBEq,Int.reduceAdd,Int.reduceSub,Int.reduceLT,Int.reduceLE,Int.reduceEq,Int.reduceNeg,↓reduceIte,reduceCtorEq,List.replicate]
  refine a9 (by rw[hC];exact k2.flat rfl rfl) ?_
  simp (disch:=first|exact f8|fail) only[WA,a8,b8,Nat.reduceEqDiff,Nat.reduceLT,Nat.reduceAdd,Nat.reduceBEq,Int.reduceAdd,Int.reduceSub,Int.reduceLT,Int.reduceLE,Int.reduceEq,Int.reduceNeg,↓reduceIte,reduceCtorEq,List.replicate]
  refine a9 (by rw[hC];exact b1.flat rfl rfl) ?_
  simp (disch:=first|exact f8|fail) only[WA,a8,b8,Nat.reduceEqDiff,Nat.reduceLT,Nat.reduceAdd,Nat.reduceBEq,Int.reduceAdd,Int.reduceSub,Int.reduceLT,Int.reduceLE,Int.reduceEq,Int.reduceNeg,↓reduceIte,reduceCtorEq,List.replicate]
  refine a9 (by rw[hC];exact b2.flat rfl rfl) ?_
  simp (disch:=first|exact f8|fail) only[WA,a8,b8,Nat.reduceEqDiff,Nat.reduceLT,Nat.reduceAdd,Nat.reduceBEq,Int.reduceAdd,Int.reduceSub,Int.reduceLT,Int.reduceLE,Int.reduceEq,Int.reduceNeg,↓reduceIte,reduceCtorEq,List.replicate]
  refine a9 (by rw[hC];exact f1.flat rfl rfl) ?_
  simp (disch:=first|omega|exact f8|fail) only[WA,a8,b8,Nat.reduceEqDiff,Nat.reduceLT,Nat.reduceAdd,Nat.reduceBEq,Int.reduceAdd,Int.reduceSub,Int.reduceLT,Int.reduceLE,Int.reduceEq,Int.reduceNeg,↓reduceIte,reduceCtorEq,List.replicate]
  all_goals try (exfalso;omega)
  exact b9 rfl h0 rfl
 rw[if_neg u5]
 by_cases u6:N=D.length
 ·have d3:D.length<P.length:=by
   by_cases h:P.length=D.length
   ·exact absurd (hsame2 u6 h) u5
   ·omega
  rw[if_pos u6]
  subst u6
  simp (disch:=first|exact f8|fail) only[WA,a8,b8,Nat.reduceEqDiff,Nat.reduceLT,Nat.reduceAdd,Nat.reduceBEq,Int.reduceAdd,Int.reduceSub,Int.reduceLT,Int.reduceLE,Int.reduceEq,Int.reduceNeg,↓reduceIte,reduceCtorEq,List.replicate,c6]
  refine a9 (by rw[hC];exact k1.flat rfl rfl) ?_
  simp (disch:=first|exact f8|fail) only[WA,a8,b8,Nat.reduceEqDiff,Nat.reduceLT,Nat.reduceAdd,Nat.reduceBEq,Int.reduceAdd,Int.reduceSub,Int.reduceLT,Int.reduceLE,Int.reduceEq,Int.reduceNeg,↓reduceIte,reduceCtorEq,List.replicate]
  refine a9 (by rw[hC];exact k2.flat rfl rfl) ?_
  simp (disch:=first|exact f8|fail) only[WA,a8,b8,Nat.reduceEqDiff,Nat.reduceLT,Nat.reduceAdd,Nat.reduceBEq,Int.reduceAdd,Int.reduceSub,Int.reduceLT,Int.reduceLE,Int.reduceEq,Int.reduceNeg,↓reduceIte,reduceCtorEq,List.replicate]
  refine a9 (by rw[hC];exact b1.flat rfl rfl) ?_
  simp (disch:=first|exact f8|fail) only[WA,a8,b8,Nat.reduceEqDiff,Nat.reduceLT,Nat.reduceAdd,Nat.reduceBEq,Int.reduceAdd,Int.reduceSub,Int.reduceLT,Int.reduceLE,Int.reduceEq,Int.reduceNeg,↓reduceIte,reduceCtorEq,List.replicate]
  refine a9 (by rw[hC];exact b2.flat rfl rfl) ?_
  simp (disch:=first|exact f8|fail) only[WA,a8,b8,Nat.reduceEqDiff,Nat.reduceLT,Nat.reduceAdd,Nat.reduceBEq,Int.reduceAdd,Int.reduceSub,Int.reduceLT,Int.reduceLE,Int.reduceEq,Int.reduceNeg,↓reduceIte,reduceCtorEq,List.replicate]
  refine a9 (by rw[hC];exact f1.flat rfl rfl) ?_
  simp (disch:=first|omega|exact f8|(simp only[d9]<;>omega)) only[WA,a8,b8,Nat.reduceEqDiff,Nat.reduceLT,Nat.reduceAdd,Nat.reduceBEq,Int.reduceAdd,Int.reduceSub,Int.reduceLT,Int.reduceLE,Int.reduceEq,Int.reduceNeg,↓reduceIte,reduceCtorEq,List.replicate]
  all_goals try (exfalso;omega)
  exact b9 rfl h0 rfl
 rw[if_neg u6]
 cases K1 with
 |some k=>
  have q1:n5 (EN w (n+3)) 25 [jS 3 P,jS 3 D] (iN k) ⟨[],0,0⟩:=q1
  simp (disch:=first|exact f8|fail) only[WA,a8,b8,Nat.reduceEqDiff,Nat.reduceLT,Nat.reduceAdd,Nat.reduceBEq,Int.reduceAdd,Int.reduceSub,Int.reduceLT,Int.reduceLE,Int.reduceEq,Int.reduceNeg,↓reduceIte,reduceCtorEq,List.replicate,c6]
  refine a9 (by rw[hC];exact k1.flat rfl rfl) ?_
  simp (disch:=first|exact f8|fail) only[WA,a8,b8,Nat.reduceEqDiff,Nat.reduceLT,Nat.reduceAdd,Nat.reduceBEq,Int.reduceAdd,Int.reduceSub,Int.reduceLT,Int.reduceLE,Int.reduceEq,Int.reduceNeg,↓reduceIte,reduceCtorEq,List.replicate]
  refine a9 (by rw[hC];exact k2.flat rfl rfl) ?_
  simp (disch:=first|exact f8|fail) only[WA,a8,b8,Nat.reduceEqDiff,Nat.reduceLT,Nat.reduceAdd,Nat.reduceBEq,Int.reduceAdd,Int.reduceSub,Int.reduceLT,Int.reduceLE,Int.reduceEq,Int.reduceNeg,↓reduceIte,reduceCtorEq,List.replicate]
  refine a9 (by rw[hC];exact b1.flat rfl rfl) ?_
  simp (disch:=first|exact f8|fail) only[WA,a8,b8,Nat.reduceEqDiff,Nat.reduceLT,Nat.reduceAdd,Nat.reduceBEq,Int.reduceAdd,Int.reduceSub,Int.reduceLT,Int.reduceLE,Int.reduceEq,Int.reduceNeg,↓reduceIte,reduceCtorEq,List.replicate]
  refine a9 (by rw[hC];exact b2.flat rfl rfl) ?_
  simp (disch:=first|exact f8|fail) only[WA,a8,b8,Nat.reduceEqDiff,Nat.reduceLT,Nat.reduceAdd,Nat.reduceBEq,Int.reduceAdd,Int.reduceSub,Int.reduceLT,Int.reduceLE,Int.reduceEq,Int.reduceNeg,↓reduceIte,reduceCtorEq,List.replicate]
  refine a9 (by rw[hC];exact f1.flat rfl rfl) ?_
  simp (disch:=first|omega|exact f8|fail) only[WA,a8,b8,Nat.reduceEqDiff,Nat.reduceLT,Nat.reduceAdd,Nat.reduceBEq,Int.reduceAdd,Int.reduceSub,Int.reduceLT,Int.reduceLE,Int.reduceEq,Int.reduceNeg,↓reduceIte,reduceCtorEq,List.replicate]
  all_goals try (exfalso;omega)
  refine a9 (by rw[hC];exact q1.flat rfl rfl) ?_
  simp (disch:=first|omega|exact f8|fail) only[WA,a8,b8,Nat.reduceEqDiff,Nat.reduceLT,Nat.reduceAdd,Nat.reduceBEq,Int.reduceAdd,Int.reduceSub,Int.reduceLT,Int.reduceLE,Int.reduceEq,Int.reduceNeg,↓reduceIte,reduceCtorEq,List.replicate]
  all_goals try (exfalso;omega)
  refine a9 (by rw[hC];exact q1.flat rfl rfl) ?_
  repeat' (first|(simp (disch:=fail) only[WA,a8,b8,Nat.reduceEqDiff,Nat.reduceLT,Nat.reduceAdd,Nat.reduceBEq,Int.reduceAdd,Int.reduceSub,Int.reduceLT,Int.reduceLE,Int.reduceEq,Int.reduceNeg,↓reduceIte,reduceCtorEq,List.replicate])|apply C3|((first|apply N9|apply D4|apply I8|apply O0|apply N8|apply I9)<;>intro _))
  exact b9 rfl h0 rfl
 |none=>
 have q1:n5 (EN w (n+3)) 25 [jS 3 P,jS 3 D] (iN (-1)) ⟨[],0,0⟩:=q1
 cases K2 with
 |some k=>
  have q2:n5 (EN w (n+3)) 25 [jS 3 D,jS 3 P] (iN k) ⟨[],0,0⟩:=q2
  simp (disch:=first|exact f8|fail) only[WA,a8,b8,Nat.reduceEqDiff,Nat.reduceLT,Nat.reduceAdd,Nat.reduceBEq,Int.reduceAdd,Int.reduceSub,Int.reduceLT,Int.reduceLE,Int.reduceEq,Int.reduceNeg,↓reduceIte,reduceCtorEq,List.replicate,c6]
  refine a9 (by rw[hC];exact k1.flat rfl rfl) ?_
  simp (disch:=first|exact f8|fail) only[WA,a8,b8,Nat.reduceEqDiff,Nat.reduceLT,Nat.reduceAdd,Nat.reduceBEq,Int.reduceAdd,Int.reduceSub,Int.reduceLT,Int.reduceLE,Int.reduceEq,Int.reduceNeg,↓reduceIte,reduceCtorEq,List.replicate]
  refine a9 (by rw[hC];exact k2.flat rfl rfl) ?_
  simp (disch:=first|exact f8|fail) only[WA,a8,b8,Nat.reduceEqDiff,Nat.reduceLT,Nat.reduceAdd,Nat.reduceBEq,Int.reduceAdd,Int.reduceSub,Int.reduceLT,Int.reduceLE,Int.reduceEq,Int.reduceNeg,↓reduceIte,reduceCtorEq,List.replicate]
  refine a9 (by rw[hC];exact b1.flat rfl rfl) ?_
  simp (disch:=first|exact f8|fail) only[WA,a8,b8,Nat.reduceEqDiff,Nat.reduceLT,Nat.reduceAdd,Nat.reduceBEq,Int.reduceAdd,Int.reduceSub,Int.reduceLT,Int.reduceLE,Int.reduceEq,Int.reduceNeg,↓reduceIte,reduceCtorEq,List.replicate]
  refine a9 (by rw[hC];exact b2.flat rfl rfl) ?_
  simp (disch:=first|exact f8|fail) only[WA,a8,b8,Nat.reduceEqDiff,Nat.reduceLT,Nat.reduceAdd,Nat.reduceBEq,Int.reduceAdd,Int.reduceSub,Int.reduceLT,Int.reduceLE,Int.reduceEq,Int.reduceNeg,↓reduceIte,reduceCtorEq,List.replicate]
  refine a9 (by rw[hC];exact f1.flat rfl rfl) ?_
  simp (disch:=first|omega|exact f8|fail) only[WA,a8,b8,Nat.reduceEqDiff,Nat.reduceLT,Nat.reduceAdd,Nat.reduceBEq,Int.reduceAdd,Int.reduceSub,Int.reduceLT,Int.reduceLE,Int.reduceEq,Int.reduceNeg,↓reduceIte,reduceCtorEq,List.replicate]
  all_goals try (exfalso;omega)
  refine a9 (by rw[hC];exact q1.flat rfl rfl) ?_
  simp (disch:=first|exact f8|fail) only[WA,a8,b8,Nat.reduceEqDiff,Nat.reduceLT,Nat.reduceAdd,Nat.reduceBEq,Int.reduceAdd,Int.reduceSub,Int.reduceLT,Int.reduceLE,Int.reduceEq,Int.reduceNeg,↓reduceIte,reduceCtorEq,List.replicate]
  refine a9 (by rw[hC];exact q2.flat rfl rfl) ?_
  simp (disch:=first|omega|exact f8|fail) only[WA,a8,b8,Nat.reduceEqDiff,Nat.reduceLT,Nat.reduceAdd,Nat.reduceBEq,Int.reduceAdd,Int.reduceSub,Int.reduceLT,Int.reduceLE,Int.reduceEq,Int.reduceNeg,↓reduceIte,reduceCtorEq,List.replicate]
  all_goals try (exfalso;omega)
  refine a9 (by rw[hC];exact q2.flat rfl rfl) ?_
  repeat' (first|(simp (disch:=fail) only[WA,a8,b8,Nat.reduceEqDiff,Nat.reduceLT,Nat.reduceAdd,Nat.reduceBEq,Int.reduceAdd,Int.reduceSub,Int.reduceLT,Int.reduceLE,Int.reduceEq,Int.reduceNeg,↓reduceIte,reduceCtorEq,List.replicate])|apply C3|((first|apply N9|apply D4|apply I8|apply O0|apply N8|apply I9)<;>intro _))
  exact b9 rfl h0 rfl
 |none=>
 have q2:n5 (EN w (n+3)) 25 [jS 3 D,jS 3 P] (iN (-1)) ⟨[],0,0⟩:=q2
 by_cases u7:P.length=D.length
 case neg=>
  simp only[u7,false_and,if_false]
  simp (disch:=first|exact f8|fail) only[WA,a8,b8,Nat.reduceEqDiff,Nat.reduceLT,Nat.reduceAdd,Nat.reduceBEq,Int.reduceAdd,Int.reduceSub,Int.reduceLT,Int.reduceLE,Int.reduceEq,Int.reduceNeg,↓reduceIte,reduceCtorEq,List.replicate,c6]
  refine a9 (by rw[hC];exact k1.flat rfl rfl) ?_
  simp (disch:=first|exact f8|fail) only[WA,a8,b8,Nat.reduceEqDiff,Nat.reduceLT,Nat.reduceAdd,Nat.reduceBEq,Int.reduceAdd,Int.reduceSub,Int.reduceLT,Int.reduceLE,Int.reduceEq,Int.reduceNeg,↓reduceIte,reduceCtorEq,List.replicate]
  refine a9 (by rw[hC];exact k2.flat rfl rfl) ?_
  simp (disch:=first|exact f8|fail) only[WA,a8,b8,Nat.reduceEqDiff,Nat.reduceLT,Nat.reduceAdd,Nat.reduceBEq,Int.reduceAdd,Int.reduceSub,Int.reduceLT,Int.reduceLE,Int.reduceEq,Int.reduceNeg,↓reduceIte,reduceCtorEq,List.replicate]
  refine a9 (by rw[hC];exact b1.flat rfl rfl) ?_
  simp (disch:=first|exact f8|fail) only[WA,a8,b8,Nat.reduceEqDiff,Nat.reduceLT,Nat.reduceAdd,Nat.reduceBEq,Int.reduceAdd,Int.reduceSub,Int.reduceLT,Int.reduceLE,Int.reduceEq,Int.reduceNeg,↓reduceIte,reduceCtorEq,List.replicate]
  refine a9 (by rw[hC];exact b2.flat rfl rfl) ?_
  simp (disch:=first|exact f8|fail) only[WA,a8,b8,Nat.reduceEqDiff,Nat.reduceLT,Nat.reduceAdd,Nat.reduceBEq,Int.reduceAdd,Int.reduceSub,Int.reduceLT,Int.reduceLE,Int.reduceEq,Int.reduceNeg,↓reduceIte,reduceCtorEq,List.replicate]
  refine a9 (by rw[hC];exact f1.flat rfl rfl) ?_
  simp (disch:=first|omega|exact f8|fail) only[WA,a8,b8,Nat.reduceEqDiff,Nat.reduceLT,Nat.reduceAdd,Nat.reduceBEq,Int.reduceAdd,Int.reduceSub,Int.reduceLT,Int.reduceLE,Int.reduceEq,Int.reduceNeg,↓reduceIte,reduceCtorEq,List.replicate]
  all_goals try (exfalso;omega)
  refine a9 (by rw[hC];exact q1.flat rfl rfl) ?_
  simp (disch:=first|exact f8|fail) only[WA,a8,b8,Nat.reduceEqDiff,Nat.reduceLT,Nat.reduceAdd,Nat.reduceBEq,Int.reduceAdd,Int.reduceSub,Int.reduceLT,Int.reduceLE,Int.reduceEq,Int.reduceNeg,↓reduceIte,reduceCtorEq,List.replicate]
  refine a9 (by rw[hC];exact q2.flat rfl rfl) ?_
  simp (disch:=first|omega|exact f8|fail) only[WA,a8,b8,Nat.reduceEqDiff,Nat.reduceLT,Nat.reduceAdd,Nat.reduceBEq,Int.reduceAdd,Int.reduceSub,Int.reduceLT,Int.reduceLE,Int.reduceEq,Int.reduceNeg,↓reduceIte,reduceCtorEq,List.replicate]
  all_goals try (exfalso;omega)
  exact b9 rfl h0 rfl
 have e1:=I0 P (N+1) (by omega)
 have e2:=I0 D (N+1) (by omega)
 have heq:=EY w (n+2) 3 3 (P.drop (N+1)) (D.drop (N+1)) (by simp;omega) (by simp;omega)
 unfold jS at heq
 rw[← e1,← e2,List.length_drop,List.length_drop] at heq
 have hz:((N:Int)+1).toNat=N+1:=by omega
 by_cases u8:P.drop (N+1)=D.drop (N+1)
 ·rw[if_pos ⟨u7,u8⟩]
  rw[decide_eq_true u8] at heq
  clear hsame2
  simp (disch:=first|exact f8|fail) only[WA,a8,b8,Nat.reduceEqDiff,Nat.reduceLT,Nat.reduceAdd,Nat.reduceBEq,Int.reduceAdd,Int.reduceSub,Int.reduceLT,Int.reduceLE,Int.reduceEq,Int.reduceNeg,↓reduceIte,reduceCtorEq,List.replicate,c6]
  refine a9 (by rw[hC];exact k1.flat rfl rfl) ?_
  simp (disch:=first|exact f8|fail) only[WA,a8,b8,Nat.reduceEqDiff,Nat.reduceLT,Nat.reduceAdd,Nat.reduceBEq,Int.reduceAdd,Int.reduceSub,Int.reduceLT,Int.reduceLE,Int.reduceEq,Int.reduceNeg,↓reduceIte,reduceCtorEq,List.replicate]
  refine a9 (by rw[hC];exact k2.flat rfl rfl) ?_
  simp (disch:=first|exact f8|fail) only[WA,a8,b8,Nat.reduceEqDiff,Nat.reduceLT,Nat.reduceAdd,Nat.reduceBEq,Int.reduceAdd,Int.reduceSub,Int.reduceLT,Int.reduceLE,Int.reduceEq,Int.reduceNeg,↓reduceIte,reduceCtorEq,List.replicate]
  refine a9 (by rw[hC];exact b1.flat rfl rfl) ?_
  simp (disch:=first|exact f8|fail) only[WA,a8,b8,Nat.reduceEqDiff,Nat.reduceLT,Nat.reduceAdd,Nat.reduceBEq,Int.reduceAdd,Int.reduceSub,Int.reduceLT,Int.reduceLE,Int.reduceEq,Int.reduceNeg,↓reduceIte,reduceCtorEq,List.replicate]
  refine a9 (by rw[hC];exact b2.flat rfl rfl) ?_
  simp (disch:=first|exact f8|fail) only[WA,a8,b8,Nat.reduceEqDiff,Nat.reduceLT,Nat.reduceAdd,Nat.reduceBEq,Int.reduceAdd,Int.reduceSub,Int.reduceLT,Int.reduceLE,Int.reduceEq,Int.reduceNeg,↓reduceIte,reduceCtorEq,List.replicate]
  refine a9 (by rw[hC];exact f1.flat rfl rfl) ?_
  simp (disch:=first|omega|exact f8|fail) only[WA,a8,b8,Nat.reduceEqDiff,Nat.reduceLT,Nat.reduceAdd,Nat.reduceBEq,Int.reduceAdd,Int.reduceSub,Int.reduceLT,Int.reduceLE,Int.reduceEq,Int.reduceNeg,↓reduceIte,reduceCtorEq,List.replicate]
  all_goals try (exfalso;omega)
  refine a9 (by rw[hC];exact q1.flat rfl rfl) ?_
  simp (disch:=first|exact f8|fail) only[WA,a8,b8,Nat.reduceEqDiff,Nat.reduceLT,Nat.reduceAdd,Nat.reduceBEq,Int.reduceAdd,Int.reduceSub,Int.reduceLT,Int.reduceLE,Int.reduceEq,Int.reduceNeg,↓reduceIte,reduceCtorEq,List.replicate]
  refine a9 (by rw[hC];exact q2.flat rfl rfl) ?_
  simp (disch:=first|omega|exact f8|fail) only[WA,a8,b8,Nat.reduceEqDiff,Nat.reduceLT,Nat.reduceAdd,Nat.reduceBEq,Int.reduceAdd,Int.reduceSub,Int.reduceLT,Int.reduceLE,Int.reduceEq,Int.reduceNeg,↓reduceIte,reduceCtorEq,List.replicate,hz]
  all_goals try (exfalso;omega)
  refine a9 (by rw[hC];exact heq.flat rfl rfl) ?_
  simp (disch:=first|exact f8|fail) only[WA,a8,b8,Nat.reduceEqDiff,Nat.reduceLT,Nat.reduceAdd,Nat.reduceBEq,Int.reduceAdd,Int.reduceSub,Int.reduceLT,Int.reduceLE,Int.reduceEq,Int.reduceNeg,↓reduceIte,reduceCtorEq,List.replicate]
  exact b9 rfl h0 rfl
 ·rw[if_neg (fun h=>u8 h.2)]
  rw[decide_eq_false u8] at heq
  clear hsame2
  simp (disch:=first|exact f8|fail) only[WA,a8,b8,Nat.reduceEqDiff,Nat.reduceLT,Nat.reduceAdd,Nat.reduceBEq,Int.reduceAdd,Int.reduceSub,Int.reduceLT,Int.reduceLE,Int.reduceEq,Int.reduceNeg,↓reduceIte,reduceCtorEq,List.replicate,c6]
  refine a9 (by rw[hC];exact k1.flat rfl rfl) ?_
  simp (disch:=first|exact f8|fail) only[WA,a8,b8,Nat.reduceEqDiff,Nat.reduceLT,Nat.reduceAdd,Nat.reduceBEq,Int.reduceAdd,Int.reduceSub,Int.reduceLT,Int.reduceLE,Int.reduceEq,Int.reduceNeg,↓reduceIte,reduceCtorEq,List.replicate]
  refine a9 (by rw[hC];exact k2.flat rfl rfl) ?_
  simp (disch:=first|exact f8|fail) only[WA,a8,b8,Nat.reduceEqDiff,Nat.reduceLT,Nat.reduceAdd,Nat.reduceBEq,Int.reduceAdd,Int.reduceSub,Int.reduceLT,Int.reduceLE,Int.reduceEq,Int.reduceNeg,↓reduceIte,reduceCtorEq,List.replicate]
  refine a9 (by rw[hC];exact b1.flat rfl rfl) ?_
  simp (disch:=first|exact f8|fail) only[WA,a8,b8,Nat.reduceEqDiff,Nat.reduceLT,Nat.reduceAdd,Nat.reduceBEq,Int.reduceAdd,Int.reduceSub,Int.reduceLT,Int.reduceLE,Int.reduceEq,Int.reduceNeg,↓reduceIte,reduceCtorEq,List.replicate]
  refine a9 (by rw[hC];exact b2.flat rfl rfl) ?_
  simp (disch:=first|exact f8|fail) only[WA,a8,b8,Nat.reduceEqDiff,Nat.reduceLT,Nat.reduceAdd,Nat.reduceBEq,Int.reduceAdd,Int.reduceSub,Int.reduceLT,Int.reduceLE,Int.reduceEq,Int.reduceNeg,↓reduceIte,reduceCtorEq,List.replicate]
  refine a9 (by rw[hC];exact f1.flat rfl rfl) ?_
  simp (disch:=first|omega|exact f8|fail) only[WA,a8,b8,Nat.reduceEqDiff,Nat.reduceLT,Nat.reduceAdd,Nat.reduceBEq,Int.reduceAdd,Int.reduceSub,Int.reduceLT,Int.reduceLE,Int.reduceEq,Int.reduceNeg,↓reduceIte,reduceCtorEq,List.replicate]
  all_goals try (exfalso;omega)
  refine a9 (by rw[hC];exact q1.flat rfl rfl) ?_
  simp (disch:=first|exact f8|fail) only[WA,a8,b8,Nat.reduceEqDiff,Nat.reduceLT,Nat.reduceAdd,Nat.reduceBEq,Int.reduceAdd,Int.reduceSub,Int.reduceLT,Int.reduceLE,Int.reduceEq,Int.reduceNeg,↓reduceIte,reduceCtorEq,List.replicate]
  refine a9 (by rw[hC];exact q2.flat rfl rfl) ?_
  simp (disch:=first|omega|exact f8|fail) only[WA,a8,b8,Nat.reduceEqDiff,Nat.reduceLT,Nat.reduceAdd,Nat.reduceBEq,Int.reduceAdd,Int.reduceSub,Int.reduceLT,Int.reduceLE,Int.reduceEq,Int.reduceNeg,↓reduceIte,reduceCtorEq,List.replicate,hz]
  all_goals try (exfalso;omega)
  refine a9 (by rw[hC];exact heq.flat rfl rfl) ?_
  simp (disch:=first|exact f8|fail) only[WA,a8,b8,Nat.reduceEqDiff,Nat.reduceLT,Nat.reduceAdd,Nat.reduceBEq,Int.reduceAdd,Int.reduceSub,Int.reduceLT,Int.reduceLE,Int.reduceEq,Int.reduceNeg,↓reduceIte,reduceCtorEq,List.replicate]
  exact b9 rfl h0 rfl
end
set_option maxHeartbeats 1000000
def LS (k:Nat) (r:Bool × List q8):List D:= [.sc (.bool r.1),.sl k r.2.length (v8 r.2)]
def M1 (k:Nat) (R:List (Bool × List q8)):List D:=R.flatMap (LS k)
theorem E6 (k:Nat) (R:List (Bool × List q8)):(M1 k R).length=R.length*2:=by
 induction R with
 |nil=>rfl
 |cons r R ih=>
  have e:M1 k (r::R)=LS k r++M1 k R:=by simp[M1]
  rw[e,List.length_append,ih]
  simp only[LS,List.length_cons,List.length_nil]
  omega
theorem jW (k:Nat) (R:List (Bool × List q8)) (j:Nat) (hj:j<R.length):B4 (M1 k R) (j*2) (some 2)=some (.agg [.sc (.bool R[j]!.1),.sl k R[j]!.2.length (v8 R[j]!.2)]):=lH (LS k) 2 R (fun _=>rfl) (by decide) j hj
abbrev cM (s k:Nat) (c:QS):V:= .agg [.sc (.int .i64 c.1),.sl s c.2.length (M1 k c.2)]
def bT (R:List (Bool × List q8)):Prop:=∀ r ∈ R,GQ r.2∧r.2.length≤140737488351232
theorem BZ (k:Nat) (R:List (Bool × List q8)) (j:Nat) (hj:j<R.length):B4 (M1 k R) (j*2) none=some (.sc (.bool R[j]!.1)):=W8 (LS k) 2 R (fun _=>rfl) j 0 hj (by decide)
theorem jX (k:Nat) (R:List (Bool × List q8)) (j:Nat) (hj:j<R.length):B4 (M1 k R) (j*2+1) none=some (.sl k R[j]!.2.length (v8 R[j]!.2)):=W8 (LS k) 2 R (fun _=>rfl) j 1 hj (by decide)
abbrev tS (s:Nat) (L:List q8):V:= .sl s L.length (v8 L)
def rT (L:List q8):Int × Int:=if J5 L=0 then (E8 E3 L,0) else (0,J5 L)
def gZ (L:List q8):Int × Int:=if J5 L=0 then (E8 H9 L,0) else (0,J5 L)
section
variable (w:World) (n:Nat)
theorem aW0 (s:Nat) (L:List q8) (hL:L.length≤140737488351232) (hK:GQ L):n5 (EN w (n+7)) 54 [tS s L] (.tup [iN (rT L).1,iN (rT L).2]) ⟨[],0,0⟩:=by
 have ha:=PY w n s L hL hK
 unfold rT
 by_cases e:J5 L=0
 ·rw[if_pos e]
  rw[e] at ha
  obtain ⟨l1,l2,_⟩:=iV e
  have hs:=QB w (n+4) s L l1 l2
  refine i9 rfl rfl (fun _ _=>rfl) (Nat.le_of_ble_eq_true rfl) (k9 w) rfl fun C hC h0=>?_
  simp (disch:=first|exact f8|fail) only[WA,a8,b8,Nat.reduceEqDiff,Nat.reduceLT,Nat.reduceAdd,Nat.reduceBEq,Int.reduceAdd,Int.reduceSub,Int.reduceLT,Int.reduceLE,Int.reduceEq,Int.reduceNeg,↓reduceIte,reduceCtorEq,List.replicate,c54]
  refine a9 (by rw[hC];exact ha.flat rfl rfl) ?_
  simp (disch:=first|exact f8|fail) only[WA,a8,b8,Nat.reduceEqDiff,Nat.reduceLT,Nat.reduceAdd,Nat.reduceBEq,Int.reduceAdd,Int.reduceSub,Int.reduceLT,Int.reduceLE,Int.reduceEq,Int.reduceNeg,↓reduceIte,reduceCtorEq,List.replicate]
  refine a9 (by rw[hC];exact hs.flat rfl rfl) ?_
  simp (disch:=first|exact f8|fail) only[WA,a8,b8,Nat.reduceEqDiff,Nat.reduceLT,Nat.reduceAdd,Nat.reduceBEq,Int.reduceAdd,Int.reduceSub,Int.reduceLT,Int.reduceLE,Int.reduceEq,Int.reduceNeg,↓reduceIte,reduceCtorEq,List.replicate]
  exact b9 rfl h0 rfl
 ·rw[if_neg e]
  generalize J5 L=E at*
  refine i9 rfl rfl (fun _ _=>rfl) (Nat.le_of_ble_eq_true rfl) (k9 w) rfl fun C hC h0=>?_
  simp (disch:=first|exact f8|fail) only[WA,a8,b8,Nat.reduceEqDiff,Nat.reduceLT,Nat.reduceAdd,Nat.reduceBEq,Int.reduceAdd,Int.reduceSub,Int.reduceLT,Int.reduceLE,Int.reduceEq,Int.reduceNeg,↓reduceIte,reduceCtorEq,List.replicate,c54]
  refine a9 (by rw[hC];exact ha.flat rfl rfl) ?_
  simp (disch:=first|exact f8|(simp only[d9]<;>omega)) only[WA,a8,b8,Nat.reduceEqDiff,Nat.reduceLT,Nat.reduceAdd,Nat.reduceBEq,Int.reduceAdd,Int.reduceSub,Int.reduceLT,Int.reduceLE,Int.reduceEq,Int.reduceNeg,↓reduceIte,reduceCtorEq,List.replicate,e]
  exact b9 rfl h0 rfl
theorem aL2 (s:Nat) (L:List q8) (hL:L.length≤140737488351232) (hK:GQ L):n5 (EN w (n+7)) 55 [tS s L] (.tup [iN (gZ L).1,iN (gZ L).2]) ⟨[],0,0⟩:=by
 have ha:=PY w n s L hL hK
 unfold gZ
 by_cases e:J5 L=0
 ·rw[if_pos e]
  rw[e] at ha
  obtain ⟨l1,l2,_⟩:=iV e
  have hs:=QB w (n+4) s L l1 l2
  refine i9 rfl rfl (fun _ _=>rfl) (Nat.le_of_ble_eq_true rfl) (k9 w) rfl fun C hC h0=>?_
  simp (disch:=first|exact f8|fail) only[WA,a8,b8,Nat.reduceEqDiff,Nat.reduceLT,Nat.reduceAdd,Nat.reduceBEq,Int.reduceAdd,Int.reduceSub,Int.reduceLT,Int.reduceLE,Int.reduceEq,Int.reduceNeg,↓reduceIte,reduceCtorEq,List.replicate,c55]
  refine a9 (by rw[hC];exact ha.flat rfl rfl) ?_
  simp (disch:=first|exact f8|fail) only[WA,a8,b8,Nat.reduceEqDiff,Nat.reduceLT,Nat.reduceAdd,Nat.reduceBEq,Int.reduceAdd,Int.reduceSub,Int.reduceLT,Int.reduceLE,Int.reduceEq,Int.reduceNeg,↓reduceIte,reduceCtorEq,List.replicate]
  refine a9 (by rw[hC];exact hs.flat rfl rfl) ?_
  simp (disch:=first|exact f8|fail) only[WA,a8,b8,Nat.reduceEqDiff,Nat.reduceLT,Nat.reduceAdd,Nat.reduceBEq,Int.reduceAdd,Int.reduceSub,Int.reduceLT,Int.reduceLE,Int.reduceEq,Int.reduceNeg,↓reduceIte,reduceCtorEq,List.replicate]
  exact b9 rfl h0 rfl
 ·rw[if_neg e]
  generalize J5 L=E at*
  refine i9 rfl rfl (fun _ _=>rfl) (Nat.le_of_ble_eq_true rfl) (k9 w) rfl fun C hC h0=>?_
  simp (disch:=first|exact f8|fail) only[WA,a8,b8,Nat.reduceEqDiff,Nat.reduceLT,Nat.reduceAdd,Nat.reduceBEq,Int.reduceAdd,Int.reduceSub,Int.reduceLT,Int.reduceLE,Int.reduceEq,Int.reduceNeg,↓reduceIte,reduceCtorEq,List.replicate,c55]
  refine a9 (by rw[hC];exact ha.flat rfl rfl) ?_
  simp (disch:=first|exact f8|(simp only[d9]<;>omega)) only[WA,a8,b8,Nat.reduceEqDiff,Nat.reduceLT,Nat.reduceAdd,Nat.reduceBEq,Int.reduceAdd,Int.reduceSub,Int.reduceLT,Int.reduceLE,Int.reduceEq,Int.reduceNeg,↓reduceIte,reduceCtorEq,List.replicate,e]
  exact b9 rfl h0 rfl
theorem aU8 (s:Nat) (L:List q8) (hL:L.length≤140737488351232) (hK:GQ L):n5 (EN w (n+4)) 50 [tS s L] (.tup [iN (rT L).1,iN (rT L).2]) ⟨[],0,0⟩:=by
 have ha:=aH9 w n s L hL hK
 unfold rT
 by_cases e:J5 L=0
 ·rw[if_pos e]
  rw[e] at ha
  obtain ⟨l1,l2,_⟩:=iV e
  have hs:=FY w (n+1) s L l1 l2
  refine i9 rfl rfl (fun _ _=>rfl) (Nat.le_of_ble_eq_true rfl) (k9 w) rfl fun C hC h0=>?_
  simp (disch:=first|exact f8|fail) only[WA,a8,b8,Nat.reduceEqDiff,Nat.reduceLT,Nat.reduceAdd,Nat.reduceBEq,Int.reduceAdd,Int.reduceSub,Int.reduceLT,Int.reduceLE,Int.reduceEq,Int.reduceNeg,↓reduceIte,reduceCtorEq,List.replicate,c50]
  refine a9 (by rw[hC];exact ha.flat rfl rfl) ?_
  simp (disch:=first|exact f8|fail) only[WA,a8,b8,Nat.reduceEqDiff,Nat.reduceLT,Nat.reduceAdd,Nat.reduceBEq,Int.reduceAdd,Int.reduceSub,Int.reduceLT,Int.reduceLE,Int.reduceEq,Int.reduceNeg,↓reduceIte,reduceCtorEq,List.replicate]
  refine a9 (by rw[hC];exact hs.flat rfl rfl) ?_
  simp (disch:=first|exact f8|fail) only[WA,a8,b8,Nat.reduceEqDiff,Nat.reduceLT,Nat.reduceAdd,Nat.reduceBEq,Int.reduceAdd,Int.reduceSub,Int.reduceLT,Int.reduceLE,Int.reduceEq,Int.reduceNeg,↓reduceIte,reduceCtorEq,List.replicate]
  exact b9 rfl h0 rfl
 ·rw[if_neg e]
  generalize J5 L=E at*
  refine i9 rfl rfl (fun _ _=>rfl) (Nat.le_of_ble_eq_true rfl) (k9 w) rfl fun C hC h0=>?_
  simp (disch:=first|exact f8|fail) only[WA,a8,b8,Nat.reduceEqDiff,Nat.reduceLT,Nat.reduceAdd,Nat.reduceBEq,Int.reduceAdd,Int.reduceSub,Int.reduceLT,Int.reduceLE,Int.reduceEq,Int.reduceNeg,↓reduceIte,reduceCtorEq,List.replicate,c50]
  refine a9 (by rw[hC];exact ha.flat rfl rfl) ?_
  simp (disch:=first|exact f8|(simp only[d9]<;>omega)) only[WA,a8,b8,Nat.reduceEqDiff,Nat.reduceLT,Nat.reduceAdd,Nat.reduceBEq,Int.reduceAdd,Int.reduceSub,Int.reduceLT,Int.reduceLE,Int.reduceEq,Int.reduceNeg,↓reduceIte,reduceCtorEq,List.replicate,e]
  refine a9 (by rw[hC];exact ha.flat rfl rfl) ?_
  repeat' (first|(simp (disch:=fail) only[WA,a8,b8,Nat.reduceEqDiff,Nat.reduceLT,Nat.reduceAdd,Nat.reduceBEq,Int.reduceAdd,Int.reduceSub,Int.reduceLT,Int.reduceLE,Int.reduceEq,Int.reduceNeg,↓reduceIte,reduceCtorEq,List.replicate])|apply C3|((first|apply N9|apply D4|apply I8|apply O0|apply N8|apply I9)<;>intro _))
  exact b9 rfl h0 rfl
theorem aJ5 (s:Nat) (L:List q8) (hL:L.length≤140737488351232) (hK:GQ L):n5 (EN w (n+4)) 51 [tS s L] (.tup [iN (gZ L).1,iN (gZ L).2]) ⟨[],0,0⟩:=by
 have ha:=aH9 w n s L hL hK
 unfold gZ
 by_cases e:J5 L=0
 ·rw[if_pos e]
  rw[e] at ha
  obtain ⟨l1,l2,_⟩:=iV e
  have hs:=FY w (n+1) s L l1 l2
  refine i9 rfl rfl (fun _ _=>rfl) (Nat.le_of_ble_eq_true rfl) (k9 w) rfl fun C hC h0=>?_
  simp (disch:=first|exact f8|fail) only[WA,a8,b8,Nat.reduceEqDiff,Nat.reduceLT,Nat.reduceAdd,Nat.reduceBEq,Int.reduceAdd,Int.reduceSub,Int.reduceLT,Int.reduceLE,Int.reduceEq,Int.reduceNeg,↓reduceIte,reduceCtorEq,List.replicate,c51]
  refine a9 (by rw[hC];exact ha.flat rfl rfl) ?_
  simp (disch:=first|exact f8|fail) only[WA,a8,b8,Nat.reduceEqDiff,Nat.reduceLT,Nat.reduceAdd,Nat.reduceBEq,Int.reduceAdd,Int.reduceSub,Int.reduceLT,Int.reduceLE,Int.reduceEq,Int.reduceNeg,↓reduceIte,reduceCtorEq,List.replicate]
  refine a9 (by rw[hC];exact hs.flat rfl rfl) ?_
  simp (disch:=first|exact f8|fail) only[WA,a8,b8,Nat.reduceEqDiff,Nat.reduceLT,Nat.reduceAdd,Nat.reduceBEq,Int.reduceAdd,Int.reduceSub,Int.reduceLT,Int.reduceLE,Int.reduceEq,Int.reduceNeg,↓reduceIte,reduceCtorEq,List.replicate]
  exact b9 rfl h0 rfl
 ·rw[if_neg e]
  generalize J5 L=E at*
  refine i9 rfl rfl (fun _ _=>rfl) (Nat.le_of_ble_eq_true rfl) (k9 w) rfl fun C hC h0=>?_
  simp (disch:=first|exact f8|fail) only[WA,a8,b8,Nat.reduceEqDiff,Nat.reduceLT,Nat.reduceAdd,Nat.reduceBEq,Int.reduceAdd,Int.reduceSub,Int.reduceLT,Int.reduceLE,Int.reduceEq,Int.reduceNeg,↓reduceIte,reduceCtorEq,List.replicate,c51]
  refine a9 (by rw[hC];exact ha.flat rfl rfl) ?_
  simp (disch:=first|exact f8|(simp only[d9]<;>omega)) only[WA,a8,b8,Nat.reduceEqDiff,Nat.reduceLT,Nat.reduceAdd,Nat.reduceBEq,Int.reduceAdd,Int.reduceSub,Int.reduceLT,Int.reduceLE,Int.reduceEq,Int.reduceNeg,↓reduceIte,reduceCtorEq,List.replicate,e]
  refine a9 (by rw[hC];exact ha.flat rfl rfl) ?_
  repeat' (first|(simp (disch:=fail) only[WA,a8,b8,Nat.reduceEqDiff,Nat.reduceLT,Nat.reduceAdd,Nat.reduceBEq,Int.reduceAdd,Int.reduceSub,Int.reduceLT,Int.reduceLE,Int.reduceEq,Int.reduceNeg,↓reduceIte,reduceCtorEq,List.replicate])|apply C3|((first|apply N9|apply D4|apply I8|apply O0|apply N8|apply I9)<;>intro _))
  exact b9 rfl h0 rfl
end
def T8:Int→List (Bool × List q8)→Int
 |_,[]=>0
 |z,r::R=>if J5 r.2 ≠ 0 then J5 r.2 else if E8 E3 r.2 ≠ z then 26 else T8 (E8 H9 r.2) R
def fV (c:QS):Int:=if 100<c.2.length then 4 else if c.1<0∨200<c.1 then 8 else T8 c.1 c.2
theorem jU {z:Int} {r:Bool × List q8} {R:List (Bool × List q8)} (h:J5 r.2 ≠ 0):T8 z (r::R)=J5 r.2:=by rw[T8,if_pos h]
theorem jV {z:Int} {r:Bool × List q8} {R:List (Bool × List q8)} (h:J5 r.2=0) (h2:E8 E3 r.2 ≠ z):T8 z (r::R)=26:=by rw[T8,if_neg (not_not_intro h),if_pos h2]
theorem nY {z:Int} {r:Bool × List q8} {R:List (Bool × List q8)} (h:J5 r.2=0) (h2:E8 E3 r.2=z):T8 z (r::R)=T8 (E8 H9 r.2) R:=by rw[T8,if_neg (not_not_intro h),if_neg (not_not_intro h2)]
theorem mU {R:List (Bool × List q8)} {j:Nat} (h:j<R.length):R.drop j=R[j]! ::R.drop (j+1):=by rw[List.drop_eq_getElem_cons h,getElem!_pos R j h]
theorem bT.at {R:List (Bool × List q8)} (h:bT R) {j:Nat} (hj:j<R.length):GQ R[j]!.2∧R[j]!.2.length≤140737488351232:=h _ (by rw[getElem!_pos R j hj];exact List.getElem_mem hj)
section
variable (w:World) (n:Nat)
theorem PN (s k:Nat) (c:QS) (hc:c.2.length≤140737488351232) (hK:bT c.2):n5 (EN w (n+5)) 40 [cM s k c] (iN (fV c)) ⟨[],0,0⟩:=by
 obtain ⟨z,R⟩:=c
 simp only at hc hK
 have hil:=E6 k R
 unfold fV
 simp only
 refine i9 rfl rfl (fun _ _=>rfl) (Nat.le_of_ble_eq_true rfl) (k9 w) rfl fun C hC h0=>?_
 have hrn:C.E.rounds=x8:=by rw[hC,j8]
 by_cases e1:100<R.length
 ·rw[if_pos e1]
  simp (disch:=first|omega|exact f8|fail) only[WA,a8,b8,Nat.reduceEqDiff,Nat.reduceLT,Nat.reduceAdd,Nat.reduceBEq,Int.reduceAdd,Int.reduceSub,Int.reduceLT,Int.reduceLE,Int.reduceEq,Int.reduceNeg,↓reduceIte,reduceCtorEq,List.replicate,c40]
  all_goals try (exfalso;omega)
  exact b9 rfl h0 rfl
 rw[if_neg e1]
 by_cases e2:z<0
 ·rw[if_pos (Or.inl e2)]
  simp (disch:=first|omega|exact f8|fail) only[WA,a8,b8,Nat.reduceEqDiff,Nat.reduceLT,Nat.reduceAdd,Nat.reduceBEq,Int.reduceAdd,Int.reduceSub,Int.reduceLT,Int.reduceLE,Int.reduceEq,Int.reduceNeg,↓reduceIte,reduceCtorEq,List.replicate,c40]
  all_goals try (exfalso;omega)
  exact b9 rfl h0 rfl
 by_cases e3:200<z
 ·rw[if_pos (Or.inr e3)]
  simp (disch:=first|omega|exact f8|fail) only[WA,a8,b8,Nat.reduceEqDiff,Nat.reduceLT,Nat.reduceAdd,Nat.reduceBEq,Int.reduceAdd,Int.reduceSub,Int.reduceLT,Int.reduceLE,Int.reduceEq,Int.reduceNeg,↓reduceIte,reduceCtorEq,List.replicate,c40]
  all_goals try (exfalso;omega)
  exact b9 rfl h0 rfl
 rw[if_neg (fun h=>h.elim e2 e3)]
 simp (disch:=first|omega|exact f8|fail) only[WA,a8,b8,Nat.reduceEqDiff,Nat.reduceLT,Nat.reduceAdd,Nat.reduceBEq,Int.reduceAdd,Int.reduceSub,Int.reduceLT,Int.reduceLE,Int.reduceEq,Int.reduceNeg,↓reduceIte,reduceCtorEq,List.replicate,c40]
 all_goals try (exfalso;omega)
 refine n9 (fun m fr st=>∃ (j:Nat) (y:Int),m=R.length - j∧j≤R.length∧T8 z R=T8 y (R.drop j)∧fr= [(1,.ptr 0 0),(3,iN y),(4,iN j)]∧st=⟨[(0,.box 31 1 [iN z,.sl s R.length (M1 k R)])],1,0⟩) R.length ?_ ⟨_,_,.refl _ _,0,z,by omega,Nat.zero_le _,rfl,rfl,rfl⟩ ?_
 ·rw[hrn];unfold x8;omega
 rintro m fr st ⟨j,y,rfl,hj,hinv,rfl,rfl⟩
 by_cases hlt:j<R.length
 case neg=>
  have:j=R.length:=by omega
  subst this
  rw[hinv,List.drop_length,T8]
  simp (disch:=first|omega|exact f8|fail) only[WA,a8,b8,Nat.reduceEqDiff,Nat.reduceLT,Nat.reduceAdd,Nat.reduceBEq,Int.reduceAdd,Int.reduceSub,Int.reduceLT,Int.reduceLE,Int.reduceEq,Int.reduceNeg,↓reduceIte,reduceCtorEq,List.replicate,HO]
  all_goals try (exfalso;omega)
  exact b9 rfl h0 rfl
 have hag:=jW k R j hlt
 have hk:=hK.at hlt
 have hu:=aU8 w n k R[j]!.2 hk.2 hk.1
 have hm:=aJ5 w n k R[j]!.2 hk.2 hk.1
 rw[mU hlt] at hinv
 have hfl:=jX k R j hlt
 unfold rT at hu
 unfold gZ at hm
 generalize hr:R[j]! =r at*
 obtain ⟨b,L⟩:=r
 simp only at hu hm hfl hk
 by_cases q1:J5 L=0
 case neg=>
  rw[hinv,jU q1]
  rw[if_neg q1] at hu
  simp only
  generalize J5 L=E at*
  simp (disch:=first|omega|exact f8|fail) only[WA,a8,b8,Nat.reduceEqDiff,Nat.reduceLT,Nat.reduceAdd,Nat.reduceBEq,Int.reduceAdd,Int.reduceSub,Int.reduceLT,Int.reduceLE,Int.reduceEq,Int.reduceNeg,↓reduceIte,reduceCtorEq,List.replicate,HO,hag,hfl]
  all_goals try (exfalso;omega)
  refine a9 (by rw[hC];exact hu.flat rfl rfl) ?_
  simp (disch:=first|exact f8|(simp only[d9]<;>omega)) only[WA,a8,b8,Nat.reduceEqDiff,Nat.reduceLT,Nat.reduceAdd,Nat.reduceBEq,Int.reduceAdd,Int.reduceSub,Int.reduceLT,Int.reduceLE,Int.reduceEq,Int.reduceNeg,↓reduceIte,reduceCtorEq,List.replicate,q1]
  exact b9 rfl h0 rfl
 rw[if_pos q1] at hu hm
 by_cases q2:E8 E3 L=y
 case neg=>
  rw[hinv,jV q1 q2]
  generalize E8 E3 L=U at*
  simp (disch:=first|omega|exact f8|fail) only[WA,a8,b8,Nat.reduceEqDiff,Nat.reduceLT,Nat.reduceAdd,Nat.reduceBEq,Int.reduceAdd,Int.reduceSub,Int.reduceLT,Int.reduceLE,Int.reduceEq,Int.reduceNeg,↓reduceIte,reduceCtorEq,List.replicate,HO,hag,hfl]
  all_goals try (exfalso;omega)
  refine a9 (by rw[hC];exact hu.flat rfl rfl) ?_
  simp (disch:=first|exact f8|(simp only[d9]<;>omega)) only[WA,a8,b8,Nat.reduceEqDiff,Nat.reduceLT,Nat.reduceAdd,Nat.reduceBEq,Int.reduceAdd,Int.reduceSub,Int.reduceLT,Int.reduceLE,Int.reduceEq,Int.reduceNeg,↓reduceIte,reduceCtorEq,List.replicate,q2]
  exact b9 rfl h0 rfl
 rw[nY q1 q2] at hinv
 generalize E8 E3 L=U at*
 subst q2
 simp (disch:=first|omega|exact f8|fail) only[WA,a8,b8,Nat.reduceEqDiff,Nat.reduceLT,Nat.reduceAdd,Nat.reduceBEq,Int.reduceAdd,Int.reduceSub,Int.reduceLT,Int.reduceLE,Int.reduceEq,Int.reduceNeg,↓reduceIte,reduceCtorEq,List.replicate,HO,hag,hfl]
 all_goals try (exfalso;omega)
 refine a9 (by rw[hC];exact hu.flat rfl rfl) ?_
 simp (disch:=first|omega|exact f8|fail) only[WA,a8,b8,Nat.reduceEqDiff,Nat.reduceLT,Nat.reduceAdd,Nat.reduceBEq,Int.reduceAdd,Int.reduceSub,Int.reduceLT,Int.reduceLE,Int.reduceEq,Int.reduceNeg,↓reduceIte,reduceCtorEq,List.replicate,hag,hfl]
 refine a9 (by rw[hC];exact hm.flat rfl rfl) ?_
 simp (disch:=first|omega|exact f8|fail) only[WA,a8,b8,Nat.reduceEqDiff,Nat.reduceLT,Nat.reduceAdd,Nat.reduceBEq,Int.reduceAdd,Int.reduceSub,Int.reduceLT,Int.reduceLE,Int.reduceEq,Int.reduceNeg,↓reduceIte,reduceCtorEq,List.replicate]
 exact ⟨R.length - (j+1),_,_,by omega,.refl _ _,j+1,E8 H9 L,rfl,by omega,hinv,rfl,rfl⟩
end
def L9 (x:q8):Bool:=decide (x.kind=1∨x.kind=8)
def dD (R:List (Bool × List q8)):Bool:=R.all fun r=>r.2.all L9
def FO (c:QS):Bool:=dD c.2 && decide (c.1≤101)
abbrev aT4:V:= .sc (.func (.func 47) #[] #[])
theorem wX (L:List q8) (k:Nat) (hk:k<L.length):B4 (v8 L) (k*4) none=some (.sc (.int .u8 L[k]!.kind)):=W8 (fun x:q8=> [.sc (.int .u8 x.kind),.sc (.bool x.purl),.sc (.int .i64 x.a),.sc (.int .i64 x.b)]) 4 L (fun _=>rfl) k 0 hk (by decide)
theorem aL5 (L:List q8) (k:Nat) (hk:k<L.length):B4 (v8 L) (k*4+1) none=some (.sc (.bool L[k]!.purl)):=W8 (fun x:q8=> [.sc (.int .u8 x.kind),.sc (.bool x.purl),.sc (.int .i64 x.a),.sc (.int .i64 x.b)]) 4 L (fun _=>rfl) k 1 hk (by decide)
theorem XB {p:q8→Bool} {L:List q8} {k:Nat} (h:k<L.length) (h1:(L.take k).all p=true) (h2:p L[k]! =true):(L.take (k+1)).all p=true:=by
 rw[List.take_succ_eq_append_getElem h,List.all_append,h1,Bool.true_and,← getElem!_pos L k h,List.all_cons,h2]
 rfl
theorem KS {p:q8→Bool} {L:List q8} {k:Nat} (h:k<L.length) (h2:p L[k]! =false):L.all p=false:=by
 rw[← Bool.not_eq_true]
 intro ha
 have:=List.all_eq_true.1 ha L[k]! (by rw[getElem!_pos L k h];exact List.getElem_mem h)
 rw[h2] at this;cases this
section
variable (w:World) (n:Nat)
theorem bI0 (x:q8):n5 (EN w (n+1)) 47 [qC x] (.sc (.bool (!L9 x))) ⟨[],0,0⟩:=by
 obtain ⟨k,p,a,b⟩:=x
 refine i9 rfl rfl (fun _ _=>rfl) (Nat.le_of_ble_eq_true rfl) (k9 w) rfl fun C hC h0=>?_
 unfold L9
 simp only
 by_cases e1:k=1
 ·subst e1
  simp (disch:=first|omega|exact f8|(simp only[d9]<;>omega)) only[WA,a8,b8,Nat.reduceEqDiff,Nat.reduceLT,Nat.reduceAdd,Nat.reduceBEq,Int.reduceAdd,Int.reduceSub,Int.reduceLT,Int.reduceLE,Int.reduceEq,Int.reduceNeg,↓reduceIte,reduceCtorEq,List.replicate,c47]
  exact b9 rfl h0 rfl
 have f1:((k:Nat):Int) ≠ 1:=by omega
 by_cases e2:k=8
 ·subst e2
  simp (disch:=first|omega|exact f8|fail) only[WA,a8,b8,Nat.reduceEqDiff,Nat.reduceLT,Nat.reduceAdd,Nat.reduceBEq,Int.reduceAdd,Int.reduceSub,Int.reduceLT,Int.reduceLE,Int.reduceEq,Int.reduceNeg,↓reduceIte,reduceCtorEq,List.replicate,c47]
  exact b9 rfl h0 rfl
 have f2:((k:Nat):Int) ≠ 8:=by omega
 rw[decide_eq_false (fun h=>h.elim e1 e2)]
 simp (disch:=first|omega|exact f8|fail) only[WA,a8,b8,Nat.reduceEqDiff,Nat.reduceLT,Nat.reduceAdd,Nat.reduceBEq,Int.reduceAdd,Int.reduceSub,Int.reduceLT,Int.reduceLE,Int.reduceEq,Int.reduceNeg,↓reduceIte,reduceCtorEq,List.replicate,c47]
 all_goals try (exfalso;omega)
 exact b9 rfl h0 rfl
theorem KT (s:Nat) (L:List q8) (hL:L.length≤140737488351232):n5 (EN w (n+3)) 46 [tS s L,aT4] (.sc (.bool (!(L.all L9)))) ⟨[],0,0⟩:=by
 have hil:=v3 L
 have hix:∃ r:Int,(L.all L9=true→r= -1)∧(¬ L.all L9=true→0≤r)∧n5 (EN w (n+2)) 56 [tS s L,aT4] (iN r) ⟨[],0,0⟩:=by
  have main:∀ (j:Nat),j≤L.length→(L.take j).all L9=true→(j<L.length→L9 L[j]! =false)→n5 (EN w (n+2)) 56 [tS s L,aT4] (iN (if j<L.length then (j:Int) else -1)) ⟨[],0,0⟩:=by
   intro j hj hall hbad
   refine i9 rfl rfl (fun _ _=>rfl) (Nat.le_of_ble_eq_true rfl) (k9 w) rfl fun C hC h0=>?_
   simp (disch:=first|exact f8|fail) only[WA,a8,b8,Nat.reduceEqDiff,Nat.reduceLT,Nat.reduceAdd,Nat.reduceBEq,Int.reduceAdd,Int.reduceSub,Int.reduceLT,Int.reduceLE,Int.reduceEq,Int.reduceNeg,↓reduceIte,reduceCtorEq,List.replicate,c56]
   refine n9 (fun m fr st=>∃ (k:Nat),m=L.length - k∧k≤j∧fr= [(0,tS s L),(1,aT4),(7,iN L.length),(8,iN k)]∧st=⟨[],0,0⟩) L.length ?_ ⟨_,_,.refl _ _,0,by omega,Nat.zero_le _,rfl,rfl⟩ ?_
   ·rw[hC,j8];unfold x8;omega
   rintro m fr st ⟨k,rfl,hk,rfl,rfl⟩
   by_cases hlt:k<L.length
   case neg=>
    rw[if_neg (by omega)]
    simp (disch:=first|omega|exact f8|fail) only[WA,a8,b8,Nat.reduceEqDiff,Nat.reduceLT,Nat.reduceAdd,Nat.reduceBEq,Int.reduceAdd,Int.reduceSub,Int.reduceLT,Int.reduceLE,Int.reduceEq,Int.reduceNeg,↓reduceIte,reduceCtorEq,List.replicate,tP]
    all_goals try (exfalso;omega)
    exact b9 rfl h0 rfl
   have hag:=Q9 L k hlt
   have h1:=bI0 w n L[k]!
   by_cases hkj:k=j
   ·subst hkj
    rw[hbad hlt] at h1
    rw[if_pos hlt]
    simp (disch:=first|omega|exact f8|fail) only[WA,a8,b8,Nat.reduceEqDiff,Nat.reduceLT,Nat.reduceAdd,Nat.reduceBEq,Int.reduceAdd,Int.reduceSub,Int.reduceLT,Int.reduceLE,Int.reduceEq,Int.reduceNeg,↓reduceIte,reduceCtorEq,List.replicate,tP,hag]
    all_goals try (exfalso;omega)
    refine a9 (by rw[hC];exact h1.flat rfl rfl) ?_
    simp (disch:=first|exact f8|fail) only[WA,a8,b8,Nat.reduceEqDiff,Nat.reduceLT,Nat.reduceAdd,Nat.reduceBEq,Int.reduceAdd,Int.reduceSub,Int.reduceLT,Int.reduceLE,Int.reduceEq,Int.reduceNeg,↓reduceIte,reduceCtorEq,List.replicate]
    exact b9 rfl h0 rfl
   ·have ho:L9 L[k]! =true:=List.all_eq_true.1 hall _ (by
     rw[getElem!_pos _ k hlt]
     exact List.mem_iff_getElem.2 ⟨k,by rw[List.length_take];omega,List.getElem_take⟩)
    rw[ho] at h1
    simp (disch:=first|omega|exact f8|fail) only[WA,a8,b8,Nat.reduceEqDiff,Nat.reduceLT,Nat.reduceAdd,Nat.reduceBEq,Int.reduceAdd,Int.reduceSub,Int.reduceLT,Int.reduceLE,Int.reduceEq,Int.reduceNeg,↓reduceIte,reduceCtorEq,List.replicate,tP,hag]
    all_goals try (exfalso;omega)
    refine a9 (by rw[hC];exact h1.flat rfl rfl) ?_
    simp (disch:=first|omega|exact f8|fail) only[WA,a8,b8,Nat.reduceEqDiff,Nat.reduceLT,Nat.reduceAdd,Nat.reduceBEq,Int.reduceAdd,Int.reduceSub,Int.reduceLT,Int.reduceLE,Int.reduceEq,Int.reduceNeg,↓reduceIte,reduceCtorEq,List.replicate]
    exact ⟨L.length - (k+1),_,_,by omega,.refl _ _,k+1,rfl,by omega,rfl,rfl⟩
  have hex:∀ m,m≤L.length→(L.take m).all L9=true∨∃ j,j<m∧(L.take j).all L9=true∧L9 L[j]! =false:=by
   intro m
   induction m with
   |zero=>intro _;exact .inl rfl
   |succ m ih=>
    intro hm
    rcases ih (by omega) with h|⟨j,h1,h2,h3⟩
    ·cases hc:L9 L[m]! with
     |true=>exact .inl (XB (by omega) h hc)
     |false=>exact .inr ⟨m,by omega,h,hc⟩
    ·exact .inr ⟨j,by omega,h2,h3⟩
  rcases hex L.length (Nat.le_refl _) with h|⟨j,h1,h2,h3⟩
  ·refine ⟨_,fun _=>?_,fun hn=>absurd (by rwa [List.take_length] at h) hn,main L.length (Nat.le_refl _) h fun h=>absurd h (Nat.lt_irrefl _)⟩
   rw[if_neg (Nat.lt_irrefl _)]
  ·refine ⟨_,fun ha=>?_,fun _=>?_,main j (by omega) h2 fun _=>h3⟩
   ·rw[KS h1 h3] at ha;cases ha
   ·rw[if_pos h1];omega
 obtain ⟨r,h1,h2,hr⟩:=hix
 by_cases ha:L.all L9=true
 ·have e:=h1 ha
  subst e
  rw[ha]
  refine i9 rfl rfl (fun _ _=>rfl) (Nat.le_of_ble_eq_true rfl) (k9 w) rfl fun C hC h0=>?_
  simp (disch:=first|exact f8|fail) only[WA,a8,b8,Nat.reduceEqDiff,Nat.reduceLT,Nat.reduceAdd,Nat.reduceBEq,Int.reduceAdd,Int.reduceSub,Int.reduceLT,Int.reduceLE,Int.reduceEq,Int.reduceNeg,↓reduceIte,reduceCtorEq,List.replicate,c46]
  refine a9 (by rw[hC];exact hr.flat rfl rfl) ?_
  simp (disch:=first|exact f8|fail) only[WA,a8,b8,Nat.reduceEqDiff,Nat.reduceLT,Nat.reduceAdd,Nat.reduceBEq,Int.reduceAdd,Int.reduceSub,Int.reduceLT,Int.reduceLE,Int.reduceEq,Int.reduceNeg,↓reduceIte,reduceCtorEq,List.replicate]
  exact b9 rfl h0 rfl
 ·have e:=h2 ha
  rw[Bool.not_eq_true] at ha
  rw[ha]
  refine i9 rfl rfl (fun _ _=>rfl) (Nat.le_of_ble_eq_true rfl) (k9 w) rfl fun C hC h0=>?_
  simp (disch:=first|exact f8|fail) only[WA,a8,b8,Nat.reduceEqDiff,Nat.reduceLT,Nat.reduceAdd,Nat.reduceBEq,Int.reduceAdd,Int.reduceSub,Int.reduceLT,Int.reduceLE,Int.reduceEq,Int.reduceNeg,↓reduceIte,reduceCtorEq,List.replicate,c46]
  refine a9 (by rw[hC];exact hr.flat rfl rfl) ?_
  simp (disch:=first|omega|exact f8|fail) only[WA,a8,b8,Nat.reduceEqDiff,Nat.reduceLT,Nat.reduceAdd,Nat.reduceBEq,Int.reduceAdd,Int.reduceSub,Int.reduceLT,Int.reduceLE,Int.reduceEq,Int.reduceNeg,↓reduceIte,reduceCtorEq,List.replicate]
  all_goals try (exfalso;omega)
  exact b9 rfl h0 rfl
theorem TQ {R:List (Bool × List q8)} {j:Nat} (hj:j<R.length):dD (R.drop j)=(R[j]!.2.all L9 && dD (R.drop (j+1))):=by
 rw[mU hj];rfl
theorem aT5 (s k:Nat) (z:Int) (R:List (Bool × List q8)) (hc:R.length≤140737488351232) (hK:bT R):n5 (EN w (n+4)) 37 [cM s k (z,R)] (.sc (.bool (FO (z,R)))) ⟨[],0,0⟩:=by
 have hil:=E6 k R
 unfold FO
 simp only
 refine i9 rfl rfl (fun _ _=>rfl) (Nat.le_of_ble_eq_true rfl) (k9 w) rfl fun C hC h0=>?_
 have hrn:C.E.rounds=x8:=by rw[hC,j8]
 simp (disch:=first|exact f8|fail) only[WA,a8,b8,Nat.reduceEqDiff,Nat.reduceLT,Nat.reduceAdd,Nat.reduceBEq,Int.reduceAdd,Int.reduceSub,Int.reduceLT,Int.reduceLE,Int.reduceEq,Int.reduceNeg,↓reduceIte,reduceCtorEq,List.replicate,c37]
 refine n9 (fun m fr st=>∃ (j nx:Nat),m=R.length - j∧j≤R.length∧dD R=dD (R.drop j)∧fr= [(1,.ptr 0 0),(6,.sl s R.length (M1 k R)),(7,iN R.length),(8,iN j)]∧st=⟨[(0,.box 31 1 [iN z,.sl s R.length (M1 k R)])],1,0⟩) R.length ?_ ⟨_,_,.refl _ _,0,1,by omega,Nat.zero_le _,rfl,rfl,rfl⟩ ?_
 ·rw[hrn];unfold x8;omega
 rintro m fr st ⟨j,nx,rfl,hj,hinv,rfl,rfl⟩
 by_cases hlt:j<R.length
 case neg=>
  have:j=R.length:=by omega
  subst this
  have hp:dD R=true:=by rw[hinv,List.drop_length];rfl
  rw[hp,Bool.true_and]
  simp (disch:=first|omega|exact f8|fail) only[WA,a8,b8,Nat.reduceEqDiff,Nat.reduceLT,Nat.reduceAdd,Nat.reduceBEq,Int.reduceAdd,Int.reduceSub,Int.reduceLT,Int.reduceLE,Int.reduceEq,Int.reduceNeg,↓reduceIte,reduceCtorEq,List.replicate,RJ]
  all_goals try (exfalso;omega)
  exact b9 rfl h0 rfl
 have hag:=jW k R j hlt
 have hk:=hK.at hlt
 have hp:=KT w n k R[j]!.2 hk.2
 rw[TQ hlt] at hinv
 generalize hr:R[j]! =r at*
 obtain ⟨b,L⟩:=r
 simp only at hp hk hinv
 by_cases q1:L.all L9=true
 case neg=>
  rw[Bool.not_eq_true] at q1
  rw[hinv,q1,Bool.false_and,Bool.false_and]
  rw[q1] at hp
  simp (disch:=first|omega|exact f8|(simp only[d9]<;>omega)) only[WA,a8,b8,Nat.reduceEqDiff,Nat.reduceLT,Nat.reduceAdd,Nat.reduceBEq,Int.reduceAdd,Int.reduceSub,Int.reduceLT,Int.reduceLE,Int.reduceEq,Int.reduceNeg,↓reduceIte,reduceCtorEq,List.replicate,RJ,hag]
  all_goals try (exfalso;omega)
  refine a9 (by rw[hC];exact hp.flat rfl rfl) ?_
  simp (disch:=first|exact f8|fail) only[WA,a8,b8,Nat.reduceEqDiff,Nat.reduceLT,Nat.reduceAdd,Nat.reduceBEq,Int.reduceAdd,Int.reduceSub,Int.reduceLT,Int.reduceLE,Int.reduceEq,Int.reduceNeg,↓reduceIte,reduceCtorEq,List.replicate]
  exact b9 rfl h0 rfl
 rw[q1,Bool.true_and] at hinv
 rw[q1] at hp
 simp (disch:=first|omega|exact f8|(simp only[d9]<;>omega)) only[WA,a8,b8,Nat.reduceEqDiff,Nat.reduceLT,Nat.reduceAdd,Nat.reduceBEq,Int.reduceAdd,Int.reduceSub,Int.reduceLT,Int.reduceLE,Int.reduceEq,Int.reduceNeg,↓reduceIte,reduceCtorEq,List.replicate,RJ,hag]
 all_goals try (exfalso;omega)
 refine a9 (by rw[hC];exact hp.flat rfl rfl) ?_
 simp (disch:=first|omega|exact f8|fail) only[WA,a8,b8,Nat.reduceEqDiff,Nat.reduceLT,Nat.reduceAdd,Nat.reduceBEq,Int.reduceAdd,Int.reduceSub,Int.reduceLT,Int.reduceLE,Int.reduceEq,Int.reduceNeg,↓reduceIte,reduceCtorEq,List.replicate]
 exact ⟨R.length - (j+1),_,_,by omega,o7 [(0,0)] 1 h0 rfl rfl rfl rfl,j+1,1,rfl,by omega,hinv,rfl,rfl⟩
end
theorem aG6 {R:List (Bool × List q8)} {j:Nat} (hj:j<R.length) (h:R[j]!.2.all L9=false):dD R=false:=by
 rw[← Bool.not_eq_true]
 intro ha
 have:=List.all_eq_true.1 ha R[j]! (by rw[getElem!_pos R j hj];exact List.getElem_mem hj)
 rw[h] at this;cases this
theorem aA2 {L:List q8} {k:Nat} (h:k<L.length):L.drop k=L[k]! ::L.drop (k+1):=by rw[List.drop_eq_getElem_cons h,getElem!_pos L k h]
def pP (x:q8):q8:=⟨x.kind,if x.kind=2∨x.kind=9 then x.purl else !x.purl,if x.kind=6∨x.kind=7 then x.b else x.a,if x.kind=6∨x.kind=7 then x.a else x.b⟩
def N1 (L:List q8):List q8:=L.reverse.map pP
def H0 (r:Bool × List q8):List q8:=if r.1=true then N1 r.2 else r.2
section
variable (w:World) (n:Nat)
theorem aJ7 (s k:Nat) (z:Int) (R:List (Bool × List q8)) (hc:R.length≤140737488351232) (hK:bT R):n5 (EN w (n+1)) 41 [cM s k (z,R)] (.sc (.bool (FO (z,R)))) ⟨[],0,0⟩:=by
 have hil:=E6 k R
 unfold FO
 simp only
 refine i9 rfl rfl (fun _ _=>rfl) (Nat.le_of_ble_eq_true rfl) (k9 w) rfl fun C hC h0=>?_
 have hrn:C.E.rounds=x8:=by rw[hC,j8]
 simp (disch:=first|exact f8|fail) only[WA,a8,b8,Nat.reduceEqDiff,Nat.reduceLT,Nat.reduceAdd,Nat.reduceBEq,Int.reduceAdd,Int.reduceSub,Int.reduceLT,Int.reduceLE,Int.reduceEq,Int.reduceNeg,↓reduceIte,reduceCtorEq,List.replicate,c41]
 refine n9 (fun m fr st=>∃ (j:Nat),m=R.length - j∧j≤R.length∧dD R=dD (R.drop j)∧fr= [(1,.ptr 0 0),(3,iN j)]∧st=⟨[(0,.box 31 1 [iN z,.sl s R.length (M1 k R)])],1,0⟩) R.length ?_ ⟨_,_,.refl _ _,0,by omega,Nat.zero_le _,rfl,rfl,rfl⟩ ?_
 ·rw[hrn];unfold x8;omega
 rintro m fr st ⟨j,rfl,hj,hinv,rfl,rfl⟩
 by_cases hlt:j<R.length
 case neg=>
  have:j=R.length:=by omega
  subst this
  have hp:dD R=true:=by rw[hinv,List.drop_length];rfl
  rw[hp,Bool.true_and]
  simp (disch:=first|omega|exact f8|fail) only[WA,a8,b8,Nat.reduceEqDiff,Nat.reduceLT,Nat.reduceAdd,Nat.reduceBEq,Int.reduceAdd,Int.reduceSub,Int.reduceLT,Int.reduceLE,Int.reduceEq,Int.reduceNeg,↓reduceIte,reduceCtorEq,List.replicate,ZA]
  all_goals try (exfalso;omega)
  exact b9 rfl h0 rfl
 have hag:=jX k R j hlt
 have hk:=hK.at hlt
 rw[TQ hlt] at hinv
 have hbad:=@aG6 R j hlt
 generalize hr:R[j]! =r at*
 obtain ⟨b,L⟩:=r
 simp only at hk hinv hag hbad
 have hsl:=v3 L
 simp (disch:=first|omega|exact f8|fail) only[WA,a8,b8,Nat.reduceEqDiff,Nat.reduceLT,Nat.reduceAdd,Nat.reduceBEq,Int.reduceAdd,Int.reduceSub,Int.reduceLT,Int.reduceLE,Int.reduceEq,Int.reduceNeg,↓reduceIte,reduceCtorEq,List.replicate,ZA]
 all_goals try (exfalso;omega)
 refine n9 (fun m fr st=>∃ (i:Nat),m=L.length - i∧i≤L.length∧L.all L9=(L.drop i).all L9∧fr= [(1,.ptr 0 0),(3,iN j),(4,iN i)]∧st=⟨[(0,.box 31 1 [iN z,.sl s R.length (M1 k R)])],1,0⟩) L.length ?_ ⟨_,_,.refl _ _,0,by omega,Nat.zero_le _,rfl,rfl,rfl⟩ ?_
 ·rw[hrn];unfold x8;omega
 rintro m fr st ⟨i,rfl,hi,hiv,rfl,rfl⟩
 by_cases hil2:i<L.length
 case neg=>
  have:i=L.length:=by omega
  subst this
  have hp:L.all L9=true:=by rw[hiv,List.drop_length];rfl
  rw[hp,Bool.true_and] at hinv
  simp (disch:=first|omega|exact f8|fail) only[WA,a8,b8,Nat.reduceEqDiff,Nat.reduceLT,Nat.reduceAdd,Nat.reduceBEq,Int.reduceAdd,Int.reduceSub,Int.reduceLT,Int.reduceLE,Int.reduceEq,Int.reduceNeg,↓reduceIte,reduceCtorEq,List.replicate,HP,hag]
  all_goals try (exfalso;omega)
  exact ⟨R.length - (j+1),_,_,by omega,.refl _ _,j+1,rfl,by omega,hinv,rfl,rfl⟩
 have hat:=wX L i hil2
 rw[aA2 hil2,List.all_cons] at hiv
 have hb2:=@KS L9 L i hil2
 generalize L[i]! =x at*
 obtain ⟨kd,p,a,b⟩:=x
 unfold L9 at hb2 hiv
 simp only at hat hb2 hiv
 by_cases e1:kd=1
 ·subst e1
  simp (disch:=first|omega|exact f8|fail) only[WA,a8,b8,Nat.reduceEqDiff,Nat.reduceLT,Nat.reduceAdd,Nat.reduceBEq,Int.reduceAdd,Int.reduceSub,Int.reduceLT,Int.reduceLE,Int.reduceEq,Int.reduceNeg,↓reduceIte,reduceCtorEq,List.replicate,HP,hag,hat]
  all_goals try (exfalso;omega)
  exact ⟨L.length - (i+1),_,_,by omega,.refl _ _,i+1,rfl,by omega,hiv,rfl,rfl⟩
 have f1:((kd:Nat):Int) ≠ 1:=by omega
 by_cases e2:kd=8
 ·subst e2
  simp (disch:=first|omega|exact f8|fail) only[WA,a8,b8,Nat.reduceEqDiff,Nat.reduceLT,Nat.reduceAdd,Nat.reduceBEq,Int.reduceAdd,Int.reduceSub,Int.reduceLT,Int.reduceLE,Int.reduceEq,Int.reduceNeg,↓reduceIte,reduceCtorEq,List.replicate,HP,hag,hat]
  all_goals try (exfalso;omega)
  exact ⟨L.length - (i+1),_,_,by omega,.refl _ _,i+1,rfl,by omega,hiv,rfl,rfl⟩
 have f2:((kd:Nat):Int) ≠ 8:=by omega
 have hpf:dD R=false:=hbad (hb2 (decide_eq_false (fun h=>h.elim e1 e2)))
 rw[hpf,Bool.false_and]
 simp (disch:=first|omega|exact f8|fail) only[WA,a8,b8,Nat.reduceEqDiff,Nat.reduceLT,Nat.reduceAdd,Nat.reduceBEq,Int.reduceAdd,Int.reduceSub,Int.reduceLT,Int.reduceLE,Int.reduceEq,Int.reduceNeg,↓reduceIte,reduceCtorEq,List.replicate,HP,hag,hat]
 all_goals try (exfalso;omega)
 exact b9 rfl h0 rfl
theorem aS1 (x:q8) (hx:x.kind<256):n5 (EN w (n+1)) 62 [qC x] (qC (pP x)) ⟨[],0,0⟩:=by
 obtain ⟨k,p,a,b⟩:=x
 simp only at hx
 refine i9 rfl rfl (fun _ _=>rfl) (Nat.le_of_ble_eq_true rfl) (k9 w) rfl fun C hC h0=>?_
 unfold pP
 simp only
 by_cases e1:k=2
 ·subst e1
  simp (disch:=first|omega|exact f8|(simp only[d9]<;>omega)) only[WA,a8,b8,Nat.reduceEqDiff,Nat.reduceLT,Nat.reduceAdd,Nat.reduceBEq,Int.reduceAdd,Int.reduceSub,Int.reduceLT,Int.reduceLE,Int.reduceEq,Int.reduceNeg,↓reduceIte,reduceCtorEq,List.replicate,c62]
  exact b9 rfl h0 rfl
 have f1:((k:Nat):Int) ≠ 2:=by omega
 by_cases e2:k=9
 ·subst e2
  simp (disch:=first|omega|exact f8|(simp only[d9]<;>omega)) only[WA,a8,b8,Nat.reduceEqDiff,Nat.reduceLT,Nat.reduceAdd,Nat.reduceBEq,Int.reduceAdd,Int.reduceSub,Int.reduceLT,Int.reduceLE,Int.reduceEq,Int.reduceNeg,↓reduceIte,reduceCtorEq,List.replicate,c62]
  exact b9 rfl h0 rfl
 have f2:((k:Nat):Int) ≠ 9:=by omega
 rw[if_neg (fun h=>h.elim e1 e2)]
 by_cases e3:k=6
 ·subst e3
  simp (disch:=first|omega|exact f8|(simp only[d9]<;>omega)) only[WA,a8,b8,Nat.reduceEqDiff,Nat.reduceLT,Nat.reduceAdd,Nat.reduceBEq,Int.reduceAdd,Int.reduceSub,Int.reduceLT,Int.reduceLE,Int.reduceEq,Int.reduceNeg,↓reduceIte,reduceCtorEq,List.replicate,c62]
  exact b9 rfl h0 rfl
 have f3:((k:Nat):Int) ≠ 6:=by omega
 by_cases e4:k=7
 ·subst e4
  simp (disch:=first|omega|exact f8|(simp only[d9]<;>omega)) only[WA,a8,b8,Nat.reduceEqDiff,Nat.reduceLT,Nat.reduceAdd,Nat.reduceBEq,Int.reduceAdd,Int.reduceSub,Int.reduceLT,Int.reduceLE,Int.reduceEq,Int.reduceNeg,↓reduceIte,reduceCtorEq,List.replicate,c62]
  exact b9 rfl h0 rfl
 have f4:((k:Nat):Int) ≠ 7:=by omega
 rw[if_neg (fun h=>h.elim e3 e4),if_neg (fun h=>h.elim e3 e4)]
 simp (disch:=first|omega|exact f8|(simp only[d9]<;>omega)) only[WA,a8,b8,Nat.reduceEqDiff,Nat.reduceLT,Nat.reduceAdd,Nat.reduceBEq,Int.reduceAdd,Int.reduceSub,Int.reduceLT,Int.reduceLE,Int.reduceEq,Int.reduceNeg,↓reduceIte,reduceCtorEq,List.replicate,c62]
 all_goals try (exfalso;omega)
 all_goals exact b9 rfl h0 rfl
end
end Go.Proofs.Ytgohenjcanfolaa
