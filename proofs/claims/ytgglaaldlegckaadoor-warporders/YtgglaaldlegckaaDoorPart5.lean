/- What is proved: the law WarpOrders returns true for every input. Conditions: none beyond the card's own.
   Texts: C22A, R22A, S22D, H22A, D22a, O22a, O22b, O22c, O22d, O22e, O22f, O22g, O22h, O22i, O22j, O22k.
-/
import Derived.Test.YtgglaaldlegckaaDoorPart4
import Derived.Test.YtgglaaldlegckaaDoorProg
import Derived.KernelRfl
import Derived.Shelf.Strconv.Atoi
import Derived.Shelf.Strconv.Itoa0
import Derived.Shelf.Strconv.Itoa1
import Derived.Shelf.LaysM
import Derived.Shelf.Strconv.Itoa2
import Derived.Shelf.Strconv.Itoa3
import Derived.Shelf.Strconv.AtoiErrFast
import Derived.Shelf.Strconv.ParseIntEmpty
import Derived.Shelf.Strconv.AtoiFail
import Derived.Shelf.Strconv.Clone
import Derived.Shelf.Strconv.SyntaxError
import Derived.Shelf.LaysC
import Derived.Shelf.Strconv.ToError
import Derived.Shelf.Strconv.Lower
import Derived.Shelf.Strconv.ParseUint10
import Derived.Shelf.Strconv.ParseUint10Empty
import Derived.Shelf.Strconv.ParseUint10Any
import Derived.Shelf.Strconv.ParseInt10
import Derived.Shelf.Strconv.AtoiLong
import Derived.Shelf.Strconv.AtoiInnerAll
import Derived.Shelf.Strconv.RangeError
import Derived.Shelf.Strconv.ToErrorRange
import Derived.Shelf.Strconv.AtoiAll
import Derived.Shelf.Strconv.ErrVarAll
import Derived.Shelf.Strings.Search1
import Derived.Shelf.Strings.Search2
import Derived.Shelf.Strings.Search3
import Derived.Shelf.Strings.Cut
import Derived.Shelf.Strings.Shaped
import Derived.Shelf.Bits.Mul64
import Derived.Shelf.Unicode.DecodeSlow
import Derived.Lib.ItoaLen
/- The seat's functions as the interpreter runs them: written by a program out of the loaded form, and shown equal to it below. -/
namespace Go.Proofs.YtgglaaldlegckaaDoor
open Go Go.Itp
set_option maxRecDepth 100000
/- raddle/raddlelaw22.WarpOrders -/
def c3:AFun:=⟨
 .seq (.ops [⟨(some 4),none,.mov (.const (.bool false))⟩] [0,1])
 (.seq (.seq (.ops [⟨(some 24),none,.mov (.tmp 0)⟩,
   ⟨(some 25),none,.callF 9 [(.tmp 24)]⟩,
   ⟨(some 26),none,.mov (.tmp 25)⟩,
   ⟨(some 27),(some (26,false)),.mov (.tmp 1)⟩,
   ⟨(some 28),(some (26,false)),.callF 9 [(.tmp 27)]⟩,
   ⟨(some 29),none,.pick (.tmp 26) (.const (.bool true)) (.tmp 28)⟩] [0,1,29])
 (.cond (.tmp 29)
  (.seq (.ops [⟨(some 4),none,.mov (.const (.bool true))⟩] [4])
  (.ret))
  (.skip)))
 (.seq (.ops [⟨(some 30),none,.mkRow 3 1 0 [(.int .i64 0)] []⟩,
   ⟨(some 31),none,.mov (.tmp 0)⟩,
   ⟨(some 32),none,.app 3 1 8 (.tmp 30) (.tmp 31)⟩,
   ⟨(some 5),none,.mov (.tmp 32)⟩] [0,1,5])
 (.seq (.ops [⟨(some 34),none,.mov (.tmp 5)⟩,
   ⟨(some 35),none,.callF 10 [(.tmp 34)]⟩,
   ⟨(some 33),none,.mov (.tmp 35)⟩,
   ⟨(some 36),none,.ext (.tmp 33) 0⟩,
   ⟨(some 37),none,.ext (.tmp 33) 1⟩,
   ⟨(some 6),none,.mov (.tmp 36)⟩,
   ⟨(some 7),none,.mov (.tmp 37)⟩] [0,1,5,6,7])
 (.seq (.ops [⟨(some 39),none,.mov (.tmp 0)⟩,
   ⟨(some 40),none,.callF 11 [(.tmp 39)]⟩,
   ⟨(some 38),none,.mov (.tmp 40)⟩,
   ⟨(some 41),none,.ext (.tmp 38) 0⟩,
   ⟨(some 42),none,.ext (.tmp 38) 1⟩,
   ⟨(some 8),none,.mov (.tmp 41)⟩,
   ⟨(some 9),none,.mov (.tmp 42)⟩] [0,1,5,6,7,8,9])
 (.seq (.ops [⟨(some 44),none,.mov (.tmp 5)⟩,
   ⟨(some 45),none,.callF 12 [(.tmp 44)]⟩,
   ⟨(some 43),none,.mov (.tmp 45)⟩,
   ⟨(some 46),none,.ext (.tmp 43) 0⟩,
   ⟨(some 47),none,.ext (.tmp 43) 1⟩,
   ⟨(some 10),none,.mov (.tmp 46)⟩,
   ⟨(some 11),none,.mov (.tmp 47)⟩] [0,1,5,6,7,8,9,10,11])
 (.seq (.ops [⟨(some 49),none,.mov (.tmp 0)⟩,
   ⟨(some 50),none,.callF 13 [(.tmp 49)]⟩,
   ⟨(some 48),none,.mov (.tmp 50)⟩,
   ⟨(some 51),none,.ext (.tmp 48) 0⟩,
   ⟨(some 52),none,.ext (.tmp 48) 1⟩,
   ⟨(some 12),none,.mov (.tmp 51)⟩,
   ⟨(some 13),none,.mov (.tmp 52)⟩] [0,1,5,6,7,8,9,10,11,12,13])
 (.seq (.seq (.ops [⟨(some 53),none,.mov (.tmp 5)⟩,
   ⟨(some 54),none,.callF 14 [(.tmp 53)]⟩,
   ⟨(some 55),none,.mov (.tmp 0)⟩,
   ⟨(some 56),none,.callF 15 [(.tmp 55)]⟩,
   ⟨(some 57),none,.bin .neq (.tmp 54) (.tmp 56)⟩,
   ⟨(some 58),none,.mov (.tmp 57)⟩,
   ⟨(some 59),(some (58,false)),.mov (.tmp 6)⟩,
   ⟨(some 60),(some (58,false)),.mov (.tmp 8)⟩,
   ⟨(some 61),(some (58,false)),.callF 16 [(.tmp 59),(.tmp 60)]⟩,
   ⟨(some 62),(some (58,false)),.un .not (.tmp 61)⟩,
   ⟨(some 63),none,.pick (.tmp 58) (.const (.bool true)) (.tmp 62)⟩,
   ⟨(some 64),none,.mov (.tmp 63)⟩,
   ⟨(some 65),(some (64,false)),.mov (.tmp 7)⟩,
   ⟨(some 66),(some (64,false)),.mov (.tmp 9)⟩,
   ⟨(some 67),(some (64,false)),.bin .neq (.tmp 65) (.tmp 66)⟩,
   ⟨(some 68),none,.pick (.tmp 64) (.const (.bool true)) (.tmp 67)⟩,
   ⟨(some 69),none,.mov (.tmp 68)⟩,
   ⟨(some 70),(some (69,false)),.mov (.tmp 10)⟩,
   ⟨(some 71),(some (69,false)),.mov (.tmp 12)⟩,
   ⟨(some 72),(some (69,false)),.bin .neq (.tmp 70) (.tmp 71)⟩,
   ⟨(some 73),none,.pick (.tmp 69) (.const (.bool true)) (.tmp 72)⟩,
   ⟨(some 74),none,.mov (.tmp 73)⟩,
   ⟨(some 75),(some (74,false)),.mov (.tmp 11)⟩,
   ⟨(some 76),(some (74,false)),.mov (.tmp 13)⟩,
   ⟨(some 77),(some (74,false)),.bin .neq (.tmp 75) (.tmp 76)⟩,
   ⟨(some 78),none,.pick (.tmp 74) (.const (.bool true)) (.tmp 77)⟩] [0,1,5,78])
 (.cond (.tmp 78)
  (.seq (.ops [⟨(some 4),none,.mov (.const (.bool false))⟩] [4])
  (.ret))
  (.skip)))
 (.seq (.ops [⟨(some 80),none,.mov (.tmp 5)⟩,
   ⟨(some 81),none,.callF 17 [(.tmp 80)]⟩,
   ⟨(some 79),none,.mov (.tmp 81)⟩,
   ⟨(some 82),none,.ext (.tmp 79) 0⟩,
   ⟨(some 83),none,.ext (.tmp 79) 1⟩,
   ⟨(some 84),none,.ext (.tmp 79) 2⟩,
   ⟨(some 14),none,.mov (.tmp 82)⟩,
   ⟨(some 15),none,.mov (.tmp 83)⟩,
   ⟨(some 16),none,.mov (.tmp 84)⟩] [0,1,5,14,15,16])
 (.seq (.ops [⟨(some 86),none,.mov (.tmp 0)⟩,
   ⟨(some 87),none,.callF 18 [(.tmp 86)]⟩,
   ⟨(some 85),none,.mov (.tmp 87)⟩,
   ⟨(some 88),none,.ext (.tmp 85) 0⟩,
   ⟨(some 89),none,.ext (.tmp 85) 1⟩,
   ⟨(some 90),none,.ext (.tmp 85) 2⟩,
   ⟨(some 17),none,.mov (.tmp 88)⟩,
   ⟨(some 18),none,.mov (.tmp 89)⟩,
   ⟨(some 19),none,.mov (.tmp 90)⟩] [0,1,5,14,15,16,17,18,19])
 (.seq (.ops [⟨(some 92),none,.mov (.tmp 5)⟩,
   ⟨(some 93),none,.mov (.tmp 1)⟩,
   ⟨(some 94),none,.callF 19 [(.tmp 92),(.tmp 93)]⟩,
   ⟨(some 91),none,.mov (.tmp 94)⟩,
   ⟨(some 95),none,.ext (.tmp 91) 0⟩,
   ⟨(some 96),none,.ext (.tmp 91) 1⟩,
   ⟨(some 20),none,.mov (.tmp 95)⟩,
   ⟨(some 21),none,.mov (.tmp 96)⟩] [0,1,5,14,15,16,17,18,19,20,21])
 (.seq (.ops [⟨(some 98),none,.mov (.tmp 0)⟩,
   ⟨(some 99),none,.mov (.tmp 1)⟩,
   ⟨(some 100),none,.callF 20 [(.tmp 98),(.tmp 99)]⟩,
   ⟨(some 97),none,.mov (.tmp 100)⟩,
   ⟨(some 101),none,.ext (.tmp 97) 0⟩,
   ⟨(some 102),none,.ext (.tmp 97) 1⟩,
   ⟨(some 22),none,.mov (.tmp 101)⟩,
   ⟨(some 23),none,.mov (.tmp 102)⟩] [0,5,14,15,16,17,18,19,20,21,22,23])
 (.seq (.ops [⟨(some 103),none,.mov (.tmp 14)⟩,
   ⟨(some 104),none,.mov (.tmp 17)⟩,
   ⟨(some 105),none,.callF 21 [(.tmp 103),(.tmp 104)]⟩,
   ⟨(some 106),none,.mov (.tmp 105)⟩,
   ⟨(some 107),(some (106,true)),.mov (.tmp 15)⟩,
   ⟨(some 108),(some (106,true)),.mov (.tmp 18)⟩,
   ⟨(some 109),(some (106,true)),.callF 21 [(.tmp 107),(.tmp 108)]⟩,
   ⟨(some 110),none,.pick (.tmp 106) (.tmp 109) (.const (.bool false))⟩,
   ⟨(some 111),none,.mov (.tmp 110)⟩,
   ⟨(some 112),(some (111,true)),.mov (.tmp 16)⟩,
   ⟨(some 113),(some (111,true)),.mov (.tmp 19)⟩,
   ⟨(some 114),(some (111,true)),.bin .eql (.tmp 112) (.tmp 113)⟩,
   ⟨(some 115),none,.pick (.tmp 111) (.tmp 114) (.const (.bool false))⟩,
   ⟨(some 116),none,.mov (.tmp 115)⟩,
   ⟨(some 117),(some (116,true)),.mov (.tmp 20)⟩,
   ⟨(some 118),(some (116,true)),.mov (.tmp 22)⟩,
   ⟨(some 119),(some (116,true)),.callF 21 [(.tmp 117),(.tmp 118)]⟩,
   ⟨(some 120),none,.pick (.tmp 116) (.tmp 119) (.const (.bool false))⟩,
   ⟨(some 121),none,.mov (.tmp 120)⟩,
   ⟨(some 122),(some (121,true)),.mov (.tmp 21)⟩,
   ⟨(some 123),(some (121,true)),.mov (.tmp 23)⟩,
   ⟨(some 124),(some (121,true)),.bin .eql (.tmp 122) (.tmp 123)⟩,
   ⟨(some 125),none,.pick (.tmp 121) (.tmp 124) (.const (.bool false))⟩,
   ⟨(some 126),none,.mov (.tmp 125)⟩,
   ⟨(some 127),(some (126,true)),.mov (.tmp 5)⟩,
   ⟨(some 128),(some (126,true)),.mov (.tmp 0)⟩,
   ⟨(some 129),(some (126,true)),.callF 21 [(.tmp 127),(.tmp 128)]⟩,
   ⟨(some 130),none,.pick (.tmp 126) (.tmp 129) (.const (.bool false))⟩,
   ⟨(some 4),none,.mov (.tmp 130)⟩] [4])
 (.ret))))))))))))),
 131,[(4,none)],true⟩
theorem ok3:FunOK Tryd.prog 3 c3:=⟨⟨Tryd.f3,_,c3.code,Tryd.func3,rfl,by kernel_rfl,rfl,by kernel_rfl,by kernel_rfl⟩⟩
/- raddle/raddleref22.Great -/
def c9:AFun:=⟨
 .seq (.ops [⟨(some 2),none,.mov (.const (.bool false))⟩] [0])
 (.seq (.ops [⟨(some 3),none,.mov (.tmp 0)⟩,
   ⟨(some 4),none,.len false (.tmp 3)⟩,
   ⟨(some 5),none,.bin .gtr (.tmp 4) (.const (.int .i64 60))⟩,
   ⟨(some 6),none,.mov (.tmp 5)⟩,
   ⟨(some 7),(some (6,true)),.mov (.tmp 0)⟩,
   ⟨(some 8),(some (6,true)),.len false (.tmp 7)⟩,
   ⟨(some 9),(some (6,true)),.bin .leq (.tmp 8) (.const (.int .i64 4000))⟩,
   ⟨(some 10),none,.pick (.tmp 6) (.tmp 9) (.const (.bool false))⟩,
   ⟨(some 11),none,.mov (.tmp 10)⟩,
   ⟨(some 12),(some (11,false)),.mov (.tmp 0)⟩,
   ⟨(some 13),(some (11,false)),.len false (.tmp 12)⟩,
   ⟨(some 14),(some (11,false)),.bin .gtr (.tmp 13) (.const (.int .i64 4100))⟩,
   ⟨(some 15),none,.pick (.tmp 11) (.const (.bool true)) (.tmp 14)⟩,
   ⟨(some 2),none,.mov (.tmp 15)⟩] [2])
 (.ret)),
 16,[(2,none)],true⟩
theorem ok9:FunOK Tryd.prog 9 c9:=⟨⟨Tryd.f9,_,c9.code,Tryd.func9,rfl,by kernel_rfl,rfl,by kernel_rfl,by kernel_rfl⟩⟩
/- raddle/warp.Runs -/
def c10:AFun:=⟨
 .seq (.ops [⟨(some 2),none,.mov (.const (.slice none 0 0))⟩,
   ⟨(some 3),none,.mov (.const (.int .i64 0))⟩] [0])
 (.seq (.seq (.ops [⟨(some 5),none,.mov (.tmp 0)⟩,
   ⟨(some 6),none,.callF 14 [(.tmp 5)]⟩,
   ⟨(some 4),none,.mov (.tmp 6)⟩] [0,4])
 (.seq (.ops [⟨(some 7),none,.mov (.tmp 4)⟩,
   ⟨(some 8),none,.bin .neq (.tmp 7) (.const (.int .i64 0))⟩] [0,4,8])
 (.cond (.tmp 8)
  (.seq (.ops [⟨(some 9),none,.mov (.tmp 4)⟩,
    ⟨(some 2),none,.mov (.const (.slice none 0 0))⟩,
    ⟨(some 3),none,.mov (.tmp 9)⟩] [2,3])
  (.ret))
  (.skip))))
 (.seq (.ops [⟨(some 10),none,.mov (.tmp 0)⟩,
   ⟨(some 11),none,.callF 33 [(.tmp 10)]⟩,
   ⟨(some 12),none,.callF 32 [(.tmp 11)]⟩,
   ⟨(some 2),none,.mov (.tmp 12)⟩,
   ⟨(some 3),none,.mov (.const (.int .i64 0))⟩] [2,3])
 (.ret))),
 13,[(2,none),(3,none)],true⟩
theorem ok10:FunOK Tryd.prog 10 c10:=⟨⟨Tryd.f10,_,c10.code,Tryd.func10,rfl,by kernel_rfl,rfl,by kernel_rfl,by kernel_rfl⟩⟩
/- raddle/raddleref22.Runs -/
def c11l0:AC:=
 .seq (.seq (.ops [⟨(some 11),none,.mov (.tmp 5)⟩,
     ⟨(some 12),none,.mov (.tmp 0)⟩,
     ⟨(some 13),none,.len false (.tmp 12)⟩,
     ⟨(some 14),none,.bin .lss (.tmp 11) (.tmp 13)⟩] [0,4,5,14])
   (.cond (.tmp 14)
    (.skip)
    (.exit 0)))
   (.seq (.block 1
    (.seq (.draw [⟨(some 17),none,.mov (.tmp 5)⟩,
      ⟨(some 18),none,.bin .gtr (.tmp 17) (.const (.int .i64 0))⟩,
      ⟨(some 19),none,.mov (.tmp 18)⟩,
      ⟨(some 20),(some (19,true)),.mov (.tmp 0)⟩,
      ⟨(some 21),(some (19,true)),.mov (.tmp 5)⟩,
      ⟨(some 22),(some (19,true)),.idxS 1 (.tmp 20) (.tmp 21)⟩,
      ⟨(some 23),(some (19,true)),.load none (.tmp 22)⟩,
      ⟨(some 24),(some (19,true)),.mov (.tmp 0)⟩,
      ⟨(some 25),(some (19,true)),.mov (.tmp 5)⟩,
      ⟨(some 26),(some (19,true)),.bin .sub (.tmp 25) (.const (.int .i64 1))⟩,
      ⟨(some 27),(some (19,true)),.idxS 1 (.tmp 24) (.tmp 26)⟩,
      ⟨(some 28),(some (19,true)),.load none (.tmp 27)⟩] [⟨(some 29),(some (19,true)),.bin .eql (.tmp 23) (.tmp 28)⟩,
      ⟨(some 30),none,.pick (.tmp 19) (.tmp 29) (.const (.bool false))⟩] [[],[],[],[],[],[],[],[],[],[],[],[]] [0,4,5,30])
    (.cond (.tmp 30)
     (.ops [⟨(some 31),none,.mov (.tmp 4)⟩,
       ⟨(some 32),none,.mov (.tmp 4)⟩,
       ⟨(some 33),none,.len false (.tmp 32)⟩,
       ⟨(some 34),none,.bin .sub (.tmp 33) (.const (.int .i64 1))⟩,
       ⟨(some 35),none,.idxS 2 (.tmp 31) (.tmp 34)⟩,
       ⟨(some 36),none,.fldA 0 (.tmp 35)⟩,
       ⟨(some 37),none,.load none (.tmp 36)⟩,
       ⟨(some 38),none,.bin .add (.tmp 37) (.const (.int .i64 1))⟩,
       ⟨(some 39),none,.idxS 2 (.tmp 31) (.tmp 34)⟩,
       ⟨(some 40),none,.fldA 0 (.tmp 39)⟩,
       ⟨none,none,.store 1 (.tmp 40) (.tmp 38)⟩] [0,4,5])
     (.ops [⟨(some 41),none,.mov (.tmp 4)⟩,
       ⟨(some 42),none,.mov (.tmp 0)⟩,
       ⟨(some 43),none,.mov (.tmp 5)⟩,
       ⟨(some 44),none,.idxS 1 (.tmp 42) (.tmp 43)⟩,
       ⟨(some 45),none,.load none (.tmp 44)⟩,
       ⟨(some 46),none,.build [(.int .i64 0),(.int .i64 0)] [(0,1,(.const (.int .i64 1))),(1,1,(.tmp 45))]⟩,
       ⟨(some 47),none,.mkRow 58 2 1 [(.int .i64 0),(.int .i64 0)] [(0,2,(.tmp 46))]⟩,
       ⟨(some 48),none,.app 58 2 16 (.tmp 41) (.tmp 47)⟩,
       ⟨(some 4),none,.mov (.tmp 48)⟩] [0,4,5]))))
   (.ops [⟨(some 15),none,.mov (.tmp 5)⟩,
     ⟨(some 16),none,.bin .add (.tmp 15) (.const (.int .i64 1))⟩,
     ⟨(some 5),none,.mov (.tmp 16)⟩] [0,4,5]))
def c11:AFun:=⟨
 .seq (.ops [⟨(some 2),none,.mov (.const (.slice none 0 0))⟩,
   ⟨(some 3),none,.mov (.const (.int .i64 0))⟩] [0])
 (.seq (.seq (.ops [⟨(some 6),none,.mov (.tmp 0)⟩,
   ⟨(some 7),none,.callF 15 [(.tmp 6)]⟩,
   ⟨(some 8),none,.bin .neq (.tmp 7) (.const (.int .i64 0))⟩] [0,8])
 (.cond (.tmp 8)
  (.seq (.ops [⟨(some 9),none,.mov (.tmp 0)⟩,
    ⟨(some 10),none,.callF 15 [(.tmp 9)]⟩,
    ⟨(some 2),none,.mov (.const (.slice none 0 0))⟩,
    ⟨(some 3),none,.mov (.tmp 10)⟩] [2,3])
  (.ret))
  (.skip)))
 (.seq (.ops [⟨(some 4),none,.mov (.const (.slice none 0 0))⟩] [0,4])
 (.seq (.seq (.ops [⟨(some 5),none,.mov (.const (.int .i64 0))⟩] [0,4,5])
 (.block 0
  (.loop [0,4,5]
   c11l0)))
 (.seq (.ops [⟨(some 49),none,.mov (.tmp 4)⟩,
   ⟨(some 2),none,.mov (.tmp 49)⟩,
   ⟨(some 3),none,.mov (.const (.int .i64 0))⟩] [2,3])
 (.ret))))),
 50,[(2,none),(3,none)],true⟩
theorem ok11:FunOK Tryd.prog 11 c11:=⟨⟨Tryd.f11,_,c11.code,Tryd.func11,rfl,by kernel_rfl,rfl,by kernel_rfl,by kernel_rfl⟩⟩
/- raddle/warp.Text -/
def c12:AFun:=⟨
 .seq (.ops [⟨(some 2),none,.mov (.const (.string ⟨#[]⟩))⟩,
   ⟨(some 3),none,.mov (.const (.int .i64 0))⟩] [0,2,3])
 (.seq (.seq (.ops [⟨(some 8),none,.mov (.tmp 0)⟩,
   ⟨(some 9),none,.callF 14 [(.tmp 8)]⟩,
   ⟨(some 4),none,.mov (.tmp 9)⟩] [0,2,3,4])
 (.seq (.ops [⟨(some 10),none,.mov (.tmp 4)⟩,
   ⟨(some 11),none,.bin .neq (.tmp 10) (.const (.int .i64 0))⟩] [0,2,3,4,11])
 (.cond (.tmp 11)
  (.seq (.ops [⟨(some 12),none,.mov (.tmp 4)⟩,
    ⟨(some 2),none,.mov (.const (.string ⟨#[]⟩))⟩,
    ⟨(some 3),none,.mov (.tmp 12)⟩] [2,3])
  (.ret))
  (.skip))))
 (.seq (.ops [⟨(some 5),none,.alloc 66 [(1,(.pointer none)),(1,(.slice none 0 0))]⟩] [0,2,3,5])
 (.seq (.ops [⟨(some 13),none,.mkFn 34 [(.tmp 5)] []⟩,
   ⟨(some 6),none,.alloc 67 [(1,.nilFunc)]⟩,
   ⟨none,none,.store 1 (.tmp 6) (.tmp 13)⟩] [0,2,3,5,6])
 (.seq (.seq (.ops [⟨(some 14),none,.mov (.tmp 0)⟩,
   ⟨(some 15),none,.callF 33 [(.tmp 14)]⟩] [2,3,5,6,15])
 (.block 0
  (.rangeF (.tmp 15) [16] [2,3,5,6]
   (.ops [⟨(some 7),none,.alloc 58 [(2,(.int .i64 0))]⟩,
     ⟨none,none,.store 2 (.tmp 7) (.tmp 16)⟩] [5,6,7])
   (.block 1
    (.seq (.seq (.ops [⟨(some 17),none,.callF 35 [(.tmp 5)]⟩,
      ⟨(some 18),none,.bin .gtr (.tmp 17) (.const (.int .i64 0))⟩] [6,7,18])
    (.cond (.tmp 18)
     (.ops [⟨(some 19),none,.load none (.tmp 6)⟩,
       ⟨(some 20),none,.callV (.tmp 19) [(.const (.string ⟨#[32]⟩))]⟩] [6,7])
     (.skip)))
    (.draw [⟨(some 21),none,.load none (.tmp 6)⟩,
      ⟨(some 22),none,.fldA 0 (.tmp 7)⟩,
      ⟨(some 23),none,.load none (.tmp 22)⟩,
      ⟨(some 24),none,.callF 36 [(.tmp 23)]⟩,
      ⟨(some 25),none,.bin .add (.tmp 24) (.const (.string ⟨#[120]⟩))⟩,
      ⟨(some 26),none,.fldA 1 (.tmp 7)⟩,
      ⟨(some 27),none,.load none (.tmp 26)⟩,
      ⟨(some 28),none,.callF 36 [(.tmp 27)]⟩,
      ⟨(some 29),none,.bin .add (.tmp 25) (.tmp 28)⟩] [⟨(some 30),none,.callV (.tmp 21) [(.tmp 29)]⟩] [[],[],[],[],[],[false,false,false,false,false],[true,false,false,false,false,false],[],[]] []))))))
 (.seq (.ops [⟨(some 31),none,.callF 37 [(.tmp 5)]⟩,
   ⟨(some 2),none,.mov (.tmp 31)⟩,
   ⟨(some 3),none,.mov (.const (.int .i64 0))⟩] [2,3])
 (.ret)))))),
 32,[(2,none),(3,none)],true⟩
theorem ok12:FunOK Tryd.prog 12 c12:=⟨⟨Tryd.f12,_,c12.code,Tryd.func12,rfl,by kernel_rfl,rfl,by kernel_rfl,by kernel_rfl⟩⟩
/- raddle/raddleref22.Text -/
def c13l0:AC:=
 .seq (.seq (.ops [⟨(some 16),none,.mov (.tmp 7)⟩,
     ⟨(some 17),none,.mov (.tmp 4)⟩,
     ⟨(some 18),none,.len false (.tmp 17)⟩,
     ⟨(some 19),none,.bin .lss (.tmp 16) (.tmp 18)⟩] [4,6,7,19])
   (.cond (.tmp 19)
    (.skip)
    (.exit 0)))
   (.seq (.block 1
    (.seq (.seq (.ops [⟨(some 22),none,.mov (.tmp 7)⟩,
      ⟨(some 23),none,.bin .gtr (.tmp 22) (.const (.int .i64 0))⟩] [4,6,7,23])
    (.cond (.tmp 23)
     (.ops [⟨(some 24),none,.mov (.tmp 6)⟩,
       ⟨(some 25),none,.bin .add (.tmp 24) (.const (.string ⟨#[32]⟩))⟩,
       ⟨(some 6),none,.mov (.tmp 25)⟩] [4,6,7])
     (.skip)))
    (.draw [⟨(some 26),none,.mov (.tmp 6)⟩,
      ⟨(some 27),none,.mov (.tmp 4)⟩,
      ⟨(some 28),none,.mov (.tmp 7)⟩,
      ⟨(some 29),none,.idxS 2 (.tmp 27) (.tmp 28)⟩,
      ⟨(some 30),none,.fldA 0 (.tmp 29)⟩,
      ⟨(some 31),none,.load none (.tmp 30)⟩,
      ⟨(some 32),none,.callF 38 [(.tmp 31)]⟩,
      ⟨(some 33),none,.bin .add (.tmp 26) (.tmp 32)⟩,
      ⟨(some 34),none,.bin .add (.tmp 33) (.const (.string ⟨#[120]⟩))⟩,
      ⟨(some 35),none,.mov (.tmp 4)⟩,
      ⟨(some 36),none,.mov (.tmp 7)⟩,
      ⟨(some 37),none,.idxS 2 (.tmp 35) (.tmp 36)⟩,
      ⟨(some 38),none,.fldA 1 (.tmp 37)⟩,
      ⟨(some 39),none,.load none (.tmp 38)⟩,
      ⟨(some 40),none,.callF 38 [(.tmp 39)]⟩] [⟨(some 41),none,.bin .add (.tmp 34) (.tmp 40)⟩,
      ⟨(some 6),none,.mov (.tmp 41)⟩] [[],[],[],[],[],[],[],[],[],[false,false,false,false,false,false,false,false,false],[false,false,false,false,false,false,false,false,false,false],[true,true,false,false,false,false,false,false,false,false,false],[true,true,true,false,false,false,false,false,false,false,false,false],[true,true,true,true,false,false,false,false,false,false,false,false,false],[]] [4,6,7])))
   (.ops [⟨(some 20),none,.mov (.tmp 7)⟩,
     ⟨(some 21),none,.bin .add (.tmp 20) (.const (.int .i64 1))⟩,
     ⟨(some 7),none,.mov (.tmp 21)⟩] [4,6,7]))
def c13:AFun:=⟨
 .seq (.ops [⟨(some 2),none,.mov (.const (.string ⟨#[]⟩))⟩,
   ⟨(some 3),none,.mov (.const (.int .i64 0))⟩] [0])
 (.seq (.ops [⟨(some 9),none,.mov (.tmp 0)⟩,
   ⟨(some 10),none,.callF 11 [(.tmp 9)]⟩,
   ⟨(some 8),none,.mov (.tmp 10)⟩,
   ⟨(some 11),none,.ext (.tmp 8) 0⟩,
   ⟨(some 12),none,.ext (.tmp 8) 1⟩,
   ⟨(some 4),none,.mov (.tmp 11)⟩,
   ⟨(some 5),none,.mov (.tmp 12)⟩] [4,5])
 (.seq (.seq (.ops [⟨(some 13),none,.mov (.tmp 5)⟩,
   ⟨(some 14),none,.bin .neq (.tmp 13) (.const (.int .i64 0))⟩] [4,5,14])
 (.cond (.tmp 14)
  (.seq (.ops [⟨(some 15),none,.mov (.tmp 5)⟩,
    ⟨(some 2),none,.mov (.const (.string ⟨#[]⟩))⟩,
    ⟨(some 3),none,.mov (.tmp 15)⟩] [2,3])
  (.ret))
  (.skip)))
 (.seq (.ops [⟨(some 6),none,.mov (.const (.string ⟨#[]⟩))⟩] [4,6])
 (.seq (.seq (.ops [⟨(some 7),none,.mov (.const (.int .i64 0))⟩] [4,6,7])
 (.block 0
  (.loop [4,6,7]
   c13l0)))
 (.seq (.ops [⟨(some 42),none,.mov (.tmp 6)⟩,
   ⟨(some 2),none,.mov (.tmp 42)⟩,
   ⟨(some 3),none,.mov (.const (.int .i64 0))⟩] [2,3])
 (.ret)))))),
 43,[(2,none),(3,none)],true⟩
theorem ok13:FunOK Tryd.prog 13 c13:=⟨⟨Tryd.f13,_,c13.code,Tryd.func13,rfl,by kernel_rfl,rfl,by kernel_rfl,by kernel_rfl⟩⟩
/- raddle/warp.Check -/
def c14:AFun:=⟨
 .seq (.ops [⟨(some 2),none,.mov (.const (.int .i64 0))⟩] [0])
 (.seq (.seq (.ops [⟨(some 3),none,.mov (.tmp 0)⟩,
   ⟨(some 4),none,.len false (.tmp 3)⟩,
   ⟨(some 5),none,.bin .gtr (.tmp 4) (.const (.int .i64 4000))⟩] [0,5])
 (.cond (.tmp 5)
  (.seq (.ops [⟨(some 2),none,.mov (.const (.int .i64 4))⟩] [2])
  (.ret))
  (.skip)))
 (.seq (.seq (.ops [⟨(some 6),none,.mov (.tmp 0)⟩,
   ⟨(some 7),none,.callF 39 [(.tmp 6),(.func 40)]⟩] [7])
 (.cond (.tmp 7)
  (.seq (.ops [⟨(some 2),none,.mov (.const (.int .i64 8))⟩] [2])
  (.ret))
  (.skip)))
 (.seq (.ops [⟨(some 2),none,.mov (.const (.int .i64 0))⟩] [2])
 (.ret)))),
 8,[(2,none)],true⟩
theorem ok14:FunOK Tryd.prog 14 c14:=⟨⟨Tryd.f14,_,c14.code,Tryd.func14,rfl,by kernel_rfl,rfl,by kernel_rfl,by kernel_rfl⟩⟩
/- raddle/raddleref22.Check -/
def c15l0:AC:=
 .seq (.seq (.ops [⟨(some 7),none,.mov (.tmp 3)⟩,
     ⟨(some 8),none,.mov (.tmp 0)⟩,
     ⟨(some 9),none,.len false (.tmp 8)⟩,
     ⟨(some 10),none,.bin .lss (.tmp 7) (.tmp 9)⟩] [0,3,10])
   (.cond (.tmp 10)
    (.skip)
    (.exit 0)))
   (.seq (.block 1
    (.seq (.ops [⟨(some 13),none,.mov (.tmp 0)⟩,
      ⟨(some 14),none,.mov (.tmp 3)⟩,
      ⟨(some 15),none,.idxS 1 (.tmp 13) (.tmp 14)⟩,
      ⟨(some 16),none,.load none (.tmp 15)⟩,
      ⟨(some 17),none,.bin .lss (.tmp 16) (.const (.int .i64 0))⟩,
      ⟨(some 18),none,.mov (.tmp 17)⟩,
      ⟨(some 19),(some (18,false)),.mov (.tmp 0)⟩,
      ⟨(some 20),(some (18,false)),.mov (.tmp 3)⟩,
      ⟨(some 21),(some (18,false)),.idxS 1 (.tmp 19) (.tmp 20)⟩,
      ⟨(some 22),(some (18,false)),.load none (.tmp 21)⟩,
      ⟨(some 23),(some (18,false)),.bin .gtr (.tmp 22) (.const (.int .i64 15))⟩,
      ⟨(some 24),none,.pick (.tmp 18) (.const (.bool true)) (.tmp 23)⟩] [0,3,24])
    (.cond (.tmp 24)
     (.seq (.ops [⟨(some 2),none,.mov (.const (.int .i64 8))⟩] [2])
     (.ret))
     (.skip))))
   (.ops [⟨(some 11),none,.mov (.tmp 3)⟩,
     ⟨(some 12),none,.bin .add (.tmp 11) (.const (.int .i64 1))⟩,
     ⟨(some 3),none,.mov (.tmp 12)⟩] [0,3]))
def c15:AFun:=⟨
 .seq (.ops [⟨(some 2),none,.mov (.const (.int .i64 0))⟩] [0])
 (.seq (.seq (.ops [⟨(some 4),none,.mov (.tmp 0)⟩,
   ⟨(some 5),none,.len false (.tmp 4)⟩,
   ⟨(some 6),none,.bin .gtr (.tmp 5) (.const (.int .i64 4000))⟩] [0,6])
 (.cond (.tmp 6)
  (.seq (.ops [⟨(some 2),none,.mov (.const (.int .i64 4))⟩] [2])
  (.ret))
  (.skip)))
 (.seq (.seq (.ops [⟨(some 3),none,.mov (.const (.int .i64 0))⟩] [0,3])
 (.block 0
  (.loop [0,3]
   c15l0)))
 (.seq (.ops [⟨(some 2),none,.mov (.const (.int .i64 0))⟩] [2])
 (.ret)))),
 25,[(2,none)],true⟩
theorem ok15:FunOK Tryd.prog 15 c15:=⟨⟨Tryd.f15,_,c15.code,Tryd.func15,rfl,by kernel_rfl,rfl,by kernel_rfl,by kernel_rfl⟩⟩
/- raddle/raddleref22.SameRuns -/
def c16l0:AC:=
 .seq (.seq (.ops [⟨(some 11),none,.mov (.tmp 5)⟩,
     ⟨(some 12),none,.mov (.tmp 0)⟩,
     ⟨(some 13),none,.len false (.tmp 12)⟩,
     ⟨(some 14),none,.bin .lss (.tmp 11) (.tmp 13)⟩] [0,1,5,14])
   (.cond (.tmp 14)
    (.skip)
    (.exit 0)))
   (.seq (.block 1
    (.seq (.draw [⟨(some 17),none,.mov (.tmp 0)⟩,
      ⟨(some 18),none,.mov (.tmp 5)⟩,
      ⟨(some 19),none,.idxS 2 (.tmp 17) (.tmp 18)⟩,
      ⟨(some 20),none,.load (some 2) (.tmp 19)⟩,
      ⟨(some 21),none,.mov (.tmp 1)⟩,
      ⟨(some 22),none,.mov (.tmp 5)⟩,
      ⟨(some 23),none,.idxS 2 (.tmp 21) (.tmp 22)⟩,
      ⟨(some 24),none,.load (some 2) (.tmp 23)⟩] [⟨(some 25),none,.eqAgg true [(0,0),(1,0)] (.tmp 20) (.tmp 24)⟩] [[],[],[],[],[],[],[],[]] [0,1,5,25])
    (.cond (.tmp 25)
     (.seq (.ops [⟨(some 4),none,.mov (.const (.bool false))⟩] [4])
     (.ret))
     (.skip))))
   (.ops [⟨(some 15),none,.mov (.tmp 5)⟩,
     ⟨(some 16),none,.bin .add (.tmp 15) (.const (.int .i64 1))⟩,
     ⟨(some 5),none,.mov (.tmp 16)⟩] [0,1,5]))
def c16:AFun:=⟨
 .seq (.ops [⟨(some 4),none,.mov (.const (.bool false))⟩] [0,1])
 (.seq (.seq (.ops [⟨(some 6),none,.mov (.tmp 0)⟩,
   ⟨(some 7),none,.len false (.tmp 6)⟩,
   ⟨(some 8),none,.mov (.tmp 1)⟩,
   ⟨(some 9),none,.len false (.tmp 8)⟩,
   ⟨(some 10),none,.bin .neq (.tmp 7) (.tmp 9)⟩] [0,1,10])
 (.cond (.tmp 10)
  (.seq (.ops [⟨(some 4),none,.mov (.const (.bool false))⟩] [4])
  (.ret))
  (.skip)))
 (.seq (.seq (.ops [⟨(some 5),none,.mov (.const (.int .i64 0))⟩] [0,1,5])
 (.block 0
  (.loop [0,1,5]
   c16l0)))
 (.seq (.ops [⟨(some 4),none,.mov (.const (.bool true))⟩] [4])
 (.ret)))),
 26,[(4,none)],true⟩
theorem ok16:FunOK Tryd.prog 16 c16:=⟨⟨Tryd.f16,_,c16.code,Tryd.func16,rfl,by kernel_rfl,rfl,by kernel_rfl,by kernel_rfl⟩⟩
/- raddle/warp.Cross -/
def c17l0:AC:=
 .seq (.ops [⟨(some 16),none,.bin .lss (.tmp 15) (.tmp 14)⟩] [2,3,13,14,15,16])
   (.seq (.cond (.tmp 16)
    (.skip)
    (.exit 0))
   (.seq (.block 1
    (.seq (.ops [⟨(some 17),none,.mov (.tmp 15)⟩,
      ⟨(some 18),none,.idxS 1 (.tmp 13) (.tmp 15)⟩,
      ⟨(some 19),none,.load none (.tmp 18)⟩,
      ⟨(some 6),none,.mov (.tmp 17)⟩,
      ⟨(some 7),none,.mov (.tmp 19)⟩] [2,3,6,7,13,14,15])
    (.seq (.ops [⟨(some 20),none,.mov (.tmp 6)⟩,
      ⟨(some 21),none,.bin .rem (.tmp 20) (.const (.int .i64 2))⟩,
      ⟨(some 22),none,.bin .eql (.tmp 21) (.const (.int .i64 0))⟩] [2,3,7,13,14,15,22])
    (.cond (.tmp 22)
     (.ops [⟨(some 23),none,.mov (.tmp 2)⟩,
       ⟨(some 24),none,.mov (.tmp 7)⟩,
       ⟨(some 25),none,.mkRow 3 1 1 [(.int .i64 0)] [(0,1,(.tmp 24))]⟩,
       ⟨(some 26),none,.app 3 1 8 (.tmp 23) (.tmp 25)⟩,
       ⟨(some 2),none,.mov (.tmp 26)⟩] [2,3,13,14,15])
     (.ops [⟨(some 27),none,.mov (.tmp 3)⟩,
       ⟨(some 28),none,.mov (.tmp 7)⟩,
       ⟨(some 29),none,.mkRow 3 1 1 [(.int .i64 0)] [(0,1,(.tmp 28))]⟩,
       ⟨(some 30),none,.app 3 1 8 (.tmp 27) (.tmp 29)⟩,
       ⟨(some 3),none,.mov (.tmp 30)⟩] [2,3,13,14,15])))))
   (.ops [⟨(some 31),none,.bin .add (.tmp 15) (.const (.int .i64 1))⟩,
     ⟨(some 15),none,.mov (.tmp 31)⟩] [2,3,13,14,15])))
def c17:AFun:=⟨
 .seq (.ops [⟨(some 2),none,.mov (.const (.slice none 0 0))⟩,
   ⟨(some 3),none,.mov (.const (.slice none 0 0))⟩,
   ⟨(some 4),none,.mov (.const (.int .i64 0))⟩] [0,2,3])
 (.seq (.seq (.ops [⟨(some 8),none,.mov (.tmp 0)⟩,
   ⟨(some 9),none,.callF 14 [(.tmp 8)]⟩,
   ⟨(some 5),none,.mov (.tmp 9)⟩] [0,2,3,5])
 (.seq (.ops [⟨(some 10),none,.mov (.tmp 5)⟩,
   ⟨(some 11),none,.bin .neq (.tmp 10) (.const (.int .i64 0))⟩] [0,2,3,5,11])
 (.cond (.tmp 11)
  (.seq (.ops [⟨(some 12),none,.mov (.tmp 5)⟩,
    ⟨(some 2),none,.mov (.const (.slice none 0 0))⟩,
    ⟨(some 3),none,.mov (.const (.slice none 0 0))⟩,
    ⟨(some 4),none,.mov (.tmp 12)⟩] [2,3,4])
  (.ret))
  (.skip))))
 (.seq (.seq (.ops [⟨(some 13),none,.mov (.tmp 0)⟩,
   ⟨(some 14),none,.len false (.tmp 13)⟩,
   ⟨(some 15),none,.mov (.const (.int .i64 0))⟩] [2,3,13,14,15])
 (.block 0
  (.loop [2,3,13,14,15]
   c17l0)))
 (.seq (.ops [⟨(some 32),none,.mov (.tmp 2)⟩,
   ⟨(some 33),none,.mov (.tmp 3)⟩,
   ⟨(some 2),none,.mov (.tmp 32)⟩,
   ⟨(some 3),none,.mov (.tmp 33)⟩,
   ⟨(some 4),none,.mov (.const (.int .i64 0))⟩] [2,3,4])
 (.ret)))),
 34,[(2,none),(3,none),(4,none)],true⟩
theorem ok17:FunOK Tryd.prog 17 c17:=⟨⟨Tryd.f17,_,c17.code,Tryd.func17,rfl,by kernel_rfl,rfl,by kernel_rfl,by kernel_rfl⟩⟩
/- raddle/raddleref22.Cross -/
def c18l0:AC:=
 .seq (.seq (.ops [⟨(some 27),none,.mov (.tmp 8)⟩,
     ⟨(some 28),none,.mov (.tmp 0)⟩,
     ⟨(some 29),none,.len false (.tmp 28)⟩,
     ⟨(some 30),none,.bin .lss (.tmp 27) (.tmp 29)⟩] [0,5,6,8,30])
   (.cond (.tmp 30)
    (.skip)
    (.exit 2)))
   (.seq (.block 3
    (.ops [⟨(some 33),none,.mov (.tmp 6)⟩,
      ⟨(some 34),none,.mov (.tmp 0)⟩,
      ⟨(some 35),none,.mov (.tmp 8)⟩,
      ⟨(some 36),none,.idxS 1 (.tmp 34) (.tmp 35)⟩,
      ⟨(some 37),none,.load none (.tmp 36)⟩,
      ⟨(some 38),none,.mkRow 3 1 1 [(.int .i64 0)] [(0,1,(.tmp 37))]⟩,
      ⟨(some 39),none,.app 3 1 8 (.tmp 33) (.tmp 38)⟩,
      ⟨(some 6),none,.mov (.tmp 39)⟩] [0,5,6,8]))
   (.ops [⟨(some 31),none,.mov (.tmp 8)⟩,
     ⟨(some 32),none,.bin .add (.tmp 31) (.const (.int .i64 2))⟩,
     ⟨(some 8),none,.mov (.tmp 32)⟩] [0,5,6,8]))
def c18l1:AC:=
 .seq (.seq (.ops [⟨(some 14),none,.mov (.tmp 7)⟩,
     ⟨(some 15),none,.mov (.tmp 0)⟩,
     ⟨(some 16),none,.len false (.tmp 15)⟩,
     ⟨(some 17),none,.bin .lss (.tmp 14) (.tmp 16)⟩] [0,5,6,7,17])
   (.cond (.tmp 17)
    (.skip)
    (.exit 0)))
   (.seq (.block 1
    (.ops [⟨(some 20),none,.mov (.tmp 5)⟩,
      ⟨(some 21),none,.mov (.tmp 0)⟩,
      ⟨(some 22),none,.mov (.tmp 7)⟩,
      ⟨(some 23),none,.idxS 1 (.tmp 21) (.tmp 22)⟩,
      ⟨(some 24),none,.load none (.tmp 23)⟩,
      ⟨(some 25),none,.mkRow 3 1 1 [(.int .i64 0)] [(0,1,(.tmp 24))]⟩,
      ⟨(some 26),none,.app 3 1 8 (.tmp 20) (.tmp 25)⟩,
      ⟨(some 5),none,.mov (.tmp 26)⟩] [0,5,6,7]))
   (.ops [⟨(some 18),none,.mov (.tmp 7)⟩,
     ⟨(some 19),none,.bin .add (.tmp 18) (.const (.int .i64 2))⟩,
     ⟨(some 7),none,.mov (.tmp 19)⟩] [0,5,6,7]))
def c18:AFun:=⟨
 .seq (.ops [⟨(some 2),none,.mov (.const (.slice none 0 0))⟩,
   ⟨(some 3),none,.mov (.const (.slice none 0 0))⟩,
   ⟨(some 4),none,.mov (.const (.int .i64 0))⟩] [0])
 (.seq (.seq (.ops [⟨(some 9),none,.mov (.tmp 0)⟩,
   ⟨(some 10),none,.callF 15 [(.tmp 9)]⟩,
   ⟨(some 11),none,.bin .neq (.tmp 10) (.const (.int .i64 0))⟩] [0,11])
 (.cond (.tmp 11)
  (.seq (.ops [⟨(some 12),none,.mov (.tmp 0)⟩,
    ⟨(some 13),none,.callF 15 [(.tmp 12)]⟩,
    ⟨(some 2),none,.mov (.const (.slice none 0 0))⟩,
    ⟨(some 3),none,.mov (.const (.slice none 0 0))⟩,
    ⟨(some 4),none,.mov (.tmp 13)⟩] [2,3,4])
  (.ret))
  (.skip)))
 (.seq (.ops [⟨(some 5),none,.mov (.const (.slice none 0 0))⟩,
   ⟨(some 6),none,.mov (.const (.slice none 0 0))⟩] [0,5,6])
 (.seq (.seq (.ops [⟨(some 7),none,.mov (.const (.int .i64 0))⟩] [0,5,6,7])
 (.block 0
  (.loop [0,5,6,7]
   c18l1)))
 (.seq (.seq (.ops [⟨(some 8),none,.mov (.const (.int .i64 1))⟩] [0,5,6,8])
 (.block 2
  (.loop [0,5,6,8]
   c18l0)))
 (.seq (.ops [⟨(some 40),none,.mov (.tmp 5)⟩,
   ⟨(some 41),none,.mov (.tmp 6)⟩,
   ⟨(some 2),none,.mov (.tmp 40)⟩,
   ⟨(some 3),none,.mov (.tmp 41)⟩,
   ⟨(some 4),none,.mov (.const (.int .i64 0))⟩] [2,3,4])
 (.ret)))))),
 42,[(2,none),(3,none),(4,none)],true⟩
theorem ok18:FunOK Tryd.prog 18 c18:=⟨⟨Tryd.f18,_,c18.code,Tryd.func18,rfl,by kernel_rfl,rfl,by kernel_rfl,by kernel_rfl⟩⟩
/- raddle/warp.Uncross -/
def c19l0:AC:=
 .seq (.ops [⟨(some 42),none,.bin .lss (.tmp 41) (.tmp 40)⟩] [1,9,39,40,41,42])
   (.seq (.cond (.tmp 42)
    (.skip)
    (.exit 0))
   (.seq (.block 1
    (.seq (.ops [⟨(some 43),none,.mov (.tmp 41)⟩,
      ⟨(some 44),none,.idxS 1 (.tmp 39) (.tmp 41)⟩,
      ⟨(some 45),none,.load none (.tmp 44)⟩,
      ⟨(some 10),none,.mov (.tmp 43)⟩,
      ⟨(some 11),none,.mov (.tmp 45)⟩] [1,9,10,11,39,40,41])
    (.seq (.ops [⟨(some 46),none,.mov (.tmp 9)⟩,
      ⟨(some 47),none,.mov (.tmp 11)⟩,
      ⟨(some 48),none,.mkRow 3 1 1 [(.int .i64 0)] [(0,1,(.tmp 47))]⟩,
      ⟨(some 49),none,.app 3 1 8 (.tmp 46) (.tmp 48)⟩,
      ⟨(some 9),none,.mov (.tmp 49)⟩] [1,9,10,39,40,41])
    (.seq (.ops [⟨(some 50),none,.mov (.tmp 10)⟩,
      ⟨(some 51),none,.mov (.tmp 1)⟩,
      ⟨(some 52),none,.len false (.tmp 51)⟩,
      ⟨(some 53),none,.bin .lss (.tmp 50) (.tmp 52)⟩] [1,9,10,39,40,41,53])
    (.cond (.tmp 53)
     (.ops [⟨(some 54),none,.mov (.tmp 9)⟩,
       ⟨(some 55),none,.mov (.tmp 1)⟩,
       ⟨(some 56),none,.mov (.tmp 10)⟩,
       ⟨(some 57),none,.idxS 1 (.tmp 55) (.tmp 56)⟩,
       ⟨(some 58),none,.load none (.tmp 57)⟩,
       ⟨(some 59),none,.mkRow 3 1 1 [(.int .i64 0)] [(0,1,(.tmp 58))]⟩,
       ⟨(some 60),none,.app 3 1 8 (.tmp 54) (.tmp 59)⟩,
       ⟨(some 9),none,.mov (.tmp 60)⟩] [1,9,39,40,41])
     (.skip))))))
   (.ops [⟨(some 61),none,.bin .add (.tmp 41) (.const (.int .i64 1))⟩,
     ⟨(some 41),none,.mov (.tmp 61)⟩] [1,9,39,40,41])))
def c19:AFun:=⟨
 .seq (.ops [⟨(some 4),none,.mov (.const (.slice none 0 0))⟩,
   ⟨(some 5),none,.mov (.const (.int .i64 0))⟩] [0,1])
 (.seq (.seq (.ops [⟨(some 12),none,.mov (.tmp 0)⟩,
   ⟨(some 13),none,.callF 14 [(.tmp 12)]⟩,
   ⟨(some 6),none,.mov (.tmp 13)⟩] [0,1,6])
 (.seq (.ops [⟨(some 14),none,.mov (.tmp 6)⟩,
   ⟨(some 15),none,.bin .neq (.tmp 14) (.const (.int .i64 0))⟩] [0,1,6,15])
 (.cond (.tmp 15)
  (.seq (.ops [⟨(some 16),none,.mov (.tmp 6)⟩,
    ⟨(some 4),none,.mov (.const (.slice none 0 0))⟩,
    ⟨(some 5),none,.mov (.tmp 16)⟩] [4,5])
  (.ret))
  (.skip))))
 (.seq (.seq (.ops [⟨(some 17),none,.mov (.tmp 1)⟩,
   ⟨(some 18),none,.callF 14 [(.tmp 17)]⟩,
   ⟨(some 7),none,.mov (.tmp 18)⟩] [0,1,7])
 (.seq (.ops [⟨(some 19),none,.mov (.tmp 7)⟩,
   ⟨(some 20),none,.bin .neq (.tmp 19) (.const (.int .i64 0))⟩] [0,1,7,20])
 (.cond (.tmp 20)
  (.seq (.ops [⟨(some 21),none,.mov (.tmp 7)⟩,
    ⟨(some 4),none,.mov (.const (.slice none 0 0))⟩,
    ⟨(some 5),none,.mov (.tmp 21)⟩] [4,5])
  (.ret))
  (.skip))))
 (.seq (.seq (.ops [⟨(some 22),none,.mov (.tmp 0)⟩,
   ⟨(some 23),none,.len false (.tmp 22)⟩,
   ⟨(some 24),none,.mov (.tmp 1)⟩,
   ⟨(some 25),none,.len false (.tmp 24)⟩,
   ⟨(some 26),none,.bin .sub (.tmp 23) (.tmp 25)⟩,
   ⟨(some 8),none,.mov (.tmp 26)⟩] [0,1,8])
 (.seq (.ops [⟨(some 27),none,.mov (.tmp 8)⟩,
   ⟨(some 28),none,.bin .neq (.tmp 27) (.const (.int .i64 0))⟩,
   ⟨(some 29),none,.mov (.tmp 28)⟩,
   ⟨(some 30),(some (29,true)),.mov (.tmp 8)⟩,
   ⟨(some 31),(some (29,true)),.bin .neq (.tmp 30) (.const (.int .i64 1))⟩,
   ⟨(some 32),none,.pick (.tmp 29) (.tmp 31) (.const (.bool false))⟩] [0,1,32])
 (.cond (.tmp 32)
  (.seq (.ops [⟨(some 4),none,.mov (.const (.slice none 0 0))⟩,
    ⟨(some 5),none,.mov (.const (.int .i64 26))⟩] [4,5])
  (.ret))
  (.skip))))
 (.seq (.seq (.ops [⟨(some 33),none,.mov (.tmp 0)⟩,
   ⟨(some 34),none,.len false (.tmp 33)⟩,
   ⟨(some 35),none,.mov (.tmp 1)⟩,
   ⟨(some 36),none,.len false (.tmp 35)⟩,
   ⟨(some 37),none,.bin .add (.tmp 34) (.tmp 36)⟩,
   ⟨(some 38),none,.bin .gtr (.tmp 37) (.const (.int .i64 4000))⟩] [0,1,38])
 (.cond (.tmp 38)
  (.seq (.ops [⟨(some 4),none,.mov (.const (.slice none 0 0))⟩,
    ⟨(some 5),none,.mov (.const (.int .i64 4))⟩] [4,5])
  (.ret))
  (.skip)))
 (.seq (.ops [⟨(some 9),none,.mov (.const (.slice none 0 0))⟩] [0,1,9])
 (.seq (.seq (.ops [⟨(some 39),none,.mov (.tmp 0)⟩,
   ⟨(some 40),none,.len false (.tmp 39)⟩,
   ⟨(some 41),none,.mov (.const (.int .i64 0))⟩] [1,9,39,40,41])
 (.block 0
  (.loop [1,9,39,40,41]
   c19l0)))
 (.seq (.ops [⟨(some 62),none,.mov (.tmp 9)⟩,
   ⟨(some 4),none,.mov (.tmp 62)⟩,
   ⟨(some 5),none,.mov (.const (.int .i64 0))⟩] [4,5])
 (.ret)))))))),
 63,[(4,none),(5,none)],true⟩
theorem ok19:FunOK Tryd.prog 19 c19:=⟨⟨Tryd.f19,_,c19.code,Tryd.func19,rfl,by kernel_rfl,rfl,by kernel_rfl,by kernel_rfl⟩⟩
/- raddle/raddleref22.Uncross -/
def c20l0:AC:=
 .seq (.seq (.ops [⟨(some 37),none,.mov (.tmp 7)⟩,
     ⟨(some 38),none,.mov (.tmp 0)⟩,
     ⟨(some 39),none,.len false (.tmp 38)⟩,
     ⟨(some 40),none,.mov (.tmp 1)⟩,
     ⟨(some 41),none,.len false (.tmp 40)⟩,
     ⟨(some 42),none,.bin .add (.tmp 39) (.tmp 41)⟩,
     ⟨(some 43),none,.bin .lss (.tmp 37) (.tmp 42)⟩] [0,1,6,7,43])
   (.cond (.tmp 43)
    (.skip)
    (.exit 0)))
   (.seq (.block 1
    (.seq (.ops [⟨(some 46),none,.mov (.tmp 7)⟩,
      ⟨(some 47),none,.bin .rem (.tmp 46) (.const (.int .i64 2))⟩,
      ⟨(some 48),none,.bin .eql (.tmp 47) (.const (.int .i64 0))⟩] [0,1,6,7,48])
    (.cond (.tmp 48)
     (.ops [⟨(some 49),none,.mov (.tmp 6)⟩,
       ⟨(some 50),none,.mov (.tmp 0)⟩,
       ⟨(some 51),none,.mov (.tmp 7)⟩,
       ⟨(some 52),none,.bin .quo (.tmp 51) (.const (.int .i64 2))⟩,
       ⟨(some 53),none,.idxS 1 (.tmp 50) (.tmp 52)⟩,
       ⟨(some 54),none,.load none (.tmp 53)⟩,
       ⟨(some 55),none,.mkRow 3 1 1 [(.int .i64 0)] [(0,1,(.tmp 54))]⟩,
       ⟨(some 56),none,.app 3 1 8 (.tmp 49) (.tmp 55)⟩,
       ⟨(some 6),none,.mov (.tmp 56)⟩] [0,1,6,7])
     (.ops [⟨(some 57),none,.mov (.tmp 6)⟩,
       ⟨(some 58),none,.mov (.tmp 1)⟩,
       ⟨(some 59),none,.mov (.tmp 7)⟩,
       ⟨(some 60),none,.bin .quo (.tmp 59) (.const (.int .i64 2))⟩,
       ⟨(some 61),none,.idxS 1 (.tmp 58) (.tmp 60)⟩,
       ⟨(some 62),none,.load none (.tmp 61)⟩,
       ⟨(some 63),none,.mkRow 3 1 1 [(.int .i64 0)] [(0,1,(.tmp 62))]⟩,
       ⟨(some 64),none,.app 3 1 8 (.tmp 57) (.tmp 63)⟩,
       ⟨(some 6),none,.mov (.tmp 64)⟩] [0,1,6,7]))))
   (.ops [⟨(some 44),none,.mov (.tmp 7)⟩,
     ⟨(some 45),none,.bin .add (.tmp 44) (.const (.int .i64 1))⟩,
     ⟨(some 7),none,.mov (.tmp 45)⟩] [0,1,6,7]))
def c20:AFun:=⟨
 .seq (.ops [⟨(some 4),none,.mov (.const (.slice none 0 0))⟩,
   ⟨(some 5),none,.mov (.const (.int .i64 0))⟩] [0,1])
 (.seq (.seq (.ops [⟨(some 8),none,.mov (.tmp 0)⟩,
   ⟨(some 9),none,.callF 15 [(.tmp 8)]⟩,
   ⟨(some 10),none,.bin .neq (.tmp 9) (.const (.int .i64 0))⟩] [0,1,10])
 (.cond (.tmp 10)
  (.seq (.ops [⟨(some 11),none,.mov (.tmp 0)⟩,
    ⟨(some 12),none,.callF 15 [(.tmp 11)]⟩,
    ⟨(some 4),none,.mov (.const (.slice none 0 0))⟩,
    ⟨(some 5),none,.mov (.tmp 12)⟩] [4,5])
  (.ret))
  (.skip)))
 (.seq (.seq (.ops [⟨(some 13),none,.mov (.tmp 1)⟩,
   ⟨(some 14),none,.callF 15 [(.tmp 13)]⟩,
   ⟨(some 15),none,.bin .neq (.tmp 14) (.const (.int .i64 0))⟩] [0,1,15])
 (.cond (.tmp 15)
  (.seq (.ops [⟨(some 16),none,.mov (.tmp 1)⟩,
    ⟨(some 17),none,.callF 15 [(.tmp 16)]⟩,
    ⟨(some 4),none,.mov (.const (.slice none 0 0))⟩,
    ⟨(some 5),none,.mov (.tmp 17)⟩] [4,5])
  (.ret))
  (.skip)))
 (.seq (.seq (.ops [⟨(some 18),none,.mov (.tmp 0)⟩,
   ⟨(some 19),none,.len false (.tmp 18)⟩,
   ⟨(some 20),none,.mov (.tmp 1)⟩,
   ⟨(some 21),none,.len false (.tmp 20)⟩,
   ⟨(some 22),none,.bin .neq (.tmp 19) (.tmp 21)⟩,
   ⟨(some 23),none,.mov (.tmp 22)⟩,
   ⟨(some 24),(some (23,true)),.mov (.tmp 0)⟩,
   ⟨(some 25),(some (23,true)),.len false (.tmp 24)⟩,
   ⟨(some 26),(some (23,true)),.mov (.tmp 1)⟩,
   ⟨(some 27),(some (23,true)),.len false (.tmp 26)⟩,
   ⟨(some 28),(some (23,true)),.bin .add (.tmp 27) (.const (.int .i64 1))⟩,
   ⟨(some 29),(some (23,true)),.bin .neq (.tmp 25) (.tmp 28)⟩,
   ⟨(some 30),none,.pick (.tmp 23) (.tmp 29) (.const (.bool false))⟩] [0,1,30])
 (.cond (.tmp 30)
  (.seq (.ops [⟨(some 4),none,.mov (.const (.slice none 0 0))⟩,
    ⟨(some 5),none,.mov (.const (.int .i64 26))⟩] [4,5])
  (.ret))
  (.skip)))
 (.seq (.seq (.ops [⟨(some 31),none,.mov (.tmp 0)⟩,
   ⟨(some 32),none,.len false (.tmp 31)⟩,
   ⟨(some 33),none,.mov (.tmp 1)⟩,
   ⟨(some 34),none,.len false (.tmp 33)⟩,
   ⟨(some 35),none,.bin .add (.tmp 32) (.tmp 34)⟩,
   ⟨(some 36),none,.bin .gtr (.tmp 35) (.const (.int .i64 4000))⟩] [0,1,36])
 (.cond (.tmp 36)
  (.seq (.ops [⟨(some 4),none,.mov (.const (.slice none 0 0))⟩,
    ⟨(some 5),none,.mov (.const (.int .i64 4))⟩] [4,5])
  (.ret))
  (.skip)))
 (.seq (.ops [⟨(some 6),none,.mov (.const (.slice none 0 0))⟩] [0,1,6])
 (.seq (.seq (.ops [⟨(some 7),none,.mov (.const (.int .i64 0))⟩] [0,1,6,7])
 (.block 0
  (.loop [0,1,6,7]
   c20l0)))
 (.seq (.ops [⟨(some 65),none,.mov (.tmp 6)⟩,
   ⟨(some 4),none,.mov (.tmp 65)⟩,
   ⟨(some 5),none,.mov (.const (.int .i64 0))⟩] [4,5])
 (.ret)))))))),
 66,[(4,none),(5,none)],true⟩
theorem ok20:FunOK Tryd.prog 20 c20:=⟨⟨Tryd.f20,_,c20.code,Tryd.func20,rfl,by kernel_rfl,rfl,by kernel_rfl,by kernel_rfl⟩⟩
/- raddle/raddleref21.Same -/
def c21l0:AC:=
 .seq (.seq (.ops [⟨(some 11),none,.mov (.tmp 5)⟩,
     ⟨(some 12),none,.mov (.tmp 0)⟩,
     ⟨(some 13),none,.len false (.tmp 12)⟩,
     ⟨(some 14),none,.bin .lss (.tmp 11) (.tmp 13)⟩] [0,1,5,14])
   (.cond (.tmp 14)
    (.skip)
    (.exit 0)))
   (.seq (.block 1
    (.seq (.draw [⟨(some 17),none,.mov (.tmp 0)⟩,
      ⟨(some 18),none,.mov (.tmp 5)⟩,
      ⟨(some 19),none,.idxS 1 (.tmp 17) (.tmp 18)⟩,
      ⟨(some 20),none,.load none (.tmp 19)⟩,
      ⟨(some 21),none,.mov (.tmp 1)⟩,
      ⟨(some 22),none,.mov (.tmp 5)⟩,
      ⟨(some 23),none,.idxS 1 (.tmp 21) (.tmp 22)⟩,
      ⟨(some 24),none,.load none (.tmp 23)⟩] [⟨(some 25),none,.bin .neq (.tmp 20) (.tmp 24)⟩] [[],[],[],[],[],[],[],[]] [0,1,5,25])
    (.cond (.tmp 25)
     (.seq (.ops [⟨(some 4),none,.mov (.const (.bool false))⟩] [4])
     (.ret))
     (.skip))))
   (.ops [⟨(some 15),none,.mov (.tmp 5)⟩,
     ⟨(some 16),none,.bin .add (.tmp 15) (.const (.int .i64 1))⟩,
     ⟨(some 5),none,.mov (.tmp 16)⟩] [0,1,5]))
def c21:AFun:=⟨
 .seq (.ops [⟨(some 4),none,.mov (.const (.bool false))⟩] [0,1])
 (.seq (.seq (.ops [⟨(some 6),none,.mov (.tmp 0)⟩,
   ⟨(some 7),none,.len false (.tmp 6)⟩,
   ⟨(some 8),none,.mov (.tmp 1)⟩,
   ⟨(some 9),none,.len false (.tmp 8)⟩,
   ⟨(some 10),none,.bin .neq (.tmp 7) (.tmp 9)⟩] [0,1,10])
 (.cond (.tmp 10)
  (.seq (.ops [⟨(some 4),none,.mov (.const (.bool false))⟩] [4])
  (.ret))
  (.skip)))
 (.seq (.seq (.ops [⟨(some 5),none,.mov (.const (.int .i64 0))⟩] [0,1,5])
 (.block 0
  (.loop [0,1,5]
   c21l0)))
 (.seq (.ops [⟨(some 4),none,.mov (.const (.bool true))⟩] [4])
 (.ret)))),
 26,[(4,none)],true⟩
theorem ok21:FunOK Tryd.prog 21 c21:=⟨⟨Tryd.f21,_,c21.code,Tryd.func21,rfl,by kernel_rfl,rfl,by kernel_rfl,by kernel_rfl⟩⟩
/- slices.Collect[raddle/api.Run] -/
def c32:AFun:=⟨
 .seq (.ops [⟨(some 2),none,.mov (.const (.slice none 0 0))⟩] [0])
 (.seq (.ops [⟨(some 3),none,.mov (.tmp 0)⟩,
   ⟨(some 4),none,.callF 51 [(.const (.slice none 0 0)),(.tmp 3)]⟩,
   ⟨(some 2),none,.mov (.tmp 4)⟩] [2])
 (.ret)),
 5,[(2,none)],false⟩
theorem ok32:FunOK Tryd.prog 32 c32:=⟨⟨Tryd.f32,_,c32.code,Tryd.func32,rfl,by kernel_rfl,rfl,by kernel_rfl,by kernel_rfl⟩⟩
/- raddle/warp.runs -/
def c33:AFun:=⟨
 .seq (.ops [⟨(some 1),none,.box 22 (.tmp 0)⟩,
   ⟨(some 2),none,.mov (.const .nilFunc)⟩] [1])
 (.seq (.ops [⟨(some 3),none,.mkFn 52 [] [(.tmp 1)]⟩,
   ⟨(some 2),none,.mov (.tmp 3)⟩] [2])
 (.ret)),
 4,[(2,none)],true⟩
theorem ok33:FunOK Tryd.prog 33 c33:=⟨⟨Tryd.f33,_,c33.code,Tryd.func33,rfl,by kernel_rfl,rfl,by kernel_rfl,by kernel_rfl⟩⟩
/- (*strings.Builder).WriteString -/
def c34:AFun:=⟨
 .seq (.ops [⟨(some 4),none,.mov (.const (.int .i64 0))⟩,
   ⟨(some 5),none,.mov (.const .nilIface)⟩] [0,1])
 (.seq (.ops [⟨(some 6),none,.mov (.tmp 0)⟩,
   ⟨(some 7),none,.callF 53 [(.tmp 6)]⟩] [0,1])
 (.seq (.ops [⟨(some 8),none,.mov (.tmp 0)⟩,
   ⟨(some 9),none,.mov (.tmp 0)⟩,
   ⟨(some 10),none,.nilChk (.tmp 9)⟩,
   ⟨(some 11),none,.fldA 1 (.tmp 10)⟩,
   ⟨(some 12),none,.load none (.tmp 11)⟩,
   ⟨(some 13),none,.mov (.tmp 1)⟩,
   ⟨(some 14),none,.app 5 1 1 (.tmp 12) (.tmp 13)⟩,
   ⟨(some 15),none,.nilChk (.tmp 8)⟩,
   ⟨(some 16),none,.fldA 1 (.tmp 15)⟩,
   ⟨none,none,.store 1 (.tmp 16) (.tmp 14)⟩] [1])
 (.seq (.ops [⟨(some 17),none,.mov (.tmp 1)⟩,
   ⟨(some 18),none,.len true (.tmp 17)⟩,
   ⟨(some 4),none,.mov (.tmp 18)⟩,
   ⟨(some 5),none,.mov (.const .nilIface)⟩] [4,5])
 (.ret)))),
 19,[(4,none),(5,none)],false⟩
theorem ok34:FunOK Tryd.prog 34 c34:=⟨⟨Tryd.f34,_,c34.code,Tryd.func34,rfl,by kernel_rfl,rfl,by kernel_rfl,by kernel_rfl⟩⟩
/- (*strings.Builder).Len -/
def c35:AFun:=⟨
 .seq (.ops [⟨(some 2),none,.mov (.const (.int .i64 0))⟩] [0])
 (.seq (.ops [⟨(some 3),none,.mov (.tmp 0)⟩,
   ⟨(some 4),none,.nilChk (.tmp 3)⟩,
   ⟨(some 5),none,.fldA 1 (.tmp 4)⟩,
   ⟨(some 6),none,.load none (.tmp 5)⟩,
   ⟨(some 7),none,.len false (.tmp 6)⟩,
   ⟨(some 2),none,.mov (.tmp 7)⟩] [2])
 (.ret)),
 8,[(2,none)],true⟩
theorem ok35:FunOK Tryd.prog 35 c35:=⟨⟨Tryd.f35,_,c35.code,Tryd.func35,rfl,by kernel_rfl,rfl,by kernel_rfl,by kernel_rfl⟩⟩
/- strconv.Itoa -/
def c36:AFun:=⟨
 .seq (.ops [⟨(some 2),none,.mov (.const (.string ⟨#[]⟩))⟩] [0])
 (.seq (.ops [⟨(some 3),none,.mov (.tmp 0)⟩,
   ⟨(some 4),none,.callF 54 [(.tmp 3)]⟩,
   ⟨(some 2),none,.mov (.tmp 4)⟩] [2])
 (.ret)),
 5,[(2,none)],true⟩
theorem ok36:FunOK Tryd.prog 36 c36:=⟨⟨Tryd.f36,_,c36.code,Tryd.func36,rfl,by kernel_rfl,rfl,by kernel_rfl,by kernel_rfl⟩⟩
/- (*strings.Builder).String -/
def c37:AFun:=⟨
 .seq (.ops [⟨(some 2),none,.mov (.const (.string ⟨#[]⟩))⟩] [0])
 (.seq (.draw [⟨(some 3),none,.mov (.tmp 0)⟩,
   ⟨(some 4),none,.nilChk (.tmp 3)⟩,
   ⟨(some 5),none,.fldA 1 (.tmp 4)⟩,
   ⟨(some 6),none,.load none (.tmp 5)⟩,
   ⟨(some 7),none,.sdata (.tmp 6)⟩,
   ⟨(some 8),none,.mov (.tmp 0)⟩,
   ⟨(some 9),none,.nilChk (.tmp 8)⟩,
   ⟨(some 10),none,.fldA 1 (.tmp 9)⟩,
   ⟨(some 11),none,.load none (.tmp 10)⟩,
   ⟨(some 12),none,.len false (.tmp 11)⟩] [⟨(some 13),none,.ustr 5 (.tmp 7) (.tmp 12)⟩,
   ⟨(some 2),none,.mov (.tmp 13)⟩] [[],[],[],[],[],[],[],[],[],[]] [2])
 (.ret)),
 14,[(2,none)],false⟩
theorem ok37:FunOK Tryd.prog 37 c37:=⟨⟨Tryd.f37,_,c37.code,Tryd.func37,rfl,by kernel_rfl,rfl,by kernel_rfl,by kernel_rfl⟩⟩
/- raddle/raddleref02.Decimal -/
def c38l0:AC:=
 .seq (.seq (.ops [⟨(some 4),none,.mov (.tmp 0)⟩,
     ⟨(some 5),none,.bin .gtr (.tmp 4) (.const (.int .i64 9))⟩] [0,3,5])
   (.cond (.tmp 5)
    (.skip)
    (.exit 0)))
   (.block 1
    (.seq (.ops [⟨(some 6),none,.mov (.tmp 0)⟩,
      ⟨(some 7),none,.bin .rem (.tmp 6) (.const (.int .i64 10))⟩,
      ⟨(some 8),none,.bin .add (.const (.int .i64 48)) (.tmp 7)⟩,
      ⟨(some 9),none,.convI .u8 (.tmp 8)⟩,
      ⟨(some 10),none,.mkRow 5 1 1 [(.int .u8 0)] [(0,1,(.tmp 9))]⟩,
      ⟨(some 11),none,.b2s (.tmp 10)⟩,
      ⟨(some 12),none,.mov (.tmp 3)⟩,
      ⟨(some 13),none,.bin .add (.tmp 11) (.tmp 12)⟩,
      ⟨(some 3),none,.mov (.tmp 13)⟩] [0,3])
    (.ops [⟨(some 14),none,.mov (.tmp 0)⟩,
      ⟨(some 15),none,.bin .quo (.tmp 14) (.const (.int .i64 10))⟩,
      ⟨(some 0),none,.mov (.tmp 15)⟩] [0,3])))
def c38:AFun:=⟨
 .seq (.ops [⟨(some 2),none,.mov (.const (.string ⟨#[]⟩))⟩] [0])
 (.seq (.ops [⟨(some 3),none,.mov (.const (.string ⟨#[]⟩))⟩] [0,3])
 (.seq (.block 0
  (.loop [0,3]
   c38l0))
 (.seq (.ops [⟨(some 16),none,.mov (.tmp 0)⟩,
   ⟨(some 17),none,.bin .add (.const (.int .i64 48)) (.tmp 16)⟩,
   ⟨(some 18),none,.convI .u8 (.tmp 17)⟩,
   ⟨(some 19),none,.mkRow 5 1 1 [(.int .u8 0)] [(0,1,(.tmp 18))]⟩,
   ⟨(some 20),none,.b2s (.tmp 19)⟩,
   ⟨(some 21),none,.mov (.tmp 3)⟩,
   ⟨(some 22),none,.bin .add (.tmp 20) (.tmp 21)⟩,
   ⟨(some 2),none,.mov (.tmp 22)⟩] [2])
 (.ret)))),
 23,[(2,none)],true⟩
theorem ok38:FunOK Tryd.prog 38 c38:=⟨⟨Tryd.f38,_,c38.code,Tryd.func38,rfl,by kernel_rfl,rfl,by kernel_rfl,by kernel_rfl⟩⟩
/- slices.ContainsFunc[[]int,int] -/
def c39:AFun:=⟨
 .seq (.ops [⟨(some 4),none,.mov (.const (.bool false))⟩] [0,1])
 (.seq (.ops [⟨(some 5),none,.mov (.tmp 0)⟩,
   ⟨(some 6),none,.mov (.tmp 1)⟩,
   ⟨(some 7),none,.callF 55 [(.tmp 5),(.tmp 6)]⟩,
   ⟨(some 8),none,.bin .geq (.tmp 7) (.const (.int .i64 0))⟩,
   ⟨(some 4),none,.mov (.tmp 8)⟩] [4])
 (.ret)),
 9,[(4,none)],true⟩
theorem ok39:FunOK Tryd.prog 39 c39:=⟨⟨Tryd.f39,_,c39.code,Tryd.func39,rfl,by kernel_rfl,rfl,by kernel_rfl,by kernel_rfl⟩⟩
/- raddle/warp.Check$1 -/
def c40:AFun:=⟨
 .seq (.ops [⟨(some 2),none,.mov (.const (.bool false))⟩] [0])
 (.seq (.ops [⟨(some 3),none,.mov (.tmp 0)⟩,
   ⟨(some 4),none,.callF 41 [(.tmp 3)]⟩,
   ⟨(some 5),none,.un .not (.tmp 4)⟩,
   ⟨(some 2),none,.mov (.tmp 5)⟩] [2])
 (.ret)),
 6,[(2,none)],true⟩
theorem ok40:FunOK Tryd.prog 40 c40:=⟨⟨Tryd.f40,_,c40.code,Tryd.func40,rfl,by kernel_rfl,rfl,by kernel_rfl,by kernel_rfl⟩⟩
/- raddle/warp.colour -/
def c41:AFun:=⟨
 .seq (.ops [⟨(some 2),none,.mov (.const (.bool false))⟩] [0])
 (.seq (.ops [⟨(some 3),none,.mov (.tmp 0)⟩,
   ⟨(some 4),none,.bin .geq (.tmp 3) (.const (.int .i64 0))⟩,
   ⟨(some 5),none,.mov (.tmp 4)⟩,
   ⟨(some 6),(some (5,true)),.mov (.tmp 0)⟩,
   ⟨(some 7),(some (5,true)),.bin .leq (.tmp 6) (.const (.int .i64 15))⟩,
   ⟨(some 8),none,.pick (.tmp 5) (.tmp 7) (.const (.bool false))⟩,
   ⟨(some 2),none,.mov (.tmp 8)⟩] [2])
 (.ret)),
 9,[(2,none)],true⟩
theorem ok41:FunOK Tryd.prog 41 c41:=⟨⟨Tryd.f41,_,c41.code,Tryd.func41,rfl,by kernel_rfl,rfl,by kernel_rfl,by kernel_rfl⟩⟩
/- slices.AppendSeq[[]raddle/api.Run,raddle/api.Run] -/
def c51:AFun:=⟨
 .seq (.ops [⟨(some 2),none,.box 24 (.tmp 0)⟩,
   ⟨(some 4),none,.mov (.const (.slice none 0 0))⟩] [1,2,4])
 (.seq (.seq (.ops [⟨(some 6),none,.mov (.tmp 1)⟩] [2,4,6])
 (.block 0
  (.rangeF (.tmp 6) [7] [2,4]
   (.ops [⟨(some 5),none,.alloc 58 [(2,(.int .i64 0))]⟩,
     ⟨none,none,.store 2 (.tmp 5) (.tmp 7)⟩] [2,5])
   (.block 1
    (.ops [⟨(some 8),none,.load none (.tmp 2)⟩,
      ⟨(some 9),none,.load (some 2) (.tmp 5)⟩,
      ⟨(some 10),none,.mkRow 58 2 1 [(.int .i64 0),(.int .i64 0)] [(0,2,(.tmp 9))]⟩,
      ⟨(some 11),none,.app 58 2 16 (.tmp 8) (.tmp 10)⟩,
      ⟨none,none,.store 1 (.tmp 2) (.tmp 11)⟩] [])))))
 (.seq (.ops [⟨(some 12),none,.load none (.tmp 2)⟩,
   ⟨(some 4),none,.mov (.tmp 12)⟩] [4])
 (.ret))),
 13,[(4,none)],false⟩
theorem ok51:FunOK Tryd.prog 51 c51:=⟨⟨Tryd.f51,_,c51.code,Tryd.func51,rfl,by kernel_rfl,rfl,by kernel_rfl,by kernel_rfl⟩⟩
/- raddle/warp.runs$1 -/
def c52l0:AC:=
 .seq (.seq (.draw [⟨(some 11),none,.mov (.tmp 4)⟩,
        ⟨(some 12),none,.load none (.tmp 1)⟩,
        ⟨(some 13),none,.len false (.tmp 12)⟩,
        ⟨(some 14),none,.bin .lss (.tmp 11) (.tmp 13)⟩,
        ⟨(some 15),none,.mov (.tmp 14)⟩,
        ⟨(some 16),(some (15,true)),.load none (.tmp 1)⟩,
        ⟨(some 17),(some (15,true)),.mov (.tmp 4)⟩,
        ⟨(some 18),(some (15,true)),.idxS 1 (.tmp 16) (.tmp 17)⟩,
        ⟨(some 19),(some (15,true)),.load none (.tmp 18)⟩,
        ⟨(some 20),(some (15,true)),.load none (.tmp 1)⟩,
        ⟨(some 21),(some (15,true)),.mov (.tmp 3)⟩,
        ⟨(some 22),(some (15,true)),.idxS 1 (.tmp 20) (.tmp 21)⟩,
        ⟨(some 23),(some (15,true)),.load none (.tmp 22)⟩] [⟨(some 24),(some (15,true)),.bin .eql (.tmp 19) (.tmp 23)⟩,
        ⟨(some 25),none,.pick (.tmp 15) (.tmp 24) (.const (.bool false))⟩] [[],[],[],[],[],[],[],[],[],[],[],[],[]] [0,1,3,4,25])
      (.cond (.tmp 25)
       (.skip)
       (.exit 2)))
      (.block 3
       (.ops [⟨(some 26),none,.mov (.tmp 4)⟩,
         ⟨(some 27),none,.bin .add (.tmp 26) (.const (.int .i64 1))⟩,
         ⟨(some 4),none,.mov (.tmp 27)⟩] [0,1,3,4]))
def c52l1:AC:=
 .seq (.seq (.ops [⟨(some 5),none,.mov (.tmp 3)⟩,
     ⟨(some 6),none,.load none (.tmp 1)⟩,
     ⟨(some 7),none,.len false (.tmp 6)⟩,
     ⟨(some 8),none,.bin .lss (.tmp 5) (.tmp 7)⟩] [0,1,3,8])
   (.cond (.tmp 8)
    (.skip)
    (.exit 0)))
   (.block 1
    (.seq (.ops [⟨(some 9),none,.mov (.tmp 3)⟩,
      ⟨(some 10),none,.bin .add (.tmp 9) (.const (.int .i64 1))⟩,
      ⟨(some 4),none,.mov (.tmp 10)⟩] [0,1,3,4])
    (.seq (.block 2
     (.loop [0,1,3,4]
      c52l0))
    (.seq (.seq (.ops [⟨(some 28),none,.mov (.tmp 0)⟩,
      ⟨(some 29),none,.mov (.tmp 4)⟩,
      ⟨(some 30),none,.mov (.tmp 3)⟩,
      ⟨(some 31),none,.bin .sub (.tmp 29) (.tmp 30)⟩,
      ⟨(some 32),none,.load none (.tmp 1)⟩,
      ⟨(some 33),none,.mov (.tmp 3)⟩,
      ⟨(some 34),none,.idxS 1 (.tmp 32) (.tmp 33)⟩,
      ⟨(some 35),none,.load none (.tmp 34)⟩,
      ⟨(some 36),none,.build [(.int .i64 0),(.int .i64 0)] [(0,1,(.tmp 31)),(1,1,(.tmp 35))]⟩,
      ⟨(some 37),none,.callV (.tmp 28) [(.tmp 36)]⟩,
      ⟨(some 38),none,.un .not (.tmp 37)⟩] [0,1,4,38])
    (.cond (.tmp 38)
     (.ret)
     (.skip)))
    (.ops [⟨(some 39),none,.mov (.tmp 4)⟩,
      ⟨(some 3),none,.mov (.tmp 39)⟩] [0,1,3])))))
def c52:AFun:=⟨
 .seq (.ops [⟨(some 3),none,.mov (.const (.int .i64 0))⟩] [0,1,3])
 (.block 0
  (.loop [0,1,3]
   c52l1)),
 40,[],false⟩
theorem ok52:FunOK Tryd.prog 52 c52:=⟨⟨Tryd.f52,_,c52.code,Tryd.func52,rfl,by kernel_rfl,rfl,by kernel_rfl,by kernel_rfl⟩⟩
/- (*strings.Builder).copyCheck (1 operations that the interpreter lacks) -/
def c53:AFun:=⟨
 .seq (.ops [⟨(some 2),none,.mov (.tmp 0)⟩,
   ⟨(some 3),none,.nilChk (.tmp 2)⟩,
   ⟨(some 4),none,.fldA 0 (.tmp 3)⟩,
   ⟨(some 5),none,.load none (.tmp 4)⟩,
   ⟨(some 6),none,.eqNil 0 false (.tmp 5) (.const (.pointer none))⟩] [0,6])
 (.cond (.tmp 6)
  (.ops [⟨(some 7),none,.mov (.tmp 0)⟩,
    ⟨(some 8),none,.mov (.tmp 0)⟩,
    ⟨(some 9),none,.toUns (.tmp 8)⟩,
    ⟨(some 10),none,.callF 61 [(.tmp 9)]⟩,
    ⟨(some 11),none,.fromUns 66 2 (.tmp 10)⟩,
    ⟨(some 12),none,.nilChk (.tmp 7)⟩,
    ⟨(some 13),none,.fldA 0 (.tmp 12)⟩,
    ⟨none,none,.store 1 (.tmp 13) (.tmp 11)⟩] [])
  (.seq (.ops [⟨(some 14),none,.mov (.tmp 0)⟩,
    ⟨(some 15),none,.nilChk (.tmp 14)⟩,
    ⟨(some 16),none,.fldA 0 (.tmp 15)⟩,
    ⟨(some 17),none,.load none (.tmp 16)⟩,
    ⟨(some 18),none,.mov (.tmp 0)⟩,
    ⟨(some 19),none,.eqPtr true (.tmp 17) (.tmp 18)⟩] [19])
  (.cond (.tmp 19)
   (.bad)
   (.skip)))),
 20,[],false⟩
theorem ok53:FunOK Tryd.prog 53 c53:=⟨⟨Tryd.f53,_,c53.code,Tryd.func53,rfl,by kernel_rfl,rfl,by kernel_rfl,by kernel_rfl⟩⟩
/- internal/strconv.Itoa -/
def c54:AFun:=⟨
 .seq (.ops [⟨(some 2),none,.mov (.const (.string ⟨#[]⟩))⟩] [0])
 (.seq (.ops [⟨(some 3),none,.mov (.tmp 0)⟩,
   ⟨(some 4),none,.callF 62 [(.tmp 3),(.const (.int .i64 10))]⟩,
   ⟨(some 2),none,.mov (.tmp 4)⟩] [2])
 (.ret)),
 5,[(2,none)],true⟩
theorem ok54:FunOK Tryd.prog 54 c54:=⟨⟨Tryd.f54,_,c54.code,Tryd.func54,rfl,by kernel_rfl,rfl,by kernel_rfl,by kernel_rfl⟩⟩
/- slices.IndexFunc[[]int,int] -/
def c55l0:AC:=
 .seq (.ops [⟨(some 9),none,.bin .lss (.tmp 8) (.tmp 7)⟩] [0,1,7,8,9])
   (.seq (.cond (.tmp 9)
    (.skip)
    (.exit 0))
   (.seq (.block 1
    (.seq (.ops [⟨(some 10),none,.mov (.tmp 8)⟩,
      ⟨(some 5),none,.mov (.tmp 10)⟩] [0,1,5,7,8])
    (.seq (.ops [⟨(some 11),none,.mov (.tmp 1)⟩,
      ⟨(some 12),none,.mov (.tmp 0)⟩,
      ⟨(some 13),none,.mov (.tmp 5)⟩,
      ⟨(some 14),none,.idxS 1 (.tmp 12) (.tmp 13)⟩,
      ⟨(some 15),none,.load none (.tmp 14)⟩,
      ⟨(some 16),none,.callV (.tmp 11) [(.tmp 15)]⟩] [0,1,5,7,8,16])
    (.cond (.tmp 16)
     (.seq (.ops [⟨(some 17),none,.mov (.tmp 5)⟩,
       ⟨(some 4),none,.mov (.tmp 17)⟩] [4])
     (.ret))
     (.skip)))))
   (.ops [⟨(some 18),none,.bin .add (.tmp 8) (.const (.int .i64 1))⟩,
     ⟨(some 8),none,.mov (.tmp 18)⟩] [0,1,7,8])))
def c55:AFun:=⟨
 .seq (.ops [⟨(some 4),none,.mov (.const (.int .i64 0))⟩] [0,1])
 (.seq (.seq (.ops [⟨(some 6),none,.mov (.tmp 0)⟩,
   ⟨(some 7),none,.len false (.tmp 6)⟩,
   ⟨(some 8),none,.mov (.const (.int .i64 0))⟩] [0,1,7,8])
 (.block 0
  (.loop [0,1,7,8]
   c55l0)))
 (.seq (.ops [⟨(some 4),none,.mov (.const (.int .i64 (-1)))⟩] [4])
 (.ret))),
 19,[(4,none)],true⟩
theorem ok55:FunOK Tryd.prog 55 c55:=⟨⟨Tryd.f55,_,c55.code,Tryd.func55,rfl,by kernel_rfl,rfl,by kernel_rfl,by kernel_rfl⟩⟩
/- internal/strconv.FormatInt -/
def c62:AFun:=⟨
 .seq (.ops [⟨(some 4),none,.mov (.const (.string ⟨#[]⟩))⟩] [0,1])
 (.seq (.seq (.ops [⟨(some 10),none,.mov (.tmp 1)⟩,
   ⟨(some 11),none,.bin .eql (.tmp 10) (.const (.int .i64 10))⟩] [0,1,11])
 (.cond (.tmp 11)
  (.seq (.seq (.ops [⟨(some 12),none,.mov (.tmp 0)⟩,
    ⟨(some 13),none,.bin .leq (.const (.int .i64 0)) (.tmp 12)⟩,
    ⟨(some 14),none,.mov (.tmp 13)⟩,
    ⟨(some 15),(some (14,true)),.mov (.tmp 0)⟩,
    ⟨(some 16),(some (14,true)),.bin .lss (.tmp 15) (.const (.int .i64 100))⟩,
    ⟨(some 17),none,.pick (.tmp 14) (.tmp 16) (.const (.bool false))⟩] [0,17])
  (.cond (.tmp 17)
   (.seq (.ops [⟨(some 18),none,.mov (.tmp 0)⟩,
     ⟨(some 19),none,.callF 74 [(.tmp 18)]⟩,
     ⟨(some 4),none,.mov (.tmp 19)⟩] [4])
   (.ret))
   (.skip)))
  (.seq (.ops [⟨(some 5),none,.alloc 121 [(24,(.int .u8 0))]⟩] [0,5])
  (.seq (.ops [⟨(some 20),none,.mov (.tmp 0)⟩,
    ⟨(some 21),none,.convI .u64 (.tmp 20)⟩,
    ⟨(some 6),none,.mov (.tmp 21)⟩] [0,5,6])
  (.seq (.seq (.ops [⟨(some 22),none,.mov (.tmp 0)⟩,
    ⟨(some 23),none,.bin .lss (.tmp 22) (.const (.int .i64 0))⟩] [0,5,6,23])
  (.cond (.tmp 23)
   (.ops [⟨(some 24),none,.mov (.tmp 6)⟩,
     ⟨(some 25),none,.un .neg (.tmp 24)⟩,
     ⟨(some 6),none,.mov (.tmp 25)⟩] [0,5,6])
   (.skip)))
  (.seq (.ops [⟨(some 26),none,.mov (.tmp 6)⟩,
    ⟨(some 27),none,.callF 75 [(.tmp 26)]⟩,
    ⟨(some 7),none,.mov (.tmp 27)⟩] [0,5,6,7])
  (.seq (.ops [⟨(some 28),none,.mov (.tmp 7)⟩,
    ⟨(some 29),none,.bin .add (.const (.int .i64 1)) (.tmp 28)⟩,
    ⟨(some 30),none,.slcA 24 1 (.tmp 5) (some (.const (.int .i64 1))) (some (.tmp 29))⟩,
    ⟨(some 31),none,.mov (.tmp 6)⟩,
    ⟨(some 32),none,.callF 76 [(.tmp 30),(.tmp 31)]⟩] [0,5,7])
  (.seq (.seq (.ops [⟨(some 33),none,.mov (.tmp 0)⟩,
    ⟨(some 34),none,.bin .lss (.tmp 33) (.const (.int .i64 0))⟩] [5,7,34])
  (.cond (.tmp 34)
   (.seq (.ops [⟨(some 35),none,.idxA 24 1 (.tmp 5) (.const (.int .i64 0))⟩,
     ⟨none,none,.store 1 (.tmp 35) (.const (.int .u8 45))⟩] [5,7])
   (.seq (.ops [⟨(some 36),none,.mov (.tmp 7)⟩,
     ⟨(some 37),none,.bin .add (.const (.int .i64 1)) (.tmp 36)⟩,
     ⟨(some 38),none,.slcA 24 1 (.tmp 5) none (some (.tmp 37))⟩,
     ⟨(some 39),none,.b2s (.tmp 38)⟩,
     ⟨(some 4),none,.mov (.tmp 39)⟩] [4])
   (.ret)))
   (.skip)))
  (.seq (.ops [⟨(some 40),none,.mov (.tmp 7)⟩,
    ⟨(some 41),none,.bin .add (.const (.int .i64 1)) (.tmp 40)⟩,
    ⟨(some 42),none,.slcA 24 1 (.tmp 5) (some (.const (.int .i64 1))) (some (.tmp 41))⟩,
    ⟨(some 43),none,.b2s (.tmp 42)⟩,
    ⟨(some 4),none,.mov (.tmp 43)⟩] [4])
  (.ret)))))))))
  (.skip)))
 (.seq (.ops [⟨(some 45),none,.mov (.tmp 0)⟩,
   ⟨(some 46),none,.convI .u64 (.tmp 45)⟩,
   ⟨(some 47),none,.mov (.tmp 1)⟩,
   ⟨(some 48),none,.mov (.tmp 0)⟩,
   ⟨(some 49),none,.bin .lss (.tmp 48) (.const (.int .i64 0))⟩,
   ⟨(some 50),none,.callF 77 [(.const (.slice none 0 0)),(.tmp 46),(.tmp 47),(.tmp 49),(.const (.bool false))]⟩,
   ⟨(some 44),none,.mov (.tmp 50)⟩,
   ⟨(some 51),none,.ext (.tmp 44) 0⟩,
   ⟨(some 52),none,.ext (.tmp 44) 1⟩,
   ⟨(some 8),none,.mov (.tmp 51)⟩,
   ⟨(some 9),none,.mov (.tmp 52)⟩] [9])
 (.seq (.ops [⟨(some 53),none,.mov (.tmp 9)⟩,
   ⟨(some 4),none,.mov (.tmp 53)⟩] [4])
 (.ret)))),
 54,[(4,none)],true⟩
theorem ok62:FunOK Tryd.prog 62 c62:=⟨⟨Tryd.f62,_,c62.code,Tryd.func62,rfl,by kernel_rfl,rfl,by kernel_rfl,by kernel_rfl⟩⟩
/- internal/strconv.small -/
def c74:AFun:=⟨
 .seq (.ops [⟨(some 2),none,.mov (.const (.string ⟨#[]⟩))⟩] [0])
 (.seq (.seq (.ops [⟨(some 3),none,.mov (.tmp 0)⟩,
   ⟨(some 4),none,.bin .lss (.tmp 3) (.const (.int .i64 10))⟩] [0,4])
 (.cond (.tmp 4)
  (.seq (.ops [⟨(some 5),none,.mov (.tmp 0)⟩,
    ⟨(some 6),none,.mov (.tmp 0)⟩,
    ⟨(some 7),none,.bin .add (.tmp 6) (.const (.int .i64 1))⟩,
    ⟨(some 8),none,.slcS (.const (.string ⟨#[48,49,50,51,52,53,54,55,56,57,97,98,99,100,101,102,103,104,105,106,107,108,109,110,111,112,113,114,115,116,117,118,119,120,121,122]⟩)) (some (.tmp 5)) (some (.tmp 7))⟩,
    ⟨(some 2),none,.mov (.tmp 8)⟩] [2])
  (.ret))
  (.skip)))
 (.seq (.ops [⟨(some 9),none,.mov (.tmp 0)⟩,
   ⟨(some 10),none,.bin .mul (.tmp 9) (.const (.int .i64 2))⟩,
   ⟨(some 11),none,.mov (.tmp 0)⟩,
   ⟨(some 12),none,.bin .mul (.tmp 11) (.const (.int .i64 2))⟩,
   ⟨(some 13),none,.bin .add (.tmp 12) (.const (.int .i64 2))⟩,
   ⟨(some 14),none,.slcS (.const (.string ⟨#[48,48,48,49,48,50,48,51,48,52,48,53,48,54,48,55,48,56,48,57,49,48,49,49,49,50,49,51,49,52,49,53,49,54,49,55,49,56,49,57,50,48,50,49,50,50,50,51,50,52,50,53,50,54,50,55,50,56,50,57,51,48,51,49,51,50,51,51,51,52,51,53,51,54,51,55,51,56,51,57,52,48,52,49,52,50,52,51,52,52,52,53,52,54,52,55,52,56,52,57,53,48,53,49,53,50,53,51,53,52,53,53,53,54,53,55,53,56,53,57,54,48,54,49,54,50,54,51,54,52,54,53,54,54,54,55,54,56,54,57,55,48,55,49,55,50,55,51,55,52,55,53,55,54,55,55,55,56,55,57,56,48,56,49,56,50,56,51,56,52,56,53,56,54,56,55,56,56,56,57,57,48,57,49,57,50,57,51,57,52,57,53,57,54,57,55,57,56,57,57]⟩)) (some (.tmp 10)) (some (.tmp 13))⟩,
   ⟨(some 2),none,.mov (.tmp 14)⟩] [2])
 (.ret))),
 15,[(2,none)],true⟩
theorem ok74:FunOK Tryd.prog 74 c74:=⟨⟨Tryd.f74,_,c74.code,Tryd.func74,rfl,by kernel_rfl,rfl,by kernel_rfl,by kernel_rfl⟩⟩
/- internal/strconv.numDigits -/
def c75:AFun:=⟨
 .seq (.ops [⟨(some 2),none,.mov (.const (.int .i64 0))⟩] [0])
 (.seq (.ops [⟨(some 4),none,.mov (.tmp 0)⟩,
   ⟨(some 5),none,.callF 87 [(.tmp 4)]⟩,
   ⟨(some 6),none,.callF 86 [(.tmp 5)]⟩,
   ⟨(some 3),none,.mov (.tmp 6)⟩] [0,3])
 (.seq (.ops [⟨(some 7),none,.mov (.tmp 3)⟩,
   ⟨(some 8),none,.mov (.tmp 0)⟩,
   ⟨(some 9),none,.mov (.tmp 3)⟩,
   ⟨(some 10),none,.idxA 20 1 (.global 3) (.tmp 9)⟩,
   ⟨(some 11),none,.load none (.tmp 10)⟩,
   ⟨(some 12),none,.bin .geq (.tmp 8) (.tmp 11)⟩,
   ⟨(some 13),none,.callF 88 [(.tmp 12)]⟩,
   ⟨(some 14),none,.bin .add (.tmp 7) (.tmp 13)⟩,
   ⟨(some 2),none,.mov (.tmp 14)⟩] [2])
 (.ret))),
 15,[(2,none)],true⟩
theorem ok75:FunOK Tryd.prog 75 c75:=⟨⟨Tryd.f75,_,c75.code,Tryd.func75,rfl,by kernel_rfl,rfl,by kernel_rfl,by kernel_rfl⟩⟩
/- internal/strconv.formatBase10 -/
def c76l0:AC:=
 .seq (.seq (.ops [⟨(some 19),none,.mov (.tmp 4)⟩,
     ⟨(some 20),none,.bin .geq (.tmp 19) (.const (.int .i64 8))⟩] [0,1,4,20])
   (.cond (.tmp 20)
    (.skip)
    (.exit 0)))
   (.block 1
    (.seq (.ops [⟨(some 21),none,.mov (.tmp 1)⟩,
      ⟨(some 22),none,.bin .rem (.tmp 21) (.const (.int .u64 100000000))⟩,
      ⟨(some 23),none,.convI .u32 (.tmp 22)⟩,
      ⟨(some 5),none,.mov (.tmp 23)⟩] [0,1,4,5])
    (.seq (.ops [⟨(some 24),none,.mov (.tmp 1)⟩,
      ⟨(some 25),none,.bin .quo (.tmp 24) (.const (.int .u64 100000000))⟩,
      ⟨(some 1),none,.mov (.tmp 25)⟩] [0,1,4,5])
    (.seq (.ops [⟨(some 26),none,.mov (.tmp 5)⟩,
      ⟨(some 27),none,.bin .quo (.tmp 26) (.const (.int .u32 10000))⟩,
      ⟨(some 28),none,.mov (.tmp 5)⟩,
      ⟨(some 29),none,.bin .rem (.tmp 28) (.const (.int .u32 10000))⟩,
      ⟨(some 6),none,.mov (.tmp 27)⟩,
      ⟨(some 7),none,.mov (.tmp 29)⟩] [0,1,4,6,7])
    (.seq (.ops [⟨(some 30),none,.mov (.tmp 7)⟩,
      ⟨(some 31),none,.bin .quo (.tmp 30) (.const (.int .u32 100))⟩,
      ⟨(some 32),none,.bin .mul (.tmp 31) (.const (.int .u32 2))⟩,
      ⟨(some 33),none,.mov (.tmp 7)⟩,
      ⟨(some 34),none,.bin .rem (.tmp 33) (.const (.int .u32 100))⟩,
      ⟨(some 35),none,.bin .mul (.tmp 34) (.const (.int .u32 2))⟩,
      ⟨(some 8),none,.mov (.tmp 32)⟩,
      ⟨(some 9),none,.mov (.tmp 35)⟩] [0,1,4,6,8,9])
    (.seq (.ops [⟨(some 36),none,.mov (.tmp 6)⟩,
      ⟨(some 37),none,.bin .quo (.tmp 36) (.const (.int .u32 100))⟩,
      ⟨(some 38),none,.bin .mul (.tmp 37) (.const (.int .u32 2))⟩,
      ⟨(some 39),none,.mov (.tmp 6)⟩,
      ⟨(some 40),none,.bin .rem (.tmp 39) (.const (.int .u32 100))⟩,
      ⟨(some 41),none,.bin .mul (.tmp 40) (.const (.int .u32 2))⟩,
      ⟨(some 10),none,.mov (.tmp 38)⟩,
      ⟨(some 11),none,.mov (.tmp 41)⟩] [0,1,4,8,9,10,11])
    (.seq (.drawW [⟨⟨(some 42),none,.mov (.tmp 0)⟩,[],none⟩,
      ⟨⟨(some 43),none,.mov (.tmp 4)⟩,[0],none⟩,
      ⟨⟨(some 44),none,.bin .sub (.tmp 43) (.const (.int .i64 1))⟩,[0],none⟩,
      ⟨⟨(some 45),none,.mov (.tmp 0)⟩,[0,1,2],none⟩,
      ⟨⟨(some 46),none,.mov (.tmp 4)⟩,[0,1,2,3],none⟩,
      ⟨⟨(some 47),none,.bin .sub (.tmp 46) (.const (.int .i64 2))⟩,[0,1,2,3],none⟩,
      ⟨⟨(some 48),none,.mov (.tmp 9)⟩,[0,1,2,3,4,5],none⟩,
      ⟨⟨(some 49),none,.bin .add (.tmp 48) (.const (.int .u32 1))⟩,[0,1,2,3,4,5],none⟩,
      ⟨⟨(some 50),none,.idxStr (.const (.string ⟨#[48,48,48,49,48,50,48,51,48,52,48,53,48,54,48,55,48,56,48,57,49,48,49,49,49,50,49,51,49,52,49,53,49,54,49,55,49,56,49,57,50,48,50,49,50,50,50,51,50,52,50,53,50,54,50,55,50,56,50,57,51,48,51,49,51,50,51,51,51,52,51,53,51,54,51,55,51,56,51,57,52,48,52,49,52,50,52,51,52,52,52,53,52,54,52,55,52,56,52,57,53,48,53,49,53,50,53,51,53,52,53,53,53,54,53,55,53,56,53,57,54,48,54,49,54,50,54,51,54,52,54,53,54,54,54,55,54,56,54,57,55,48,55,49,55,50,55,51,55,52,55,53,55,54,55,55,55,56,55,57,56,48,56,49,56,50,56,51,56,52,56,53,56,54,56,55,56,56,56,57,57,48,57,49,57,50,57,51,57,52,57,53,57,54,57,55,57,56,57,57]⟩)) (.tmp 49)⟩,[0,1,2,3,4,5],none⟩,
      ⟨⟨(some 51),none,.mov (.tmp 9)⟩,[0,1,2,3,4,5,6,7,8],none⟩,
      ⟨⟨(some 52),none,.idxStr (.const (.string ⟨#[48,48,48,49,48,50,48,51,48,52,48,53,48,54,48,55,48,56,48,57,49,48,49,49,49,50,49,51,49,52,49,53,49,54,49,55,49,56,49,57,50,48,50,49,50,50,50,51,50,52,50,53,50,54,50,55,50,56,50,57,51,48,51,49,51,50,51,51,51,52,51,53,51,54,51,55,51,56,51,57,52,48,52,49,52,50,52,51,52,52,52,53,52,54,52,55,52,56,52,57,53,48,53,49,53,50,53,51,53,52,53,53,53,54,53,55,53,56,53,57,54,48,54,49,54,50,54,51,54,52,54,53,54,54,54,55,54,56,54,57,55,48,55,49,55,50,55,51,55,52,55,53,55,54,55,55,55,56,55,57,56,48,56,49,56,50,56,51,56,52,56,53,56,54,56,55,56,56,56,57,57,48,57,49,57,50,57,51,57,52,57,53,57,54,57,55,57,56,57,57]⟩)) (.tmp 51)⟩,[0,1,2,3,4,5,6,7,8],none⟩,
      ⟨⟨(some 53),none,.idxS 1 (.tmp 42) (.tmp 44)⟩,[3,4,5,9,10],none⟩,
      ⟨⟨none,none,.store 1 (.tmp 53) (.tmp 50)⟩,[3,4,5,9,10],none⟩] [⟨(some 54),none,.idxS 1 (.tmp 45) (.tmp 47)⟩,
      ⟨none,none,.store 1 (.tmp 54) (.tmp 52)⟩] [0,1,4,8,10,11])
    (.seq (.drawW [⟨⟨(some 55),none,.mov (.tmp 0)⟩,[],none⟩,
      ⟨⟨(some 56),none,.mov (.tmp 4)⟩,[0],none⟩,
      ⟨⟨(some 57),none,.bin .sub (.tmp 56) (.const (.int .i64 3))⟩,[0],none⟩,
      ⟨⟨(some 58),none,.mov (.tmp 0)⟩,[0,1,2],none⟩,
      ⟨⟨(some 59),none,.mov (.tmp 4)⟩,[0,1,2,3],none⟩,
      ⟨⟨(some 60),none,.bin .sub (.tmp 59) (.const (.int .i64 4))⟩,[0,1,2,3],none⟩,
      ⟨⟨(some 61),none,.mov (.tmp 8)⟩,[0,1,2,3,4,5],none⟩,
      ⟨⟨(some 62),none,.bin .add (.tmp 61) (.const (.int .u32 1))⟩,[0,1,2,3,4,5],none⟩,
      ⟨⟨(some 63),none,.idxStr (.const (.string ⟨#[48,48,48,49,48,50,48,51,48,52,48,53,48,54,48,55,48,56,48,57,49,48,49,49,49,50,49,51,49,52,49,53,49,54,49,55,49,56,49,57,50,48,50,49,50,50,50,51,50,52,50,53,50,54,50,55,50,56,50,57,51,48,51,49,51,50,51,51,51,52,51,53,51,54,51,55,51,56,51,57,52,48,52,49,52,50,52,51,52,52,52,53,52,54,52,55,52,56,52,57,53,48,53,49,53,50,53,51,53,52,53,53,53,54,53,55,53,56,53,57,54,48,54,49,54,50,54,51,54,52,54,53,54,54,54,55,54,56,54,57,55,48,55,49,55,50,55,51,55,52,55,53,55,54,55,55,55,56,55,57,56,48,56,49,56,50,56,51,56,52,56,53,56,54,56,55,56,56,56,57,57,48,57,49,57,50,57,51,57,52,57,53,57,54,57,55,57,56,57,57]⟩)) (.tmp 62)⟩,[0,1,2,3,4,5],none⟩,
      ⟨⟨(some 64),none,.mov (.tmp 8)⟩,[0,1,2,3,4,5,6,7,8],none⟩,
      ⟨⟨(some 65),none,.idxStr (.const (.string ⟨#[48,48,48,49,48,50,48,51,48,52,48,53,48,54,48,55,48,56,48,57,49,48,49,49,49,50,49,51,49,52,49,53,49,54,49,55,49,56,49,57,50,48,50,49,50,50,50,51,50,52,50,53,50,54,50,55,50,56,50,57,51,48,51,49,51,50,51,51,51,52,51,53,51,54,51,55,51,56,51,57,52,48,52,49,52,50,52,51,52,52,52,53,52,54,52,55,52,56,52,57,53,48,53,49,53,50,53,51,53,52,53,53,53,54,53,55,53,56,53,57,54,48,54,49,54,50,54,51,54,52,54,53,54,54,54,55,54,56,54,57,55,48,55,49,55,50,55,51,55,52,55,53,55,54,55,55,55,56,55,57,56,48,56,49,56,50,56,51,56,52,56,53,56,54,56,55,56,56,56,57,57,48,57,49,57,50,57,51,57,52,57,53,57,54,57,55,57,56,57,57]⟩)) (.tmp 64)⟩,[0,1,2,3,4,5,6,7,8],none⟩,
      ⟨⟨(some 66),none,.idxS 1 (.tmp 55) (.tmp 57)⟩,[3,4,5,9,10],none⟩,
      ⟨⟨none,none,.store 1 (.tmp 66) (.tmp 63)⟩,[3,4,5,9,10],none⟩] [⟨(some 67),none,.idxS 1 (.tmp 58) (.tmp 60)⟩,
      ⟨none,none,.store 1 (.tmp 67) (.tmp 65)⟩] [0,1,4,10,11])
    (.seq (.drawW [⟨⟨(some 68),none,.mov (.tmp 0)⟩,[],none⟩,
      ⟨⟨(some 69),none,.mov (.tmp 4)⟩,[0],none⟩,
      ⟨⟨(some 70),none,.bin .sub (.tmp 69) (.const (.int .i64 5))⟩,[0],none⟩,
      ⟨⟨(some 71),none,.mov (.tmp 0)⟩,[0,1,2],none⟩,
      ⟨⟨(some 72),none,.mov (.tmp 4)⟩,[0,1,2,3],none⟩,
      ⟨⟨(some 73),none,.bin .sub (.tmp 72) (.const (.int .i64 6))⟩,[0,1,2,3],none⟩,
      ⟨⟨(some 74),none,.mov (.tmp 11)⟩,[0,1,2,3,4,5],none⟩,
      ⟨⟨(some 75),none,.bin .add (.tmp 74) (.const (.int .u32 1))⟩,[0,1,2,3,4,5],none⟩,
      ⟨⟨(some 76),none,.idxStr (.const (.string ⟨#[48,48,48,49,48,50,48,51,48,52,48,53,48,54,48,55,48,56,48,57,49,48,49,49,49,50,49,51,49,52,49,53,49,54,49,55,49,56,49,57,50,48,50,49,50,50,50,51,50,52,50,53,50,54,50,55,50,56,50,57,51,48,51,49,51,50,51,51,51,52,51,53,51,54,51,55,51,56,51,57,52,48,52,49,52,50,52,51,52,52,52,53,52,54,52,55,52,56,52,57,53,48,53,49,53,50,53,51,53,52,53,53,53,54,53,55,53,56,53,57,54,48,54,49,54,50,54,51,54,52,54,53,54,54,54,55,54,56,54,57,55,48,55,49,55,50,55,51,55,52,55,53,55,54,55,55,55,56,55,57,56,48,56,49,56,50,56,51,56,52,56,53,56,54,56,55,56,56,56,57,57,48,57,49,57,50,57,51,57,52,57,53,57,54,57,55,57,56,57,57]⟩)) (.tmp 75)⟩,[0,1,2,3,4,5],none⟩,
      ⟨⟨(some 77),none,.mov (.tmp 11)⟩,[0,1,2,3,4,5,6,7,8],none⟩,
      ⟨⟨(some 78),none,.idxStr (.const (.string ⟨#[48,48,48,49,48,50,48,51,48,52,48,53,48,54,48,55,48,56,48,57,49,48,49,49,49,50,49,51,49,52,49,53,49,54,49,55,49,56,49,57,50,48,50,49,50,50,50,51,50,52,50,53,50,54,50,55,50,56,50,57,51,48,51,49,51,50,51,51,51,52,51,53,51,54,51,55,51,56,51,57,52,48,52,49,52,50,52,51,52,52,52,53,52,54,52,55,52,56,52,57,53,48,53,49,53,50,53,51,53,52,53,53,53,54,53,55,53,56,53,57,54,48,54,49,54,50,54,51,54,52,54,53,54,54,54,55,54,56,54,57,55,48,55,49,55,50,55,51,55,52,55,53,55,54,55,55,55,56,55,57,56,48,56,49,56,50,56,51,56,52,56,53,56,54,56,55,56,56,56,57,57,48,57,49,57,50,57,51,57,52,57,53,57,54,57,55,57,56,57,57]⟩)) (.tmp 77)⟩,[0,1,2,3,4,5,6,7,8],none⟩,
      ⟨⟨(some 79),none,.idxS 1 (.tmp 68) (.tmp 70)⟩,[3,4,5,9,10],none⟩,
      ⟨⟨none,none,.store 1 (.tmp 79) (.tmp 76)⟩,[3,4,5,9,10],none⟩] [⟨(some 80),none,.idxS 1 (.tmp 71) (.tmp 73)⟩,
      ⟨none,none,.store 1 (.tmp 80) (.tmp 78)⟩] [0,1,4,10])
    (.seq (.drawW [⟨⟨(some 81),none,.mov (.tmp 0)⟩,[],none⟩,
      ⟨⟨(some 82),none,.mov (.tmp 4)⟩,[0],none⟩,
      ⟨⟨(some 83),none,.bin .sub (.tmp 82) (.const (.int .i64 7))⟩,[0],none⟩,
      ⟨⟨(some 84),none,.mov (.tmp 0)⟩,[0,1,2],none⟩,
      ⟨⟨(some 85),none,.mov (.tmp 4)⟩,[0,1,2,3],none⟩,
      ⟨⟨(some 86),none,.bin .sub (.tmp 85) (.const (.int .i64 8))⟩,[0,1,2,3],none⟩,
      ⟨⟨(some 87),none,.mov (.tmp 10)⟩,[0,1,2,3,4,5],none⟩,
      ⟨⟨(some 88),none,.bin .add (.tmp 87) (.const (.int .u32 1))⟩,[0,1,2,3,4,5],none⟩,
      ⟨⟨(some 89),none,.idxStr (.const (.string ⟨#[48,48,48,49,48,50,48,51,48,52,48,53,48,54,48,55,48,56,48,57,49,48,49,49,49,50,49,51,49,52,49,53,49,54,49,55,49,56,49,57,50,48,50,49,50,50,50,51,50,52,50,53,50,54,50,55,50,56,50,57,51,48,51,49,51,50,51,51,51,52,51,53,51,54,51,55,51,56,51,57,52,48,52,49,52,50,52,51,52,52,52,53,52,54,52,55,52,56,52,57,53,48,53,49,53,50,53,51,53,52,53,53,53,54,53,55,53,56,53,57,54,48,54,49,54,50,54,51,54,52,54,53,54,54,54,55,54,56,54,57,55,48,55,49,55,50,55,51,55,52,55,53,55,54,55,55,55,56,55,57,56,48,56,49,56,50,56,51,56,52,56,53,56,54,56,55,56,56,56,57,57,48,57,49,57,50,57,51,57,52,57,53,57,54,57,55,57,56,57,57]⟩)) (.tmp 88)⟩,[0,1,2,3,4,5],none⟩,
      ⟨⟨(some 90),none,.mov (.tmp 10)⟩,[0,1,2,3,4,5,6,7,8],none⟩,
      ⟨⟨(some 91),none,.idxStr (.const (.string ⟨#[48,48,48,49,48,50,48,51,48,52,48,53,48,54,48,55,48,56,48,57,49,48,49,49,49,50,49,51,49,52,49,53,49,54,49,55,49,56,49,57,50,48,50,49,50,50,50,51,50,52,50,53,50,54,50,55,50,56,50,57,51,48,51,49,51,50,51,51,51,52,51,53,51,54,51,55,51,56,51,57,52,48,52,49,52,50,52,51,52,52,52,53,52,54,52,55,52,56,52,57,53,48,53,49,53,50,53,51,53,52,53,53,53,54,53,55,53,56,53,57,54,48,54,49,54,50,54,51,54,52,54,53,54,54,54,55,54,56,54,57,55,48,55,49,55,50,55,51,55,52,55,53,55,54,55,55,55,56,55,57,56,48,56,49,56,50,56,51,56,52,56,53,56,54,56,55,56,56,56,57,57,48,57,49,57,50,57,51,57,52,57,53,57,54,57,55,57,56,57,57]⟩)) (.tmp 90)⟩,[0,1,2,3,4,5,6,7,8],none⟩,
      ⟨⟨(some 92),none,.idxS 1 (.tmp 81) (.tmp 83)⟩,[3,4,5,9,10],none⟩,
      ⟨⟨none,none,.store 1 (.tmp 92) (.tmp 89)⟩,[3,4,5,9,10],none⟩] [⟨(some 93),none,.idxS 1 (.tmp 84) (.tmp 86)⟩,
      ⟨none,none,.store 1 (.tmp 93) (.tmp 91)⟩] [0,1,4])
    (.ops [⟨(some 94),none,.mov (.tmp 4)⟩,
      ⟨(some 95),none,.bin .sub (.tmp 94) (.const (.int .i64 8))⟩,
      ⟨(some 4),none,.mov (.tmp 95)⟩] [0,1,4])))))))))))
def c76:AFun:=⟨
 .seq (.ops [⟨(some 17),none,.mov (.tmp 0)⟩,
   ⟨(some 18),none,.len false (.tmp 17)⟩,
   ⟨(some 4),none,.mov (.tmp 18)⟩] [0,1,4])
 (.seq (.block 0
  (.loop [0,1,4]
   c76l0))
 (.seq (.ops [⟨(some 96),none,.mov (.tmp 1)⟩,
   ⟨(some 97),none,.convI .u32 (.tmp 96)⟩,
   ⟨(some 12),none,.mov (.tmp 97)⟩] [0,4,12])
 (.seq (.seq (.ops [⟨(some 98),none,.mov (.tmp 4)⟩,
   ⟨(some 99),none,.bin .geq (.tmp 98) (.const (.int .i64 4))⟩] [0,4,12,99])
 (.cond (.tmp 99)
  (.seq (.ops [⟨(some 100),none,.mov (.tmp 12)⟩,
    ⟨(some 101),none,.bin .rem (.tmp 100) (.const (.int .u32 10000))⟩,
    ⟨(some 13),none,.mov (.tmp 101)⟩] [0,4,12,13])
  (.seq (.ops [⟨(some 102),none,.mov (.tmp 12)⟩,
    ⟨(some 103),none,.bin .quo (.tmp 102) (.const (.int .u32 10000))⟩,
    ⟨(some 12),none,.mov (.tmp 103)⟩] [0,4,12,13])
  (.seq (.ops [⟨(some 104),none,.mov (.tmp 13)⟩,
    ⟨(some 105),none,.bin .quo (.tmp 104) (.const (.int .u32 100))⟩,
    ⟨(some 106),none,.bin .mul (.tmp 105) (.const (.int .u32 2))⟩,
    ⟨(some 107),none,.mov (.tmp 13)⟩,
    ⟨(some 108),none,.bin .rem (.tmp 107) (.const (.int .u32 100))⟩,
    ⟨(some 109),none,.bin .mul (.tmp 108) (.const (.int .u32 2))⟩,
    ⟨(some 14),none,.mov (.tmp 106)⟩,
    ⟨(some 15),none,.mov (.tmp 109)⟩] [0,4,12,14,15])
  (.seq (.drawW [⟨⟨(some 110),none,.mov (.tmp 0)⟩,[],none⟩,
    ⟨⟨(some 111),none,.mov (.tmp 4)⟩,[0],none⟩,
    ⟨⟨(some 112),none,.bin .sub (.tmp 111) (.const (.int .i64 1))⟩,[0],none⟩,
    ⟨⟨(some 113),none,.mov (.tmp 0)⟩,[0,1,2],none⟩,
    ⟨⟨(some 114),none,.mov (.tmp 4)⟩,[0,1,2,3],none⟩,
    ⟨⟨(some 115),none,.bin .sub (.tmp 114) (.const (.int .i64 2))⟩,[0,1,2,3],none⟩,
    ⟨⟨(some 116),none,.mov (.tmp 15)⟩,[0,1,2,3,4,5],none⟩,
    ⟨⟨(some 117),none,.bin .add (.tmp 116) (.const (.int .u32 1))⟩,[0,1,2,3,4,5],none⟩,
    ⟨⟨(some 118),none,.idxStr (.const (.string ⟨#[48,48,48,49,48,50,48,51,48,52,48,53,48,54,48,55,48,56,48,57,49,48,49,49,49,50,49,51,49,52,49,53,49,54,49,55,49,56,49,57,50,48,50,49,50,50,50,51,50,52,50,53,50,54,50,55,50,56,50,57,51,48,51,49,51,50,51,51,51,52,51,53,51,54,51,55,51,56,51,57,52,48,52,49,52,50,52,51,52,52,52,53,52,54,52,55,52,56,52,57,53,48,53,49,53,50,53,51,53,52,53,53,53,54,53,55,53,56,53,57,54,48,54,49,54,50,54,51,54,52,54,53,54,54,54,55,54,56,54,57,55,48,55,49,55,50,55,51,55,52,55,53,55,54,55,55,55,56,55,57,56,48,56,49,56,50,56,51,56,52,56,53,56,54,56,55,56,56,56,57,57,48,57,49,57,50,57,51,57,52,57,53,57,54,57,55,57,56,57,57]⟩)) (.tmp 117)⟩,[0,1,2,3,4,5],none⟩,
    ⟨⟨(some 119),none,.mov (.tmp 15)⟩,[0,1,2,3,4,5,6,7,8],none⟩,
    ⟨⟨(some 120),none,.idxStr (.const (.string ⟨#[48,48,48,49,48,50,48,51,48,52,48,53,48,54,48,55,48,56,48,57,49,48,49,49,49,50,49,51,49,52,49,53,49,54,49,55,49,56,49,57,50,48,50,49,50,50,50,51,50,52,50,53,50,54,50,55,50,56,50,57,51,48,51,49,51,50,51,51,51,52,51,53,51,54,51,55,51,56,51,57,52,48,52,49,52,50,52,51,52,52,52,53,52,54,52,55,52,56,52,57,53,48,53,49,53,50,53,51,53,52,53,53,53,54,53,55,53,56,53,57,54,48,54,49,54,50,54,51,54,52,54,53,54,54,54,55,54,56,54,57,55,48,55,49,55,50,55,51,55,52,55,53,55,54,55,55,55,56,55,57,56,48,56,49,56,50,56,51,56,52,56,53,56,54,56,55,56,56,56,57,57,48,57,49,57,50,57,51,57,52,57,53,57,54,57,55,57,56,57,57]⟩)) (.tmp 119)⟩,[0,1,2,3,4,5,6,7,8],none⟩,
    ⟨⟨(some 121),none,.idxS 1 (.tmp 110) (.tmp 112)⟩,[3,4,5,9,10],none⟩,
    ⟨⟨none,none,.store 1 (.tmp 121) (.tmp 118)⟩,[3,4,5,9,10],none⟩] [⟨(some 122),none,.idxS 1 (.tmp 113) (.tmp 115)⟩,
    ⟨none,none,.store 1 (.tmp 122) (.tmp 120)⟩] [0,4,12,14])
  (.seq (.drawW [⟨⟨(some 123),none,.mov (.tmp 0)⟩,[],none⟩,
    ⟨⟨(some 124),none,.mov (.tmp 4)⟩,[0],none⟩,
    ⟨⟨(some 125),none,.bin .sub (.tmp 124) (.const (.int .i64 3))⟩,[0],none⟩,
    ⟨⟨(some 126),none,.mov (.tmp 0)⟩,[0,1,2],none⟩,
    ⟨⟨(some 127),none,.mov (.tmp 4)⟩,[0,1,2,3],none⟩,
    ⟨⟨(some 128),none,.bin .sub (.tmp 127) (.const (.int .i64 4))⟩,[0,1,2,3],none⟩,
    ⟨⟨(some 129),none,.mov (.tmp 14)⟩,[0,1,2,3,4,5],none⟩,
    ⟨⟨(some 130),none,.bin .add (.tmp 129) (.const (.int .u32 1))⟩,[0,1,2,3,4,5],none⟩,
    ⟨⟨(some 131),none,.idxStr (.const (.string ⟨#[48,48,48,49,48,50,48,51,48,52,48,53,48,54,48,55,48,56,48,57,49,48,49,49,49,50,49,51,49,52,49,53,49,54,49,55,49,56,49,57,50,48,50,49,50,50,50,51,50,52,50,53,50,54,50,55,50,56,50,57,51,48,51,49,51,50,51,51,51,52,51,53,51,54,51,55,51,56,51,57,52,48,52,49,52,50,52,51,52,52,52,53,52,54,52,55,52,56,52,57,53,48,53,49,53,50,53,51,53,52,53,53,53,54,53,55,53,56,53,57,54,48,54,49,54,50,54,51,54,52,54,53,54,54,54,55,54,56,54,57,55,48,55,49,55,50,55,51,55,52,55,53,55,54,55,55,55,56,55,57,56,48,56,49,56,50,56,51,56,52,56,53,56,54,56,55,56,56,56,57,57,48,57,49,57,50,57,51,57,52,57,53,57,54,57,55,57,56,57,57]⟩)) (.tmp 130)⟩,[0,1,2,3,4,5],none⟩,
    ⟨⟨(some 132),none,.mov (.tmp 14)⟩,[0,1,2,3,4,5,6,7,8],none⟩,
    ⟨⟨(some 133),none,.idxStr (.const (.string ⟨#[48,48,48,49,48,50,48,51,48,52,48,53,48,54,48,55,48,56,48,57,49,48,49,49,49,50,49,51,49,52,49,53,49,54,49,55,49,56,49,57,50,48,50,49,50,50,50,51,50,52,50,53,50,54,50,55,50,56,50,57,51,48,51,49,51,50,51,51,51,52,51,53,51,54,51,55,51,56,51,57,52,48,52,49,52,50,52,51,52,52,52,53,52,54,52,55,52,56,52,57,53,48,53,49,53,50,53,51,53,52,53,53,53,54,53,55,53,56,53,57,54,48,54,49,54,50,54,51,54,52,54,53,54,54,54,55,54,56,54,57,55,48,55,49,55,50,55,51,55,52,55,53,55,54,55,55,55,56,55,57,56,48,56,49,56,50,56,51,56,52,56,53,56,54,56,55,56,56,56,57,57,48,57,49,57,50,57,51,57,52,57,53,57,54,57,55,57,56,57,57]⟩)) (.tmp 132)⟩,[0,1,2,3,4,5,6,7,8],none⟩,
    ⟨⟨(some 134),none,.idxS 1 (.tmp 123) (.tmp 125)⟩,[3,4,5,9,10],none⟩,
    ⟨⟨none,none,.store 1 (.tmp 134) (.tmp 131)⟩,[3,4,5,9,10],none⟩] [⟨(some 135),none,.idxS 1 (.tmp 126) (.tmp 128)⟩,
    ⟨none,none,.store 1 (.tmp 135) (.tmp 133)⟩] [0,4,12])
  (.ops [⟨(some 136),none,.mov (.tmp 4)⟩,
    ⟨(some 137),none,.bin .sub (.tmp 136) (.const (.int .i64 4))⟩,
    ⟨(some 4),none,.mov (.tmp 137)⟩] [0,4,12]))))))
  (.skip)))
 (.seq (.seq (.ops [⟨(some 138),none,.mov (.tmp 4)⟩,
   ⟨(some 139),none,.bin .geq (.tmp 138) (.const (.int .i64 2))⟩] [0,4,12,139])
 (.cond (.tmp 139)
  (.seq (.ops [⟨(some 140),none,.mov (.tmp 12)⟩,
    ⟨(some 141),none,.bin .rem (.tmp 140) (.const (.int .u32 100))⟩,
    ⟨(some 142),none,.bin .mul (.tmp 141) (.const (.int .u32 2))⟩,
    ⟨(some 16),none,.mov (.tmp 142)⟩] [0,4,12,16])
  (.seq (.ops [⟨(some 143),none,.mov (.tmp 12)⟩,
    ⟨(some 144),none,.bin .quo (.tmp 143) (.const (.int .u32 100))⟩,
    ⟨(some 12),none,.mov (.tmp 144)⟩] [0,4,12,16])
  (.seq (.drawW [⟨⟨(some 145),none,.mov (.tmp 0)⟩,[],none⟩,
    ⟨⟨(some 146),none,.mov (.tmp 4)⟩,[0],none⟩,
    ⟨⟨(some 147),none,.bin .sub (.tmp 146) (.const (.int .i64 1))⟩,[0],none⟩,
    ⟨⟨(some 148),none,.mov (.tmp 0)⟩,[0,1,2],none⟩,
    ⟨⟨(some 149),none,.mov (.tmp 4)⟩,[0,1,2,3],none⟩,
    ⟨⟨(some 150),none,.bin .sub (.tmp 149) (.const (.int .i64 2))⟩,[0,1,2,3],none⟩,
    ⟨⟨(some 151),none,.mov (.tmp 16)⟩,[0,1,2,3,4,5],none⟩,
    ⟨⟨(some 152),none,.bin .add (.tmp 151) (.const (.int .u32 1))⟩,[0,1,2,3,4,5],none⟩,
    ⟨⟨(some 153),none,.idxStr (.const (.string ⟨#[48,48,48,49,48,50,48,51,48,52,48,53,48,54,48,55,48,56,48,57,49,48,49,49,49,50,49,51,49,52,49,53,49,54,49,55,49,56,49,57,50,48,50,49,50,50,50,51,50,52,50,53,50,54,50,55,50,56,50,57,51,48,51,49,51,50,51,51,51,52,51,53,51,54,51,55,51,56,51,57,52,48,52,49,52,50,52,51,52,52,52,53,52,54,52,55,52,56,52,57,53,48,53,49,53,50,53,51,53,52,53,53,53,54,53,55,53,56,53,57,54,48,54,49,54,50,54,51,54,52,54,53,54,54,54,55,54,56,54,57,55,48,55,49,55,50,55,51,55,52,55,53,55,54,55,55,55,56,55,57,56,48,56,49,56,50,56,51,56,52,56,53,56,54,56,55,56,56,56,57,57,48,57,49,57,50,57,51,57,52,57,53,57,54,57,55,57,56,57,57]⟩)) (.tmp 152)⟩,[0,1,2,3,4,5],none⟩,
    ⟨⟨(some 154),none,.mov (.tmp 16)⟩,[0,1,2,3,4,5,6,7,8],none⟩,
    ⟨⟨(some 155),none,.idxStr (.const (.string ⟨#[48,48,48,49,48,50,48,51,48,52,48,53,48,54,48,55,48,56,48,57,49,48,49,49,49,50,49,51,49,52,49,53,49,54,49,55,49,56,49,57,50,48,50,49,50,50,50,51,50,52,50,53,50,54,50,55,50,56,50,57,51,48,51,49,51,50,51,51,51,52,51,53,51,54,51,55,51,56,51,57,52,48,52,49,52,50,52,51,52,52,52,53,52,54,52,55,52,56,52,57,53,48,53,49,53,50,53,51,53,52,53,53,53,54,53,55,53,56,53,57,54,48,54,49,54,50,54,51,54,52,54,53,54,54,54,55,54,56,54,57,55,48,55,49,55,50,55,51,55,52,55,53,55,54,55,55,55,56,55,57,56,48,56,49,56,50,56,51,56,52,56,53,56,54,56,55,56,56,56,57,57,48,57,49,57,50,57,51,57,52,57,53,57,54,57,55,57,56,57,57]⟩)) (.tmp 154)⟩,[0,1,2,3,4,5,6,7,8],none⟩,
    ⟨⟨(some 156),none,.idxS 1 (.tmp 145) (.tmp 147)⟩,[3,4,5,9,10],none⟩,
    ⟨⟨none,none,.store 1 (.tmp 156) (.tmp 153)⟩,[3,4,5,9,10],none⟩] [⟨(some 157),none,.idxS 1 (.tmp 148) (.tmp 150)⟩,
    ⟨none,none,.store 1 (.tmp 157) (.tmp 155)⟩] [0,4,12])
  (.ops [⟨(some 158),none,.mov (.tmp 4)⟩,
    ⟨(some 159),none,.bin .sub (.tmp 158) (.const (.int .i64 2))⟩,
    ⟨(some 4),none,.mov (.tmp 159)⟩] [0,4,12]))))
  (.skip)))
 (.seq (.ops [⟨(some 160),none,.mov (.tmp 4)⟩,
   ⟨(some 161),none,.bin .gtr (.tmp 160) (.const (.int .i64 0))⟩] [0,12,161])
 (.cond (.tmp 161)
  (.ops [⟨(some 162),none,.mov (.tmp 0)⟩,
    ⟨(some 163),none,.mov (.tmp 12)⟩,
    ⟨(some 164),none,.bin .add (.const (.int .u32 48)) (.tmp 163)⟩,
    ⟨(some 165),none,.convI .u8 (.tmp 164)⟩,
    ⟨(some 166),none,.idxS 1 (.tmp 162) (.const (.int .i64 0))⟩,
    ⟨none,none,.store 1 (.tmp 166) (.tmp 165)⟩] [])
  (.skip))))))),
 167,[],false⟩
theorem ok76:FunOK Tryd.prog 76 c76:=⟨⟨Tryd.f76,_,c76.code,Tryd.func76,rfl,by kernel_rfl,rfl,by kernel_rfl,by kernel_rfl⟩⟩
/- internal/strconv.formatBits (1 operations that the interpreter lacks) -/
def c77l0:AC:=
 .seq (.seq (.ops [⟨(some 66),none,.mov (.tmp 1)⟩,
      ⟨(some 67),none,.mov (.tmp 17)⟩,
      ⟨(some 68),none,.bin .geq (.tmp 66) (.tmp 67)⟩] [0,1,3,4,10,11,12,13,17,68])
    (.cond (.tmp 68)
     (.skip)
     (.exit 2)))
    (.block 3
     (.seq (.ops [⟨(some 69),none,.mov (.tmp 13)⟩,
       ⟨(some 70),none,.bin .sub (.tmp 69) (.const (.int .i64 1))⟩,
       ⟨(some 13),none,.mov (.tmp 70)⟩] [0,1,3,4,10,11,12,13,17])
     (.seq (.ops [⟨(some 71),none,.mov (.tmp 1)⟩,
       ⟨(some 72),none,.mov (.tmp 17)⟩,
       ⟨(some 73),none,.bin .quo (.tmp 71) (.tmp 72)⟩,
       ⟨(some 18),none,.mov (.tmp 73)⟩] [0,1,3,4,10,11,12,13,17,18])
     (.seq (.ops [⟨(some 74),none,.mov (.tmp 13)⟩,
       ⟨(some 75),none,.mov (.tmp 1)⟩,
       ⟨(some 76),none,.mov (.tmp 18)⟩,
       ⟨(some 77),none,.mov (.tmp 17)⟩,
       ⟨(some 78),none,.bin .mul (.tmp 76) (.tmp 77)⟩,
       ⟨(some 79),none,.bin .sub (.tmp 75) (.tmp 78)⟩,
       ⟨(some 80),none,.idxStr (.const (.string ⟨#[48,49,50,51,52,53,54,55,56,57,97,98,99,100,101,102,103,104,105,106,107,108,109,110,111,112,113,114,115,116,117,118,119,120,121,122]⟩)) (.tmp 79)⟩,
       ⟨(some 81),none,.idxA 65 1 (.tmp 12) (.tmp 74)⟩,
       ⟨none,none,.store 1 (.tmp 81) (.tmp 80)⟩] [0,3,4,10,11,12,13,17,18])
     (.ops [⟨(some 82),none,.mov (.tmp 18)⟩,
       ⟨(some 1),none,.mov (.tmp 82)⟩] [0,1,3,4,10,11,12,13,17])))))
def c77l1:AC:=
 .seq (.seq (.ops [⟨(some 44),none,.mov (.tmp 1)⟩,
      ⟨(some 45),none,.mov (.tmp 15)⟩,
      ⟨(some 46),none,.bin .geq (.tmp 44) (.tmp 45)⟩] [0,1,3,4,10,11,12,13,14,15,16,46])
    (.cond (.tmp 46)
     (.skip)
     (.exit 0)))
    (.block 1
     (.seq (.ops [⟨(some 47),none,.mov (.tmp 13)⟩,
       ⟨(some 48),none,.bin .sub (.tmp 47) (.const (.int .i64 1))⟩,
       ⟨(some 13),none,.mov (.tmp 48)⟩] [0,1,3,4,10,11,12,13,14,15,16])
     (.seq (.ops [⟨(some 49),none,.mov (.tmp 13)⟩,
       ⟨(some 50),none,.mov (.tmp 1)⟩,
       ⟨(some 51),none,.mov (.tmp 16)⟩,
       ⟨(some 52),none,.bin .and (.tmp 50) (.tmp 51)⟩,
       ⟨(some 53),none,.idxStr (.const (.string ⟨#[48,49,50,51,52,53,54,55,56,57,97,98,99,100,101,102,103,104,105,106,107,108,109,110,111,112,113,114,115,116,117,118,119,120,121,122]⟩)) (.tmp 52)⟩,
       ⟨(some 54),none,.idxA 65 1 (.tmp 12) (.tmp 49)⟩,
       ⟨none,none,.store 1 (.tmp 54) (.tmp 53)⟩] [0,1,3,4,10,11,12,13,14,15,16])
     (.ops [⟨(some 55),none,.mov (.tmp 1)⟩,
       ⟨(some 56),none,.mov (.tmp 14)⟩,
       ⟨(some 57),none,.bin .shr (.tmp 55) (.tmp 56)⟩,
       ⟨(some 1),none,.mov (.tmp 57)⟩] [0,1,3,4,10,11,12,13,14,15,16]))))
def c77:AFun:=⟨
 .seq (.ops [⟨(some 10),none,.mov (.const (.slice none 0 0))⟩,
   ⟨(some 11),none,.mov (.const (.string ⟨#[]⟩))⟩] [0,1,2,3,4,10,11])
 (.seq (.seq (.ops [⟨(some 19),none,.mov (.tmp 2)⟩,
   ⟨(some 20),none,.bin .lss (.tmp 19) (.const (.int .i64 2))⟩,
   ⟨(some 21),none,.mov (.tmp 20)⟩,
   ⟨(some 22),(some (21,false)),.mov (.tmp 2)⟩,
   ⟨(some 23),(some (21,false)),.bin .eql (.tmp 22) (.const (.int .i64 10))⟩,
   ⟨(some 24),none,.pick (.tmp 21) (.const (.bool true)) (.tmp 23)⟩,
   ⟨(some 25),none,.mov (.tmp 24)⟩,
   ⟨(some 26),(some (25,false)),.mov (.tmp 2)⟩,
   ⟨(some 27),(some (25,false)),.bin .gtr (.tmp 26) (.const (.int .i64 36))⟩,
   ⟨(some 28),none,.pick (.tmp 25) (.const (.bool true)) (.tmp 27)⟩] [0,1,2,3,4,10,11,28])
 (.cond (.tmp 28)
  (.ops [⟨(some 29),none,.mkIf 9 (.const (.string ⟨#[115,116,114,99,111,110,118,58,32,105,108,108,101,103,97,108,32,65,112,112,101,110,100,73,110,116,47,70,111,114,109,97,116,73,110,116,32,98,97,115,101]⟩))⟩,
    ⟨none,none,.bad⟩] [0,1,2,3,4,10,11])
  (.skip)))
 (.seq (.ops [⟨(some 12),none,.alloc 136 [(65,(.int .u8 0))]⟩] [0,1,2,3,4,10,11,12])
 (.seq (.ops [⟨(some 13),none,.mov (.const (.int .i64 65))⟩] [0,1,2,3,4,10,11,12,13])
 (.seq (.seq (.ops [⟨(some 30),none,.mov (.tmp 3)⟩] [0,1,2,3,4,10,11,12,13,30])
 (.cond (.tmp 30)
  (.ops [⟨(some 31),none,.mov (.tmp 1)⟩,
    ⟨(some 32),none,.un .neg (.tmp 31)⟩,
    ⟨(some 1),none,.mov (.tmp 32)⟩] [0,1,2,3,4,10,11,12,13])
  (.skip)))
 (.seq (.seq (.ops [⟨(some 33),none,.mov (.tmp 2)⟩,
   ⟨(some 34),none,.callF 89 [(.tmp 33)]⟩] [0,1,2,3,4,10,11,12,13,34])
 (.cond (.tmp 34)
  (.seq (.ops [⟨(some 35),none,.mov (.tmp 2)⟩,
    ⟨(some 36),none,.convI .u64 (.tmp 35)⟩,
    ⟨(some 37),none,.callF 90 [(.tmp 36)]⟩,
    ⟨(some 38),none,.convI .u64 (.tmp 37)⟩,
    ⟨(some 14),none,.mov (.tmp 38)⟩] [0,1,2,3,4,10,11,12,13,14])
  (.seq (.ops [⟨(some 39),none,.mov (.tmp 2)⟩,
    ⟨(some 40),none,.convI .u64 (.tmp 39)⟩,
    ⟨(some 15),none,.mov (.tmp 40)⟩] [0,1,2,3,4,10,11,12,13,14,15])
  (.seq (.ops [⟨(some 41),none,.mov (.tmp 2)⟩,
    ⟨(some 42),none,.convI .u64 (.tmp 41)⟩,
    ⟨(some 43),none,.bin .sub (.tmp 42) (.const (.int .u64 1))⟩,
    ⟨(some 16),none,.mov (.tmp 43)⟩] [0,1,3,4,10,11,12,13,14,15,16])
  (.seq (.block 0
   (.loop [0,1,3,4,10,11,12,13,14,15,16]
    c77l1))
  (.seq (.ops [⟨(some 58),none,.mov (.tmp 13)⟩,
    ⟨(some 59),none,.bin .sub (.tmp 58) (.const (.int .i64 1))⟩,
    ⟨(some 13),none,.mov (.tmp 59)⟩] [0,1,3,4,10,11,12,13])
  (.ops [⟨(some 60),none,.mov (.tmp 13)⟩,
    ⟨(some 61),none,.mov (.tmp 1)⟩,
    ⟨(some 62),none,.idxStr (.const (.string ⟨#[48,49,50,51,52,53,54,55,56,57,97,98,99,100,101,102,103,104,105,106,107,108,109,110,111,112,113,114,115,116,117,118,119,120,121,122]⟩)) (.tmp 61)⟩,
    ⟨(some 63),none,.idxA 65 1 (.tmp 12) (.tmp 60)⟩,
    ⟨none,none,.store 1 (.tmp 63) (.tmp 62)⟩] [0,3,4,10,11,12,13]))))))
  (.seq (.ops [⟨(some 64),none,.mov (.tmp 2)⟩,
    ⟨(some 65),none,.convI .u64 (.tmp 64)⟩,
    ⟨(some 17),none,.mov (.tmp 65)⟩] [0,1,3,4,10,11,12,13,17])
  (.seq (.block 2
   (.loop [0,1,3,4,10,11,12,13,17]
    c77l0))
  (.seq (.ops [⟨(some 83),none,.mov (.tmp 13)⟩,
    ⟨(some 84),none,.bin .sub (.tmp 83) (.const (.int .i64 1))⟩,
    ⟨(some 13),none,.mov (.tmp 84)⟩] [0,1,3,4,10,11,12,13])
  (.ops [⟨(some 85),none,.mov (.tmp 13)⟩,
    ⟨(some 86),none,.mov (.tmp 1)⟩,
    ⟨(some 87),none,.idxStr (.const (.string ⟨#[48,49,50,51,52,53,54,55,56,57,97,98,99,100,101,102,103,104,105,106,107,108,109,110,111,112,113,114,115,116,117,118,119,120,121,122]⟩)) (.tmp 86)⟩,
    ⟨(some 88),none,.idxA 65 1 (.tmp 12) (.tmp 85)⟩,
    ⟨none,none,.store 1 (.tmp 88) (.tmp 87)⟩] [0,3,4,10,11,12,13]))))))
 (.seq (.seq (.ops [⟨(some 89),none,.mov (.tmp 3)⟩] [0,4,10,11,12,13,89])
 (.cond (.tmp 89)
  (.seq (.ops [⟨(some 90),none,.mov (.tmp 13)⟩,
    ⟨(some 91),none,.bin .sub (.tmp 90) (.const (.int .i64 1))⟩,
    ⟨(some 13),none,.mov (.tmp 91)⟩] [0,4,10,11,12,13])
  (.ops [⟨(some 92),none,.mov (.tmp 13)⟩,
    ⟨(some 93),none,.idxA 65 1 (.tmp 12) (.tmp 92)⟩,
    ⟨none,none,.store 1 (.tmp 93) (.const (.int .u8 45))⟩] [0,4,10,11,12,13]))
  (.skip)))
 (.seq (.seq (.ops [⟨(some 94),none,.mov (.tmp 4)⟩] [0,10,11,12,13,94])
 (.cond (.tmp 94)
  (.seq (.ops [⟨(some 95),none,.mov (.tmp 0)⟩,
    ⟨(some 96),none,.mov (.tmp 13)⟩,
    ⟨(some 97),none,.slcA 65 1 (.tmp 12) (some (.tmp 96)) none⟩,
    ⟨(some 98),none,.app 5 1 1 (.tmp 95) (.tmp 97)⟩,
    ⟨(some 10),none,.mov (.tmp 98)⟩] [10,11])
  (.ret))
  (.skip)))
 (.seq (.ops [⟨(some 99),none,.mov (.tmp 13)⟩,
   ⟨(some 100),none,.slcA 65 1 (.tmp 12) (some (.tmp 99)) none⟩,
   ⟨(some 101),none,.b2s (.tmp 100)⟩,
   ⟨(some 11),none,.mov (.tmp 101)⟩] [10,11])
 (.ret))))))))),
 102,[(10,none),(11,none)],true⟩
theorem ok77:FunOK Tryd.prog 77 c77:=⟨⟨Tryd.f77,_,c77.code,Tryd.func77,rfl,by kernel_rfl,rfl,by kernel_rfl,by kernel_rfl⟩⟩
/- internal/strconv.log10Pow2 -/
def c86:AFun:=⟨
 .seq (.ops [⟨(some 2),none,.mov (.const (.int .i64 0))⟩] [0])
 (.seq (.ops [⟨(some 3),none,.mov (.tmp 0)⟩,
   ⟨(some 4),none,.bin .mul (.tmp 3) (.const (.int .i64 78913))⟩,
   ⟨(some 5),none,.bin .shr (.tmp 4) (.const (.int .u64 18))⟩,
   ⟨(some 2),none,.mov (.tmp 5)⟩] [2])
 (.ret)),
 6,[(2,none)],true⟩
theorem ok86:FunOK Tryd.prog 86 c86:=⟨⟨Tryd.f86,_,c86.code,Tryd.func86,rfl,by kernel_rfl,rfl,by kernel_rfl,by kernel_rfl⟩⟩
/- math/bits.Len64 -/
def c87:AFun:=⟨
 .seq (.ops [⟨(some 2),none,.mov (.const (.int .i64 0))⟩] [0,2])
 (.seq (.seq (.ops [⟨(some 3),none,.mov (.tmp 0)⟩,
   ⟨(some 4),none,.bin .geq (.tmp 3) (.const (.int .u64 4294967296))⟩] [0,2,4])
 (.cond (.tmp 4)
  (.seq (.ops [⟨(some 5),none,.mov (.tmp 0)⟩,
    ⟨(some 6),none,.bin .shr (.tmp 5) (.const (.int .u64 32))⟩,
    ⟨(some 0),none,.mov (.tmp 6)⟩] [0])
  (.ops [⟨(some 2),none,.mov (.const (.int .i64 32))⟩] [0,2]))
  (.skip)))
 (.seq (.seq (.ops [⟨(some 7),none,.mov (.tmp 0)⟩,
   ⟨(some 8),none,.bin .geq (.tmp 7) (.const (.int .u64 65536))⟩] [0,2,8])
 (.cond (.tmp 8)
  (.seq (.ops [⟨(some 9),none,.mov (.tmp 0)⟩,
    ⟨(some 10),none,.bin .shr (.tmp 9) (.const (.int .u64 16))⟩,
    ⟨(some 0),none,.mov (.tmp 10)⟩] [0,2])
  (.ops [⟨(some 11),none,.mov (.tmp 2)⟩,
    ⟨(some 12),none,.bin .add (.tmp 11) (.const (.int .i64 16))⟩,
    ⟨(some 2),none,.mov (.tmp 12)⟩] [0,2]))
  (.skip)))
 (.seq (.seq (.ops [⟨(some 13),none,.mov (.tmp 0)⟩,
   ⟨(some 14),none,.bin .geq (.tmp 13) (.const (.int .u64 256))⟩] [0,2,14])
 (.cond (.tmp 14)
  (.seq (.ops [⟨(some 15),none,.mov (.tmp 0)⟩,
    ⟨(some 16),none,.bin .shr (.tmp 15) (.const (.int .u64 8))⟩,
    ⟨(some 0),none,.mov (.tmp 16)⟩] [0,2])
  (.ops [⟨(some 17),none,.mov (.tmp 2)⟩,
    ⟨(some 18),none,.bin .add (.tmp 17) (.const (.int .i64 8))⟩,
    ⟨(some 2),none,.mov (.tmp 18)⟩] [0,2]))
  (.skip)))
 (.seq (.ops [⟨(some 19),none,.mov (.tmp 2)⟩,
   ⟨(some 20),none,.mov (.tmp 0)⟩,
   ⟨(some 21),none,.convI .u8 (.tmp 20)⟩,
   ⟨(some 22),none,.idxStr (.const (.string ⟨#[0,1,2,2,3,3,3,3,4,4,4,4,4,4,4,4,5,5,5,5,5,5,5,5,5,5,5,5,5,5,5,5,6,6,6,6,6,6,6,6,6,6,6,6,6,6,6,6,6,6,6,6,6,6,6,6,6,6,6,6,6,6,6,6,7,7,7,7,7,7,7,7,7,7,7,7,7,7,7,7,7,7,7,7,7,7,7,7,7,7,7,7,7,7,7,7,7,7,7,7,7,7,7,7,7,7,7,7,7,7,7,7,7,7,7,7,7,7,7,7,7,7,7,7,7,7,7,7,8,8,8,8,8,8,8,8,8,8,8,8,8,8,8,8,8,8,8,8,8,8,8,8,8,8,8,8,8,8,8,8,8,8,8,8,8,8,8,8,8,8,8,8,8,8,8,8,8,8,8,8,8,8,8,8,8,8,8,8,8,8,8,8,8,8,8,8,8,8,8,8,8,8,8,8,8,8,8,8,8,8,8,8,8,8,8,8,8,8,8,8,8,8,8,8,8,8,8,8,8,8,8,8,8,8,8,8,8,8,8,8,8,8,8,8,8,8,8,8,8,8,8,8,8,8,8,8]⟩)) (.tmp 21)⟩,
   ⟨(some 23),none,.convI .i64 (.tmp 22)⟩,
   ⟨(some 24),none,.bin .add (.tmp 19) (.tmp 23)⟩,
   ⟨(some 2),none,.mov (.tmp 24)⟩] [2])
 (.ret))))),
 25,[(2,none)],true⟩
theorem ok87:FunOK Tryd.prog 87 c87:=⟨⟨Tryd.f87,_,c87.code,Tryd.func87,rfl,by kernel_rfl,rfl,by kernel_rfl,by kernel_rfl⟩⟩
/- internal/strconv.bool2[int] -/
def c88:AFun:=⟨
 .seq (.ops [⟨(some 2),none,.mov (.const (.int .i64 0))⟩] [0])
 (.seq (.seq (.ops [⟨(some 3),none,.mov (.tmp 0)⟩] [3])
 (.cond (.tmp 3)
  (.seq (.ops [⟨(some 2),none,.mov (.const (.int .i64 1))⟩] [2])
  (.ret))
  (.skip)))
 (.seq (.ops [⟨(some 2),none,.mov (.const (.int .i64 0))⟩] [2])
 (.ret))),
 4,[(2,none)],true⟩
theorem ok88:FunOK Tryd.prog 88 c88:=⟨⟨Tryd.f88,_,c88.code,Tryd.func88,rfl,by kernel_rfl,rfl,by kernel_rfl,by kernel_rfl⟩⟩
/- internal/strconv.isPowerOfTwo -/
def c89:AFun:=⟨
 .seq (.ops [⟨(some 2),none,.mov (.const (.bool false))⟩] [0])
 (.seq (.ops [⟨(some 3),none,.mov (.tmp 0)⟩,
   ⟨(some 4),none,.mov (.tmp 0)⟩,
   ⟨(some 5),none,.bin .sub (.tmp 4) (.const (.int .i64 1))⟩,
   ⟨(some 6),none,.bin .and (.tmp 3) (.tmp 5)⟩,
   ⟨(some 7),none,.bin .eql (.tmp 6) (.const (.int .i64 0))⟩,
   ⟨(some 2),none,.mov (.tmp 7)⟩] [2])
 (.ret)),
 8,[(2,none)],true⟩
theorem ok89:FunOK Tryd.prog 89 c89:=⟨⟨Tryd.f89,_,c89.code,Tryd.func89,rfl,by kernel_rfl,rfl,by kernel_rfl,by kernel_rfl⟩⟩
/- math/bits.TrailingZeros -/
def c90:AFun:=⟨
 .seq (.ops [⟨(some 2),none,.mov (.const (.int .i64 0))⟩] [0])
 (.seq (.cond (.const (.bool false))
  (.seq (.ops [⟨(some 3),none,.mov (.tmp 0)⟩,
    ⟨(some 4),none,.convI .u32 (.tmp 3)⟩,
    ⟨(some 5),none,.callF 95 [(.tmp 4)]⟩,
    ⟨(some 2),none,.mov (.tmp 5)⟩] [2])
  (.ret))
  (.skip))
 (.seq (.ops [⟨(some 6),none,.mov (.tmp 0)⟩,
   ⟨(some 7),none,.callF 96 [(.tmp 6)]⟩,
   ⟨(some 2),none,.mov (.tmp 7)⟩] [2])
 (.ret))),
 8,[(2,none)],true⟩
theorem ok90:FunOK Tryd.prog 90 c90:=⟨⟨Tryd.f90,_,c90.code,Tryd.func90,rfl,by kernel_rfl,rfl,by kernel_rfl,by kernel_rfl⟩⟩
/- math/bits.TrailingZeros32 -/
def c95:AFun:=⟨
 .seq (.ops [⟨(some 2),none,.mov (.const (.int .i64 0))⟩] [0])
 (.seq (.seq (.ops [⟨(some 3),none,.mov (.tmp 0)⟩,
   ⟨(some 4),none,.bin .eql (.tmp 3) (.const (.int .u32 0))⟩] [0,4])
 (.cond (.tmp 4)
  (.seq (.ops [⟨(some 2),none,.mov (.const (.int .i64 32))⟩] [2])
  (.ret))
  (.skip)))
 (.seq (.ops [⟨(some 5),none,.mov (.tmp 0)⟩,
   ⟨(some 6),none,.mov (.tmp 0)⟩,
   ⟨(some 7),none,.un .neg (.tmp 6)⟩,
   ⟨(some 8),none,.bin .and (.tmp 5) (.tmp 7)⟩,
   ⟨(some 9),none,.bin .mul (.tmp 8) (.const (.int .u32 125613361))⟩,
   ⟨(some 10),none,.bin .shr (.tmp 9) (.const (.int .u64 27))⟩,
   ⟨(some 11),none,.idxA 32 1 (.global 6) (.tmp 10)⟩,
   ⟨(some 12),none,.load none (.tmp 11)⟩,
   ⟨(some 13),none,.convI .i64 (.tmp 12)⟩,
   ⟨(some 2),none,.mov (.tmp 13)⟩] [2])
 (.ret))),
 14,[(2,none)],true⟩
theorem ok95:FunOK Tryd.prog 95 c95:=⟨⟨Tryd.f95,_,c95.code,Tryd.func95,rfl,by kernel_rfl,rfl,by kernel_rfl,by kernel_rfl⟩⟩
/- math/bits.TrailingZeros64 -/
def c96:AFun:=⟨
 .seq (.ops [⟨(some 2),none,.mov (.const (.int .i64 0))⟩] [0])
 (.seq (.seq (.ops [⟨(some 3),none,.mov (.tmp 0)⟩,
   ⟨(some 4),none,.bin .eql (.tmp 3) (.const (.int .u64 0))⟩] [0,4])
 (.cond (.tmp 4)
  (.seq (.ops [⟨(some 2),none,.mov (.const (.int .i64 64))⟩] [2])
  (.ret))
  (.skip)))
 (.seq (.ops [⟨(some 5),none,.mov (.tmp 0)⟩,
   ⟨(some 6),none,.mov (.tmp 0)⟩,
   ⟨(some 7),none,.un .neg (.tmp 6)⟩,
   ⟨(some 8),none,.bin .and (.tmp 5) (.tmp 7)⟩,
   ⟨(some 9),none,.bin .mul (.tmp 8) (.const (.int .u64 285870213051353865))⟩,
   ⟨(some 10),none,.bin .shr (.tmp 9) (.const (.int .u64 58))⟩,
   ⟨(some 11),none,.idxA 64 1 (.global 7) (.tmp 10)⟩,
   ⟨(some 12),none,.load none (.tmp 11)⟩,
   ⟨(some 13),none,.convI .i64 (.tmp 12)⟩,
   ⟨(some 2),none,.mov (.tmp 13)⟩] [2])
 (.ret))),
 14,[(2,none)],true⟩
theorem ok96:FunOK Tryd.prog 96 c96:=⟨⟨Tryd.f96,_,c96.code,Tryd.func96,rfl,by kernel_rfl,rfl,by kernel_rfl,by kernel_rfl⟩⟩
def fns:FuncId→Option AFun
 |3=>some c3
 |9=>some c9
 |10=>some c10
 |11=>some c11
 |12=>some c12
 |13=>some c13
 |14=>some c14
 |15=>some c15
 |16=>some c16
 |17=>some c17
 |18=>some c18
 |19=>some c19
 |20=>some c20
 |21=>some c21
 |32=>some c32
 |33=>some c33
 |34=>some c34
 |35=>some c35
 |36=>some c36
 |37=>some c37
 |38=>some c38
 |39=>some c39
 |40=>some c40
 |41=>some c41
 |51=>some c51
 |52=>some c52
 |53=>some c53
 |54=>some c54
 |55=>some c55
 |62=>some c62
 |74=>some c74
 |75=>some c75
 |76=>some c76
 |77=>some c77
 |86=>some c86
 |87=>some c87
 |88=>some c88
 |89=>some c89
 |90=>some c90
 |95=>some c95
 |96=>some c96
 |_=>none
theorem fns_ok:FunsOK Tryd.prog fns:=by
 intro f af h
 unfold fns at h
 split at h
 ·cases h;exact ok3
 ·cases h;exact ok9
 ·cases h;exact ok10
 ·cases h;exact ok11
 ·cases h;exact ok12
 ·cases h;exact ok13
 ·cases h;exact ok14
 ·cases h;exact ok15
 ·cases h;exact ok16
 ·cases h;exact ok17
 ·cases h;exact ok18
 ·cases h;exact ok19
 ·cases h;exact ok20
 ·cases h;exact ok21
 ·cases h;exact ok32
 ·cases h;exact ok33
 ·cases h;exact ok34
 ·cases h;exact ok35
 ·cases h;exact ok36
 ·cases h;exact ok37
 ·cases h;exact ok38
 ·cases h;exact ok39
 ·cases h;exact ok40
 ·cases h;exact ok41
 ·cases h;exact ok51
 ·cases h;exact ok52
 ·cases h;exact ok53
 ·cases h;exact ok54
 ·cases h;exact ok55
 ·cases h;exact ok62
 ·cases h;exact ok74
 ·cases h;exact ok75
 ·cases h;exact ok76
 ·cases h;exact ok77
 ·cases h;exact ok86
 ·cases h;exact ok87
 ·cases h;exact ok88
 ·cases h;exact ok89
 ·cases h;exact ok90
 ·cases h;exact ok95
 ·cases h;exact ok96
 ·cases h
end Go.Proofs.YtgglaaldlegckaaDoor
namespace Go.Proofs.YtgglaaldlegckaaDoor
open Go Go.Itp
set_option maxRecDepth 100000
def prims0:List (FuncId × Prim × TypeId):= [(61,.same,0)]
theorem prims_all:AllPrims Tryd.prog prims0:=
 ⟨⟨⟨Tryd.f61,Tryd.func61,by kernel_rfl,by kernel_rfl,by kernel_rfl,rfl⟩⟩,trivial⟩
end Go.Proofs.YtgglaaldlegckaaDoor
/-
  DERIVED: THE SHELF's CONTRACTS AT THIS DUMP, IN PLAIN WORDS (tools/lay-plain.mjs out of 'TrydShelf.lean', which tools/lay-shelf.mjs wrote): THE SAME DECLARATIONS UNDER THE SAME NAMES: 'import', 'namespace', 'open', 'def', 'theorem' AND NOTHING ELSE: no command of the shelf's: FOR A HAND-IN. Each laying: the table of numbers ('.._ren') and one theorem, a field a fact of the dump's own or the kernel's comparison; each contract: ONE APPLICATION.
-/
namespace Go.Proofs
open Go.Shelf
def Tryd.laysM171_ren:Go.Shelf.Ren:=⟨fun|171=>36|243=>54|246=>62|283=>74|284=>75|285=>76|286=>77|129=>87|317=>86|318=>88|319=>89|320=>90|337=>95|338=>96|n=>n,fun|3=>3|9=>9|2=>2|4=>4|171=>121|0=>0|53=>108|37=>64|5=>5|173=>124|212=>135|51=>105|20=>20|213=>136|46=>97|232=>148|233=>149|n=>n,fun|17=>3|18=>6|19=>7|n=>n⟩
theorem Tryd.laysM171:Go.Proofs.LaysM.n171 Tryd.prog Tryd.laysM171_ren:={
 mixed:=by kernel_rfl
 f129:=Tryd.func87.trans (congrArg some (by kernel_rfl))
 f171:=Tryd.func36.trans (congrArg some (by kernel_rfl))
 f243:=Tryd.func54.trans (congrArg some (by kernel_rfl))
 f246:=Tryd.func62.trans (congrArg some (by kernel_rfl))
 f283:=Tryd.func74.trans (congrArg some (by kernel_rfl))
 f284:=Tryd.func75.trans (congrArg some (by kernel_rfl))
 f285:=Tryd.func76.trans (congrArg some (by kernel_rfl))
 f286:=Tryd.func77.trans (congrArg some (by kernel_rfl))
 f317:=Tryd.func86.trans (congrArg some (by kernel_rfl))
 f318:=Tryd.func88.trans (congrArg some (by kernel_rfl))
 f319:=Tryd.func89.trans (congrArg some (by kernel_rfl))
 f320:=Tryd.func90.trans (congrArg some (by kernel_rfl))
 f337:=Tryd.func95.trans (congrArg some (by kernel_rfl))
 f338:=Tryd.func96.trans (congrArg some (by kernel_rfl))
 t0:=Tryd.underlying0
 a0:=Tryd.isAgg0
 z0:=Tryd.sizeOf0
 v0:=Tryd.zeroValue0
 t2:=Tryd.underlying2
 a2:=Tryd.isAgg2
 z2:=Tryd.sizeOf2
 v2:=Tryd.zeroValue2
 t3:=Tryd.underlying3
 a3:=Tryd.isAgg3
 z3:=Tryd.sizeOf3
 v3:=Tryd.zeroValue3
 t4:=Tryd.underlying4
 a4:=Tryd.isAgg4
 z4:=Tryd.sizeOf4
 v4:=Tryd.zeroValue4
 t5:=Tryd.underlying5
 a5:=Tryd.isAgg5
 z5:=Tryd.sizeOf5
 v5:=Tryd.zeroValue5
 t9:=Tryd.underlying9
 a9:=Tryd.isAgg9
 z9:=Tryd.sizeOf9
 v9:=Tryd.zeroValue9
 t20:=Tryd.underlying20
 a20:=Tryd.isAgg20
 z20:=Tryd.sizeOf20
 v20:=Tryd.zeroValue20
 t37:=Tryd.underlying64
 a37:=Tryd.isAgg64
 z37:=Tryd.sizeOf64
 v37:=Tryd.zeroValue64
 t46:=Tryd.underlying97
 a46:=Tryd.isAgg97
 z46:=Tryd.sizeOf97
 v46:=Tryd.zeroValue97
 t51:=Tryd.underlying105
 a51:=Tryd.isAgg105
 z51:=Tryd.sizeOf105
 v51:=Tryd.zeroValue105
 t53:=Tryd.underlying108
 a53:=Tryd.isAgg108
 z53:=Tryd.sizeOf108
 v53:=Tryd.zeroValue108
 t171:=Tryd.underlying121
 a171:=Tryd.isAgg121
 z171:=Tryd.sizeOf121
 v171:=Tryd.zeroValue121
 t173:=Tryd.underlying124
 a173:=Tryd.isAgg124
 z173:=Tryd.sizeOf124
 v173:=Tryd.zeroValue124
 t212:=Tryd.underlying135
 a212:=Tryd.isAgg135
 z212:=Tryd.sizeOf135
 v212:=Tryd.zeroValue135
 t213:=Tryd.underlying136
 a213:=Tryd.isAgg136
 z213:=Tryd.sizeOf136
 t232:=Tryd.underlying148
 a232:=Tryd.isAgg148
 z232:=Tryd.sizeOf148
 v232:=Tryd.zeroValue148
 t233:=Tryd.underlying149
 a233:=Tryd.isAgg149
 z233:=Tryd.sizeOf149
 v233:=Tryd.zeroValue149
 g17:=by kernel_rfl
 g18:=by kernel_rfl
 g19:=by kernel_rfl
 i0:=by kernel_rfl
 i2:=by kernel_rfl
 i3:=by kernel_rfl
 i4:=by kernel_rfl
 i5:=by kernel_rfl
 i9:=by kernel_rfl
 i20:=by kernel_rfl
 i37:=by kernel_rfl
 i46:=by kernel_rfl
 i51:=by kernel_rfl
 i53:=by kernel_rfl
 i171:=by kernel_rfl
 i173:=by kernel_rfl
 i212:=by kernel_rfl
 i232:=by kernel_rfl
 i233:=by kernel_rfl
 m17:=by kernel_rfl
 m18:=by kernel_rfl
 m19:=by kernel_rfl}
open Go.RowKit Go.Sort Go.Lib in
theorem Tryd.strconv_Itoa (n:Int) (h0: -9223372036854775808≤n) (h1:n≤9223372036854775807) (w:World) (htab:Lib.TabIs Tryd.prog w "internal/strconv.uint64pow10" .u64 Lib.pow10Tab):
  Calls Tryd.prog 36 #[.int .i64 n] w fun e w'=>e= .returned (.string ⟨(Lib.itoa n).toArray⟩)∧∃ k os,w'=grow (w.drewN k) os:=Any.strconv_Itoa Tryd.laysM171 n h0 h1 w htab
end Go.Proofs
namespace Go.Proofs.YtgglaaldlegckaaDoor
open Go Go.Itp
open Go.RowKit (Below)
set_option linter.unusedVariables false
set_option maxRecDepth 100000
theorem own:ownKnob Tryd.prog.godebug=none:=by kernel_rfl
theorem mixed:Tryd.prog.follows .mixedOrders=true:=by kernel_rfl
def known:List (FuncId × List Value × Bool):= []
def noOld:Nat→Nat→Option Value:=fun _ _=>none
theorem old_none (W:World):OldIs noOld W:=fun b o v e=>by cases e
theorem known_ok:Answers Tryd.prog noOld known:=trivial
noncomputable abbrev PR (w:World):FuncId→List Value→St→Option (Value × List Blk):=
 orElseP (primT known) (orElseP (primsOf prims0) (itoaP 36))
noncomputable abbrev EN (w:World) (n:Nat):Env:=callP (oldOf w) many fns (PR w) n
abbrev Tab (w:World):Prop:=Lib.TabIs Tryd.prog w "internal/strconv.uint64pow10" .u64 Lib.pow10Tab
theorem prims_ok (W:World) (ht:Tab W):PrimsOK Tryd.prog (PR W) W:=
 orElse_ok (primT_ok (old_none W) known known_ok) (orElse_ok (primsOf_ok prims0 prims_all W) (itoaP_ok ⟨Tryd.f36,_,Tryd.func36,rfl,by kernel_rfl⟩ ht Tryd.strconv_Itoa))
theorem law_of {W:World} (ht:Tab W) {f:FuncId} {af:AFun} (hf:fns f=some af) {xs:List Value} (hxs:idsL 0 xs= []) (n:Nat) {v:Value} {s':St} (hb:body (EN W n) af xs St.empty=some (v,s')) (hv:ids 0 v= []):
  Calls Tryd.prog f xs.toArray W fun e w'=>e= .returned v∧Below W.heap.size W w':=
 law_at mixed fns_ok (oldOf_ok W) (prims_ok W ht) hf hxs n hb hv
theorem itoa_s (w:World) (n:Nat) (st:VSt) (k:Int) (h0: -9223372036854775808≤k) (h1:k≤9223372036854775807):VSpecO (EN w (n+1)) 36 st [.sc (.int .i64 k)] (.sc (.string ⟨(Lib.itoa k).toArray⟩)):=
 itoa_o h0 h1 fun xs s r h=>orElse_right rfl (orElse_right rfl h)
end Go.Proofs.YtgglaaldlegckaaDoor
namespace Go.Proofs.YtgglaaldlegckaaDoor
open Go Go.Itp
set_option maxRecDepth 100000
set_option maxHeartbeats 1000000
set_option linter.unusedSimpArgs false
def col (x:Int):Bool:=decide (0≤x) && decide (x≤15)
def chk (l:List Int):Int:=if 4000<l.length then 4 else if l.all col then 0 else 8
def fb (l:List Int):Int:=if l.all col then -1 else (l.findIdx (fun x=> !col x):Nat)
theorem fb_at {l:List Int} {k:Nat} (hk:k<l.length) (h:∀ j,j<k→col l[j]! =true) (h2:col l[k]! =false):fb l=k:=by
 unfold fb
 rw[getElem!_pos l k hk] at h2
 rw[if_neg (fun h=>by rw[List.all_eq_true] at h;have:=h _ (List.getElem_mem hk);rw[h2] at this;cases this)]
 congr 1
 rw[List.findIdx_eq hk]
 refine ⟨by simp[h2],fun j hj=>?_⟩
 have:=h j hj
 rw[getElem!_pos l j (by omega)] at this
 simp[this]
theorem fb_end {l:List Int} (h:∀ j,j<l.length→col l[j]! =true):fb l= -1∧l.all col=true:=by
 have:l.all col=true:=by
  rw[List.all_eq_true]
  intro x hx
  obtain ⟨j,hj,rfl⟩:=List.getElem_of_mem hx
  have:=h j hj
  rwa [getElem!_pos l j hj] at this
 exact ⟨if_pos this,this⟩
theorem all_at {l:List Int} {k:Nat} (hk:k<l.length) (h2:col l[k]! =false):l.all col=false:=by
 rw[← Bool.not_eq_true,List.all_eq_true]
 intro h
 rw[getElem!_pos l k hk] at h2
 rw[h _ (List.getElem_mem hk)] at h2
 cases h2
section
variable (w:World) (n:Nat)
theorem colour_p (x:Int):VSpec (EN w (n+1)) 41 [.sc (.int .i64 x)] (.sc (.bool (col x))) ⟨[],0,0⟩:=by
 refine vspec_flat rfl rfl (fun _ _=>rfl) (Nat.le_of_ble_eq_true rfl) (oldVals w) rfl fun C hC h0=>?_
 by_cases h1:0≤x<;>by_cases h2:x≤15
 all_goals
  have e:col x=(decide (0≤x) && decide (x≤15)):=rfl
  simp only[h1,h2,decide_true,decide_false,Bool.and_true,Bool.and_false,Bool.true_and,Bool.false_and] at e
  rw[e]
  repeat' (first|(simp (disch:=first|omega|assumption|(refine @id ((_:Bool)=_) ?_;exact id (by with_unfolding_all rfl))|(exact Or.inl rfl)|(exact Or.inl trivial)|(exact okL_map _ (fun _=>rfl) _)|(simp only[VVlen]<;>omega)|fail) only[VV0,VV1,VV2,VV3,VV4,VV5,VV6,VV7,VV8,VV9,mkFnV,vargs,slotsL,opdsA,Nat.reduceEqDiff,Nat.reduceLT,Nat.reduceAdd,Nat.reduceBEq,Int.reduceAdd,Int.reduceSub,Int.reduceLT,Int.reduceLE,Int.reduceEq,Int.reduceNeg,↓reduceIte,reduceCtorEq,scL,scD,expand,List.replicate,c41])|(refine gC_drawW ?_)|(refine gI_dec (fun _=>?_) (fun _=>?_))|(refine gG_dec (fun _=>?_) (fun _=>?_))|(refine gPG_dec (fun _=>?_) (fun _=>?_))|(refine gI_var (fun _=>?_) (fun _=>?_))|(refine gG_var (fun _=>?_) (fun _=>?_))|(refine gPG_var (fun _=>?_) (fun _=>?_)))
  first|(exfalso;omega)|exact weak_flat rfl h0 rfl
theorem check1_p (x:Int):VSpec (EN w (n+2)) 40 [.sc (.int .i64 x)] (.sc (.bool (!col x))) ⟨[],0,0⟩:=by
 refine vspec_flat rfl rfl (fun _ _=>rfl) (Nat.le_of_ble_eq_true rfl) (oldVals w) rfl fun C hC h0=>?_
 repeat' (first|(simp (disch:=first|omega|assumption|(refine @id ((_:Bool)=_) ?_;exact id (by with_unfolding_all rfl))|(exact Or.inl rfl)|(exact Or.inl trivial)|(exact okL_map _ (fun _=>rfl) _)|(simp only[VVlen]<;>omega)|fail) only[VV0,VV1,VV2,VV3,VV4,VV5,VV6,VV7,VV8,VV9,mkFnV,vargs,slotsL,opdsA,Nat.reduceEqDiff,Nat.reduceLT,Nat.reduceAdd,Nat.reduceBEq,Int.reduceAdd,Int.reduceSub,Int.reduceLT,Int.reduceLE,Int.reduceEq,Int.reduceNeg,↓reduceIte,reduceCtorEq,scL,scD,expand,List.replicate,c40])|(refine gC_drawW ?_)|(refine gI_dec (fun _=>?_) (fun _=>?_))|(refine gG_dec (fun _=>?_) (fun _=>?_))|(refine gPG_dec (fun _=>?_) (fun _=>?_))|(refine gI_var (fun _=>?_) (fun _=>?_))|(refine gG_var (fun _=>?_) (fun _=>?_))|(refine gPG_var (fun _=>?_) (fun _=>?_)))
 refine callV_flat ((fun st=>(colour_p w n x).of hC rfl st rfl) _) ?_
 repeat' (first|(simp (disch:=first|omega|assumption|(refine @id ((_:Bool)=_) ?_;exact id (by with_unfolding_all rfl))|(exact Or.inl rfl)|(exact Or.inl trivial)|(exact okL_map _ (fun _=>rfl) _)|(simp only[VVlen]<;>omega)|fail) only[VV0,VV1,VV2,VV3,VV4,VV5,VV6,VV7,VV8,VV9,mkFnV,vargs,slotsL,opdsA,Nat.reduceEqDiff,Nat.reduceLT,Nat.reduceAdd,Nat.reduceBEq,Int.reduceAdd,Int.reduceSub,Int.reduceLT,Int.reduceLE,Int.reduceEq,Int.reduceNeg,↓reduceIte,reduceCtorEq,scL,scD,expand,List.replicate])|(refine gC_drawW ?_)|(refine gI_dec (fun _=>?_) (fun _=>?_))|(refine gG_dec (fun _=>?_) (fun _=>?_))|(refine gPG_dec (fun _=>?_) (fun _=>?_))|(refine gI_var (fun _=>?_) (fun _=>?_))|(refine gG_var (fun _=>?_) (fun _=>?_))|(refine gPG_var (fun _=>?_) (fun _=>?_)))
 exact weak_flat rfl h0 rfl
theorem indexFunc_p (s:Nat) (l:List Int) (hl:l.length≤140737488351232):VSpec (EN w (n+3)) 55 [.sl s l.length (l.map iD),.sc (.func (.func 40) #[] #[])] (.sc (.int .i64 (fb l))) ⟨[],0,0⟩:=by
 refine vspec_flat rfl rfl (fun _ _=>rfl) (Nat.le_of_ble_eq_true rfl) (oldVals w) rfl fun C hC h0=>?_
 simp (disch:=first|omega|assumption|(refine @id ((_:Bool)=_) ?_;exact id (by with_unfolding_all rfl))|(exact Or.inl rfl)|(exact Or.inl trivial)|(exact okL_map _ (fun _=>rfl) _)|(simp only[VVlen]<;>omega)|fail) only[VV0,VV1,VV2,VV3,VV4,VV5,VV6,VV7,VV8,VV9,mkFnV,vargs,slotsL,opdsA,Nat.reduceEqDiff,Nat.reduceLT,Nat.reduceAdd,Nat.reduceBEq,Int.reduceAdd,Int.reduceSub,Int.reduceLT,Int.reduceLE,Int.reduceEq,Int.reduceNeg,↓reduceIte,reduceCtorEq,scL,scD,expand,List.replicate,c55]
 refine g_while (fun m fr st=>∃ k:Nat,m=l.length - k∧k≤l.length∧(∀ j,j<k→col l[j]! =true)∧fr= [(0,.sl s l.length (l.map iD)),(1,.sc (.func (.func 40) #[] #[])),(7,.sc (.int .i64 l.length)),(8,.sc (.int .i64 k))]∧st=⟨[],0,0⟩) l.length ?_ ⟨_,_,.refl _ _,0,?_⟩ ?_
 ·rw[hC,callP_rounds];unfold many;omega
 ·exact ⟨by omega,by omega,(fun j hj=>absurd hj (Nat.not_lt_zero _)),rfl,rfl⟩
 ·rintro m fr st ⟨k,rfl,hk,ha,rfl,rfl⟩
  by_cases hlt:k<l.length
  ·repeat' (first|(simp (disch:=first|omega|assumption|(refine @id ((_:Bool)=_) ?_;exact id (by with_unfolding_all rfl))|(exact Or.inl rfl)|(exact Or.inl trivial)|(exact okL_map _ (fun _=>rfl) _)|(simp only[VVlen]<;>omega)|fail) only[VV0,VV1,VV2,VV3,VV4,VV5,VV6,VV7,VV8,VV9,mkFnV,vargs,slotsL,opdsA,Nat.reduceEqDiff,Nat.reduceLT,Nat.reduceAdd,Nat.reduceBEq,Int.reduceAdd,Int.reduceSub,Int.reduceLT,Int.reduceLE,Int.reduceEq,Int.reduceNeg,↓reduceIte,reduceCtorEq,scL,scD,expand,List.replicate,c55l0,iD_dv])|(refine gC_drawW ?_)|(refine gI_dec (fun _=>?_) (fun _=>?_))|(refine gG_dec (fun _=>?_) (fun _=>?_))|(refine gPG_dec (fun _=>?_) (fun _=>?_))|(refine gI_var (fun _=>?_) (fun _=>?_))|(refine gG_var (fun _=>?_) (fun _=>?_))|(refine gPG_var (fun _=>?_) (fun _=>?_)))
   refine callV_flat ((fun st=>(check1_p w n l[k]!).of hC rfl st rfl) _) ?_
   cases hc:col l[k]!
   ·have:=fb_at hlt ha hc
    rw[this]
    repeat' (first|(simp (disch:=first|omega|assumption|(refine @id ((_:Bool)=_) ?_;exact id (by with_unfolding_all rfl))|(exact Or.inl rfl)|(exact Or.inl trivial)|(exact okL_map _ (fun _=>rfl) _)|(simp only[VVlen]<;>omega)|fail) only[VV0,VV1,VV2,VV3,VV4,VV5,VV6,VV7,VV8,VV9,mkFnV,vargs,slotsL,opdsA,Nat.reduceEqDiff,Nat.reduceLT,Nat.reduceAdd,Nat.reduceBEq,Int.reduceAdd,Int.reduceSub,Int.reduceLT,Int.reduceLE,Int.reduceEq,Int.reduceNeg,↓reduceIte,reduceCtorEq,scL,scD,expand,List.replicate])|(refine gC_drawW ?_)|(refine gI_dec (fun _=>?_) (fun _=>?_))|(refine gG_dec (fun _=>?_) (fun _=>?_))|(refine gPG_dec (fun _=>?_) (fun _=>?_))|(refine gI_var (fun _=>?_) (fun _=>?_))|(refine gG_var (fun _=>?_) (fun _=>?_))|(refine gPG_var (fun _=>?_) (fun _=>?_)))
    exact weak_flat rfl h0 rfl
   ·repeat' (first|(simp (disch:=first|omega|assumption|(refine @id ((_:Bool)=_) ?_;exact id (by with_unfolding_all rfl))|(exact Or.inl rfl)|(exact Or.inl trivial)|(exact okL_map _ (fun _=>rfl) _)|(simp only[VVlen]<;>omega)|fail) only[VV0,VV1,VV2,VV3,VV4,VV5,VV6,VV7,VV8,VV9,mkFnV,vargs,slotsL,opdsA,Nat.reduceEqDiff,Nat.reduceLT,Nat.reduceAdd,Nat.reduceBEq,Int.reduceAdd,Int.reduceSub,Int.reduceLT,Int.reduceLE,Int.reduceEq,Int.reduceNeg,↓reduceIte,reduceCtorEq,scL,scD,expand,List.replicate])|(refine gC_drawW ?_)|(refine gI_dec (fun _=>?_) (fun _=>?_))|(refine gG_dec (fun _=>?_) (fun _=>?_))|(refine gPG_dec (fun _=>?_) (fun _=>?_))|(refine gI_var (fun _=>?_) (fun _=>?_))|(refine gG_var (fun _=>?_) (fun _=>?_))|(refine gPG_var (fun _=>?_) (fun _=>?_)))
    exact ⟨_,_,_,by omega,.refl _ _,k+1,rfl,hlt,(fun j hj=>by rcases Nat.lt_succ_iff_lt_or_eq.1 hj with h|h;exact ha j h;subst h;exact hc),rfl,rfl⟩
  ·have:k=l.length:=by omega
   subst this
   rw[(fb_end ha).1]
   repeat' (first|(simp (disch:=first|omega|assumption|(refine @id ((_:Bool)=_) ?_;exact id (by with_unfolding_all rfl))|(exact Or.inl rfl)|(exact Or.inl trivial)|(exact okL_map _ (fun _=>rfl) _)|(simp only[VVlen]<;>omega)|fail) only[VV0,VV1,VV2,VV3,VV4,VV5,VV6,VV7,VV8,VV9,mkFnV,vargs,slotsL,opdsA,Nat.reduceEqDiff,Nat.reduceLT,Nat.reduceAdd,Nat.reduceBEq,Int.reduceAdd,Int.reduceSub,Int.reduceLT,Int.reduceLE,Int.reduceEq,Int.reduceNeg,↓reduceIte,reduceCtorEq,scL,scD,expand,List.replicate,c55l0,iD_dv])|(refine gC_drawW ?_)|(refine gI_dec (fun _=>?_) (fun _=>?_))|(refine gG_dec (fun _=>?_) (fun _=>?_))|(refine gPG_dec (fun _=>?_) (fun _=>?_))|(refine gI_var (fun _=>?_) (fun _=>?_))|(refine gG_var (fun _=>?_) (fun _=>?_))|(refine gPG_var (fun _=>?_) (fun _=>?_)))
   exact weak_flat rfl h0 rfl
theorem contains_p (s:Nat) (l:List Int) (hl:l.length≤140737488351232):VSpec (EN w (n+4)) 39 [.sl s l.length (l.map iD),.sc (.func (.func 40) #[] #[])] (.sc (.bool (!l.all col))) ⟨[],0,0⟩:=by
 refine vspec_flat rfl rfl (fun _ _=>rfl) (Nat.le_of_ble_eq_true rfl) (oldVals w) rfl fun C hC h0=>?_
 repeat' (first|(simp (disch:=first|omega|assumption|(refine @id ((_:Bool)=_) ?_;exact id (by with_unfolding_all rfl))|(exact Or.inl rfl)|(exact Or.inl trivial)|(exact okL_map _ (fun _=>rfl) _)|(simp only[VVlen]<;>omega)|fail) only[VV0,VV1,VV2,VV3,VV4,VV5,VV6,VV7,VV8,VV9,mkFnV,vargs,slotsL,opdsA,Nat.reduceEqDiff,Nat.reduceLT,Nat.reduceAdd,Nat.reduceBEq,Int.reduceAdd,Int.reduceSub,Int.reduceLT,Int.reduceLE,Int.reduceEq,Int.reduceNeg,↓reduceIte,reduceCtorEq,scL,scD,expand,List.replicate,c39])|(refine gC_drawW ?_)|(refine gI_dec (fun _=>?_) (fun _=>?_))|(refine gG_dec (fun _=>?_) (fun _=>?_))|(refine gPG_dec (fun _=>?_) (fun _=>?_))|(refine gI_var (fun _=>?_) (fun _=>?_))|(refine gG_var (fun _=>?_) (fun _=>?_))|(refine gPG_var (fun _=>?_) (fun _=>?_)))
 refine callV_flat ((fun st=>(indexFunc_p w n s l hl).of hC rfl st rfl) _) ?_
 have e:(!l.all col)=decide (0≤fb l):=by
  unfold fb
  cases l.all col
  ·simp
  ·simp
 rw[e]
 repeat' (first|(simp (disch:=first|omega|assumption|(refine @id ((_:Bool)=_) ?_;exact id (by with_unfolding_all rfl))|(exact Or.inl rfl)|(exact Or.inl trivial)|(exact okL_map _ (fun _=>rfl) _)|(simp only[VVlen]<;>omega)|fail) only[VV0,VV1,VV2,VV3,VV4,VV5,VV6,VV7,VV8,VV9,mkFnV,vargs,slotsL,opdsA,Nat.reduceEqDiff,Nat.reduceLT,Nat.reduceAdd,Nat.reduceBEq,Int.reduceAdd,Int.reduceSub,Int.reduceLT,Int.reduceLE,Int.reduceEq,Int.reduceNeg,↓reduceIte,reduceCtorEq,scL,scD,expand,List.replicate])|(refine gC_drawW ?_)|(refine gI_dec (fun _=>?_) (fun _=>?_))|(refine gG_dec (fun _=>?_) (fun _=>?_))|(refine gPG_dec (fun _=>?_) (fun _=>?_))|(refine gI_var (fun _=>?_) (fun _=>?_))|(refine gG_var (fun _=>?_) (fun _=>?_))|(refine gPG_var (fun _=>?_) (fun _=>?_)))
 exact weak_flat rfl h0 rfl
theorem check_p (s:Nat) (l:List Int) (hl:l.length≤140737488351232):VSpec (EN w (n+5)) 14 [.sl s l.length (l.map iD)] (.sc (.int .i64 (chk l))) ⟨[],0,0⟩:=by
 refine vspec_flat rfl rfl (fun _ _=>rfl) (Nat.le_of_ble_eq_true rfl) (oldVals w) rfl fun C hC h0=>?_
 by_cases h4:4000<l.length
 ·have e:chk l=4:=if_pos h4
  rw[e]
  repeat' (first|(simp (disch:=first|omega|assumption|(refine @id ((_:Bool)=_) ?_;exact id (by with_unfolding_all rfl))|(exact Or.inl rfl)|(exact Or.inl trivial)|(exact okL_map _ (fun _=>rfl) _)|(simp only[VVlen]<;>omega)|fail) only[VV0,VV1,VV2,VV3,VV4,VV5,VV6,VV7,VV8,VV9,mkFnV,vargs,slotsL,opdsA,Nat.reduceEqDiff,Nat.reduceLT,Nat.reduceAdd,Nat.reduceBEq,Int.reduceAdd,Int.reduceSub,Int.reduceLT,Int.reduceLE,Int.reduceEq,Int.reduceNeg,↓reduceIte,reduceCtorEq,scL,scD,expand,List.replicate,c14])|(refine gC_drawW ?_)|(refine gI_dec (fun _=>?_) (fun _=>?_))|(refine gG_dec (fun _=>?_) (fun _=>?_))|(refine gPG_dec (fun _=>?_) (fun _=>?_))|(refine gI_var (fun _=>?_) (fun _=>?_))|(refine gG_var (fun _=>?_) (fun _=>?_))|(refine gPG_var (fun _=>?_) (fun _=>?_)))
  exact weak_flat rfl h0 rfl
 have e:chk l=if l.all col then 0 else 8:=if_neg h4
 rw[e]
 repeat' (first|(simp (disch:=first|omega|assumption|(refine @id ((_:Bool)=_) ?_;exact id (by with_unfolding_all rfl))|(exact Or.inl rfl)|(exact Or.inl trivial)|(exact okL_map _ (fun _=>rfl) _)|(simp only[VVlen]<;>omega)|fail) only[VV0,VV1,VV2,VV3,VV4,VV5,VV6,VV7,VV8,VV9,mkFnV,vargs,slotsL,opdsA,Nat.reduceEqDiff,Nat.reduceLT,Nat.reduceAdd,Nat.reduceBEq,Int.reduceAdd,Int.reduceSub,Int.reduceLT,Int.reduceLE,Int.reduceEq,Int.reduceNeg,↓reduceIte,reduceCtorEq,scL,scD,expand,List.replicate,c14])|(refine gC_drawW ?_)|(refine gI_dec (fun _=>?_) (fun _=>?_))|(refine gG_dec (fun _=>?_) (fun _=>?_))|(refine gPG_dec (fun _=>?_) (fun _=>?_))|(refine gI_var (fun _=>?_) (fun _=>?_))|(refine gG_var (fun _=>?_) (fun _=>?_))|(refine gPG_var (fun _=>?_) (fun _=>?_)))
 refine callV_flat ((fun st=>(contains_p w n s l hl).of hC rfl st rfl) _) ?_
 cases l.all col
 ·repeat' (first|(simp (disch:=first|omega|assumption|(refine @id ((_:Bool)=_) ?_;exact id (by with_unfolding_all rfl))|(exact Or.inl rfl)|(exact Or.inl trivial)|(exact okL_map _ (fun _=>rfl) _)|(simp only[VVlen]<;>omega)|fail) only[VV0,VV1,VV2,VV3,VV4,VV5,VV6,VV7,VV8,VV9,mkFnV,vargs,slotsL,opdsA,Nat.reduceEqDiff,Nat.reduceLT,Nat.reduceAdd,Nat.reduceBEq,Int.reduceAdd,Int.reduceSub,Int.reduceLT,Int.reduceLE,Int.reduceEq,Int.reduceNeg,↓reduceIte,reduceCtorEq,scL,scD,expand,List.replicate])|(refine gC_drawW ?_)|(refine gI_dec (fun _=>?_) (fun _=>?_))|(refine gG_dec (fun _=>?_) (fun _=>?_))|(refine gPG_dec (fun _=>?_) (fun _=>?_))|(refine gI_var (fun _=>?_) (fun _=>?_))|(refine gG_var (fun _=>?_) (fun _=>?_))|(refine gPG_var (fun _=>?_) (fun _=>?_)))
  exact weak_flat rfl h0 rfl
 ·repeat' (first|(simp (disch:=first|omega|assumption|(refine @id ((_:Bool)=_) ?_;exact id (by with_unfolding_all rfl))|(exact Or.inl rfl)|(exact Or.inl trivial)|(exact okL_map _ (fun _=>rfl) _)|(simp only[VVlen]<;>omega)|fail) only[VV0,VV1,VV2,VV3,VV4,VV5,VV6,VV7,VV8,VV9,mkFnV,vargs,slotsL,opdsA,Nat.reduceEqDiff,Nat.reduceLT,Nat.reduceAdd,Nat.reduceBEq,Int.reduceAdd,Int.reduceSub,Int.reduceLT,Int.reduceLE,Int.reduceEq,Int.reduceNeg,↓reduceIte,reduceCtorEq,scL,scD,expand,List.replicate])|(refine gC_drawW ?_)|(refine gI_dec (fun _=>?_) (fun _=>?_))|(refine gG_dec (fun _=>?_) (fun _=>?_))|(refine gPG_dec (fun _=>?_) (fun _=>?_))|(refine gI_var (fun _=>?_) (fun _=>?_))|(refine gG_var (fun _=>?_) (fun _=>?_))|(refine gPG_var (fun _=>?_) (fun _=>?_)))
  exact weak_flat rfl h0 rfl
theorem rcheck_p (s:Nat) (l:List Int) (hl:l.length≤140737488351232):VSpec (EN w (n+1)) 15 [.sl s l.length (l.map iD)] (.sc (.int .i64 (chk l))) ⟨[],0,0⟩:=by
 refine vspec_flat rfl rfl (fun _ _=>rfl) (Nat.le_of_ble_eq_true rfl) (oldVals w) rfl fun C hC h0=>?_
 by_cases h4:4000<l.length
 ·have e:chk l=4:=if_pos h4
  rw[e]
  repeat' (first|(simp (disch:=first|omega|assumption|(refine @id ((_:Bool)=_) ?_;exact id (by with_unfolding_all rfl))|(exact Or.inl rfl)|(exact Or.inl trivial)|(exact okL_map _ (fun _=>rfl) _)|(simp only[VVlen]<;>omega)|fail) only[VV0,VV1,VV2,VV3,VV4,VV5,VV6,VV7,VV8,VV9,mkFnV,vargs,slotsL,opdsA,Nat.reduceEqDiff,Nat.reduceLT,Nat.reduceAdd,Nat.reduceBEq,Int.reduceAdd,Int.reduceSub,Int.reduceLT,Int.reduceLE,Int.reduceEq,Int.reduceNeg,↓reduceIte,reduceCtorEq,scL,scD,expand,List.replicate,c15])|(refine gC_drawW ?_)|(refine gI_dec (fun _=>?_) (fun _=>?_))|(refine gG_dec (fun _=>?_) (fun _=>?_))|(refine gPG_dec (fun _=>?_) (fun _=>?_))|(refine gI_var (fun _=>?_) (fun _=>?_))|(refine gG_var (fun _=>?_) (fun _=>?_))|(refine gPG_var (fun _=>?_) (fun _=>?_)))
  exact weak_flat rfl h0 rfl
 have e:chk l=if l.all col then 0 else 8:=if_neg h4
 rw[e]
 simp (disch:=first|omega|assumption|(refine @id ((_:Bool)=_) ?_;exact id (by with_unfolding_all rfl))|(exact Or.inl rfl)|(exact Or.inl trivial)|(exact okL_map _ (fun _=>rfl) _)|(simp only[VVlen]<;>omega)|fail) only[VV0,VV1,VV2,VV3,VV4,VV5,VV6,VV7,VV8,VV9,mkFnV,vargs,slotsL,opdsA,Nat.reduceEqDiff,Nat.reduceLT,Nat.reduceAdd,Nat.reduceBEq,Int.reduceAdd,Int.reduceSub,Int.reduceLT,Int.reduceLE,Int.reduceEq,Int.reduceNeg,↓reduceIte,reduceCtorEq,scL,scD,expand,List.replicate,c15]
 refine g_while (fun m fr st=>∃ k:Nat,m=l.length - k∧k≤l.length∧(∀ j,j<k→col l[j]! =true)∧fr= [(0,.sl s l.length (l.map iD)),(3,.sc (.int .i64 k))]∧st=⟨[],0,0⟩) l.length ?_ ⟨_,_,.refl _ _,0,?_⟩ ?_
 ·rw[hC,callP_rounds];unfold many;omega
 ·exact ⟨by omega,by omega,(fun j hj=>absurd hj (Nat.not_lt_zero _)),rfl,rfl⟩
 ·rintro m fr st ⟨k,rfl,hk,ha,rfl,rfl⟩
  by_cases hlt:k<l.length
  ·cases hc:col l[k]!
   ·rw[if_neg (by rw[all_at hlt hc];exact Bool.false_ne_true)]
    have hc':¬ (0≤l[k]! ∧l[k]! ≤15):=by
     intro h
     have:col l[k]! =true:=by unfold col;rw[Bool.and_eq_true];exact ⟨decide_eq_true h.1,decide_eq_true h.2⟩
     rw[hc] at this;cases this
    generalize hx:l[k]! =x at hc'
    by_cases h1:x<0
    ·repeat' (first|(simp (disch:=first|omega|assumption|(refine @id ((_:Bool)=_) ?_;exact id (by with_unfolding_all rfl))|(exact Or.inl rfl)|(exact Or.inl trivial)|(exact okL_map _ (fun _=>rfl) _)|(simp only[VVlen]<;>omega)|fail) only[VV0,VV1,VV2,VV3,VV4,VV5,VV6,VV7,VV8,VV9,mkFnV,vargs,slotsL,opdsA,Nat.reduceEqDiff,Nat.reduceLT,Nat.reduceAdd,Nat.reduceBEq,Int.reduceAdd,Int.reduceSub,Int.reduceLT,Int.reduceLE,Int.reduceEq,Int.reduceNeg,↓reduceIte,reduceCtorEq,scL,scD,expand,List.replicate,c15l0,iD_dv,hx])|(refine gC_drawW ?_)|(refine gI_dec (fun _=>?_) (fun _=>?_))|(refine gG_dec (fun _=>?_) (fun _=>?_))|(refine gPG_dec (fun _=>?_) (fun _=>?_))|(refine gI_var (fun _=>?_) (fun _=>?_))|(refine gG_var (fun _=>?_) (fun _=>?_))|(refine gPG_var (fun _=>?_) (fun _=>?_)))
     exact weak_flat rfl h0 rfl
    ·have h2:15<x:=by omega
     repeat' (first|(simp (disch:=first|omega|assumption|(refine @id ((_:Bool)=_) ?_;exact id (by with_unfolding_all rfl))|(exact Or.inl rfl)|(exact Or.inl trivial)|(exact okL_map _ (fun _=>rfl) _)|(simp only[VVlen]<;>omega)|fail) only[VV0,VV1,VV2,VV3,VV4,VV5,VV6,VV7,VV8,VV9,mkFnV,vargs,slotsL,opdsA,Nat.reduceEqDiff,Nat.reduceLT,Nat.reduceAdd,Nat.reduceBEq,Int.reduceAdd,Int.reduceSub,Int.reduceLT,Int.reduceLE,Int.reduceEq,Int.reduceNeg,↓reduceIte,reduceCtorEq,scL,scD,expand,List.replicate,c15l0,iD_dv,hx])|(refine gC_drawW ?_)|(refine gI_dec (fun _=>?_) (fun _=>?_))|(refine gG_dec (fun _=>?_) (fun _=>?_))|(refine gPG_dec (fun _=>?_) (fun _=>?_))|(refine gI_var (fun _=>?_) (fun _=>?_))|(refine gG_var (fun _=>?_) (fun _=>?_))|(refine gPG_var (fun _=>?_) (fun _=>?_)))
     exact weak_flat rfl h0 rfl
   ·have hc':0≤l[k]! ∧l[k]! ≤15:=by simpa [col] using hc
    have hn:∀ j,j<k+1→col l[j]! =true:=(fun j hj=>by rcases Nat.lt_succ_iff_lt_or_eq.1 hj with h|h;exact ha j h;subst h;exact hc)
    generalize hx:l[k]! =x at hc'
    have h1:¬ x<0:=by omega
    have h2:¬ 15<x:=by omega
    repeat' (first|(simp (disch:=first|omega|assumption|(refine @id ((_:Bool)=_) ?_;exact id (by with_unfolding_all rfl))|(exact Or.inl rfl)|(exact Or.inl trivial)|(exact okL_map _ (fun _=>rfl) _)|(simp only[VVlen]<;>omega)|fail) only[VV0,VV1,VV2,VV3,VV4,VV5,VV6,VV7,VV8,VV9,mkFnV,vargs,slotsL,opdsA,Nat.reduceEqDiff,Nat.reduceLT,Nat.reduceAdd,Nat.reduceBEq,Int.reduceAdd,Int.reduceSub,Int.reduceLT,Int.reduceLE,Int.reduceEq,Int.reduceNeg,↓reduceIte,reduceCtorEq,scL,scD,expand,List.replicate,c15l0,iD_dv,hx])|(refine gC_drawW ?_)|(refine gI_dec (fun _=>?_) (fun _=>?_))|(refine gG_dec (fun _=>?_) (fun _=>?_))|(refine gPG_dec (fun _=>?_) (fun _=>?_))|(refine gI_var (fun _=>?_) (fun _=>?_))|(refine gG_var (fun _=>?_) (fun _=>?_))|(refine gPG_var (fun _=>?_) (fun _=>?_)))
    exact ⟨_,_,_,by omega,.refl _ _,k+1,rfl,hlt,hn,rfl,rfl⟩
  ·have:k=l.length:=by omega
   subst this
   rw[if_pos (fb_end ha).2]
   repeat' (first|(simp (disch:=first|omega|assumption|(refine @id ((_:Bool)=_) ?_;exact id (by with_unfolding_all rfl))|(exact Or.inl rfl)|(exact Or.inl trivial)|(exact okL_map _ (fun _=>rfl) _)|(simp only[VVlen]<;>omega)|fail) only[VV0,VV1,VV2,VV3,VV4,VV5,VV6,VV7,VV8,VV9,mkFnV,vargs,slotsL,opdsA,Nat.reduceEqDiff,Nat.reduceLT,Nat.reduceAdd,Nat.reduceBEq,Int.reduceAdd,Int.reduceSub,Int.reduceLT,Int.reduceLE,Int.reduceEq,Int.reduceNeg,↓reduceIte,reduceCtorEq,scL,scD,expand,List.replicate,c15l0,iD_dv])|(refine gC_drawW ?_)|(refine gI_dec (fun _=>?_) (fun _=>?_))|(refine gG_dec (fun _=>?_) (fun _=>?_))|(refine gPG_dec (fun _=>?_) (fun _=>?_))|(refine gI_var (fun _=>?_) (fun _=>?_))|(refine gG_var (fun _=>?_) (fun _=>?_))|(refine gPG_var (fun _=>?_) (fun _=>?_)))
   exact weak_flat rfl h0 rfl
end
end Go.Proofs.YtgglaaldlegckaaDoor
namespace Go.Proofs.YtgglaaldlegckaaDoor
open Go Go.Itp
set_option maxRecDepth 100000
set_option maxHeartbeats 1000000
set_option linter.unusedSimpArgs false
abbrev runV (n c:Int):V:= .agg [.sc (.int .i64 n),.sc (.int .i64 c)]
structure Run (l:List Int) (f t:Nat):Prop where
 lt:f<t
 le:t≤l.length
 all:∀ j,f≤j→j<t→l[j]! =l[f]!
 fin:t=l.length∨l[t]! ≠ l[f]!
 beg:f=0∨l[f]! ≠ l[f - 1]!
theorem runs_iter {C':Ctx} {E:Env} {a b:AC} {fr:VFr} {ps:List Nat} {d o s:Nat} {l:List Int} {J:Nat→VSt→Prop} {P:VPost} (hr:C'.E.rounds=many) (hl:l.length≤5000)
  (hT:∀ xs st Q,RoundV E a b fr ps d xs st Q→CallT C' d xs st Q) (hbox:∀ k st,J k st→∃ t,aget st.own o=some (.box t 1 [.sl s l.length (l.map iD)]))
  (hround:∀ f t st (Q:V→VSt→Prop),Run l f t→J f st→(∀ st',J t st'→Q (.sc (.bool true)) st')→RoundV E a b fr ps d [runV ((t:Int) - f) l[f]!] st Q) (hend:∀ fr st,J l.length st→P .normal fr st) (st0:VSt) (h0:J 0 st0):
  gC C' c52.code [] (vargs 0 [.tok d,.ptr o 0]) st0 P:=by
 repeat' (first|(simp (disch:=first|omega|assumption|(refine @id ((_:Bool)=_) ?_;exact id (by with_unfolding_all rfl))|(exact Or.inl rfl)|(exact Or.inl trivial)|(exact okL_map _ (fun _=>rfl) _)|(simp only[VVlen]<;>omega)|fail) only[VV0,VV1,VV2,VV3,VV4,VV5,VV6,VV7,VV8,VV9,mkFnV,vargs,slotsL,opdsA,Nat.reduceEqDiff,Nat.reduceLT,Nat.reduceAdd,Nat.reduceBEq,Int.reduceAdd,Int.reduceSub,Int.reduceLT,Int.reduceLE,Int.reduceEq,Int.reduceNeg,↓reduceIte,reduceCtorEq,scL,scD,expand,List.replicate,c52])|(refine gC_drawW ?_)|(refine gI_dec (fun _=>?_) (fun _=>?_))|(refine gG_dec (fun _=>?_) (fun _=>?_))|(refine gPG_dec (fun _=>?_) (fun _=>?_))|(refine gI_var (fun _=>?_) (fun _=>?_))|(refine gG_var (fun _=>?_) (fun _=>?_))|(refine gPG_var (fun _=>?_) (fun _=>?_)))
 refine g_while (fun m fr st=>∃ k:Nat,m=l.length - k∧k≤l.length∧(k=0∨k=l.length∨l[k]! ≠ l[k - 1]!)∧J k st∧fr= [(0,.tok d),(1,.ptr o 0),(3,.sc (.int .i64 k))]) l.length ?_ ⟨_,_,.refl _ _,0,?_⟩ ?_
 ·rw[hr];unfold many;omega
 ·exact ⟨by omega,by omega,.inl rfl,h0,rfl⟩
 rintro m fr1 st ⟨k,rfl,hk,hbeg,hJ,rfl⟩
 obtain ⟨t0,hb⟩:=hbox k st hJ
 by_cases hlt:k<l.length
 case neg=>
  have:k=l.length:=by omega
  subst this
  repeat' (first|(simp (disch:=first|omega|assumption|(refine @id ((_:Bool)=_) ?_;exact id (by with_unfolding_all rfl))|(exact Or.inl rfl)|(exact Or.inl trivial)|(exact okL_map _ (fun _=>rfl) _)|(simp only[VVlen]<;>omega)|fail) only[VV0,VV1,VV2,VV3,VV4,VV5,VV6,VV7,VV8,VV9,mkFnV,vargs,slotsL,opdsA,Nat.reduceEqDiff,Nat.reduceLT,Nat.reduceAdd,Nat.reduceBEq,Int.reduceAdd,Int.reduceSub,Int.reduceLT,Int.reduceLE,Int.reduceEq,Int.reduceNeg,↓reduceIte,reduceCtorEq,scL,scD,expand,List.replicate,c52l1,hb])|(refine gC_drawW ?_)|(refine gI_dec (fun _=>?_) (fun _=>?_))|(refine gG_dec (fun _=>?_) (fun _=>?_))|(refine gPG_dec (fun _=>?_) (fun _=>?_))|(refine gI_var (fun _=>?_) (fun _=>?_))|(refine gG_var (fun _=>?_) (fun _=>?_))|(refine gPG_var (fun _=>?_) (fun _=>?_)))
  all_goals try (exfalso;omega)
  exact hend _ _ hJ
 repeat' (first|(simp (disch:=first|omega|assumption|(refine @id ((_:Bool)=_) ?_;exact id (by with_unfolding_all rfl))|(exact Or.inl rfl)|(exact Or.inl trivial)|(exact okL_map _ (fun _=>rfl) _)|(simp only[VVlen]<;>omega)|fail) only[VV0,VV1,VV2,VV3,VV4,VV5,VV6,VV7,VV8,VV9,mkFnV,vargs,slotsL,opdsA,Nat.reduceEqDiff,Nat.reduceLT,Nat.reduceAdd,Nat.reduceBEq,Int.reduceAdd,Int.reduceSub,Int.reduceLT,Int.reduceLE,Int.reduceEq,Int.reduceNeg,↓reduceIte,reduceCtorEq,scL,scD,expand,List.replicate,c52l1,hb])|(refine gC_drawW ?_)|(refine gI_dec (fun _=>?_) (fun _=>?_))|(refine gG_dec (fun _=>?_) (fun _=>?_))|(refine gPG_dec (fun _=>?_) (fun _=>?_))|(refine gI_var (fun _=>?_) (fun _=>?_))|(refine gG_var (fun _=>?_) (fun _=>?_))|(refine gPG_var (fun _=>?_) (fun _=>?_)))
 all_goals try (exfalso;omega)
 refine g_while (fun m fr st'=>∃ t:Nat,m=l.length - t∧k<t∧t≤l.length∧(∀ j,k≤j→j<t→l[j]! =l[k]!)∧st'=st∧fr= [(0,.tok d),(1,.ptr o 0),(3,.sc (.int .i64 k)),(4,.sc (.int .i64 t))]) (l.length - (k+1)) ?_ ⟨_,_,.refl _ _,k+1,?_⟩ ?_
 ·rw[hr];unfold many;omega
 ·exact ⟨rfl,by omega,by omega,fun j h1 h2=>by rw[show j=k by omega],rfl,by simp only[Int.natCast_add,Int.natCast_one]⟩
 rintro m fr2 st2 ⟨t,rfl,hkt,htl,hall,rfl,rfl⟩
 by_cases ht:t<l.length
 ·by_cases he:l[t]! =l[k]!
  ·repeat' (first|(simp (disch:=first|omega|assumption|(refine @id ((_:Bool)=_) ?_;exact id (by with_unfolding_all rfl))|(exact Or.inl rfl)|(exact Or.inl trivial)|(exact okL_map _ (fun _=>rfl) _)|(simp only[VVlen]<;>omega)|fail) only[VV0,VV1,VV2,VV3,VV4,VV5,VV6,VV7,VV8,VV9,mkFnV,vargs,slotsL,opdsA,Nat.reduceEqDiff,Nat.reduceLT,Nat.reduceAdd,Nat.reduceBEq,Int.reduceAdd,Int.reduceSub,Int.reduceLT,Int.reduceLE,Int.reduceEq,Int.reduceNeg,↓reduceIte,reduceCtorEq,scL,scD,expand,List.replicate,c52l0,iD_dv,hb,he])|(refine gC_drawW ?_)|(refine gI_dec (fun _=>?_) (fun _=>?_))|(refine gG_dec (fun _=>?_) (fun _=>?_))|(refine gPG_dec (fun _=>?_) (fun _=>?_))|(refine gI_var (fun _=>?_) (fun _=>?_))|(refine gG_var (fun _=>?_) (fun _=>?_))|(refine gPG_var (fun _=>?_) (fun _=>?_)))
   all_goals try (exfalso;omega)
   exact ⟨_,_,_,by omega,.refl _ _,t+1,rfl,by omega,ht,fun j h1 h2=>by rcases Nat.lt_succ_iff_lt_or_eq.1 h2 with h|h;exact hall j h1 h;subst h;exact he,rfl,rfl⟩
  ·repeat' (first|(simp (disch:=first|omega|assumption|(refine @id ((_:Bool)=_) ?_;exact id (by with_unfolding_all rfl))|(exact Or.inl rfl)|(exact Or.inl trivial)|(exact okL_map _ (fun _=>rfl) _)|(simp only[VVlen]<;>omega)|fail) only[VV0,VV1,VV2,VV3,VV4,VV5,VV6,VV7,VV8,VV9,mkFnV,vargs,slotsL,opdsA,Nat.reduceEqDiff,Nat.reduceLT,Nat.reduceAdd,Nat.reduceBEq,Int.reduceAdd,Int.reduceSub,Int.reduceLT,Int.reduceLE,Int.reduceEq,Int.reduceNeg,↓reduceIte,reduceCtorEq,scL,scD,expand,List.replicate,c52l0,iD_dv,hb,he])|(refine gC_drawW ?_)|(refine gI_dec (fun _=>?_) (fun _=>?_))|(refine gG_dec (fun _=>?_) (fun _=>?_))|(refine gPG_dec (fun _=>?_) (fun _=>?_))|(refine gI_var (fun _=>?_) (fun _=>?_))|(refine gG_var (fun _=>?_) (fun _=>?_))|(refine gPG_var (fun _=>?_) (fun _=>?_)))
   all_goals try (exfalso;omega)
   refine hT _ _ _ (hround k t _ _ ⟨hkt,htl,hall,.inr he,hbeg.elim .inl fun h=> .inr (h.elim (fun h=>by omega) id)⟩ hJ fun st' hJ'=>?_)
   repeat' (first|(simp (disch:=first|omega|assumption|(refine @id ((_:Bool)=_) ?_;exact id (by with_unfolding_all rfl))|(exact Or.inl rfl)|(exact Or.inl trivial)|(exact okL_map _ (fun _=>rfl) _)|(simp only[VVlen]<;>omega)|fail) only[VV0,VV1,VV2,VV3,VV4,VV5,VV6,VV7,VV8,VV9,mkFnV,vargs,slotsL,opdsA,Nat.reduceEqDiff,Nat.reduceLT,Nat.reduceAdd,Nat.reduceBEq,Int.reduceAdd,Int.reduceSub,Int.reduceLT,Int.reduceLE,Int.reduceEq,Int.reduceNeg,↓reduceIte,reduceCtorEq,scL,scD,expand,List.replicate])|(refine gC_drawW ?_)|(refine gI_dec (fun _=>?_) (fun _=>?_))|(refine gG_dec (fun _=>?_) (fun _=>?_))|(refine gPG_dec (fun _=>?_) (fun _=>?_))|(refine gI_var (fun _=>?_) (fun _=>?_))|(refine gG_var (fun _=>?_) (fun _=>?_))|(refine gPG_var (fun _=>?_) (fun _=>?_)))
   refine ⟨_,_,_,by omega,.refl _ _,t,rfl,htl,.inr (.inr ?_),hJ',rfl⟩
   rw[hall (t - 1) (by omega) (by omega)]
   exact he
 have htt:t=l.length:=by omega
 repeat' (first|(simp (disch:=first|omega|assumption|(refine @id ((_:Bool)=_) ?_;exact id (by with_unfolding_all rfl))|(exact Or.inl rfl)|(exact Or.inl trivial)|(exact okL_map _ (fun _=>rfl) _)|(simp only[VVlen]<;>omega)|fail) only[VV0,VV1,VV2,VV3,VV4,VV5,VV6,VV7,VV8,VV9,mkFnV,vargs,slotsL,opdsA,Nat.reduceEqDiff,Nat.reduceLT,Nat.reduceAdd,Nat.reduceBEq,Int.reduceAdd,Int.reduceSub,Int.reduceLT,Int.reduceLE,Int.reduceEq,Int.reduceNeg,↓reduceIte,reduceCtorEq,scL,scD,expand,List.replicate,c52l0,iD_dv,hb])|(refine gC_drawW ?_)|(refine gI_dec (fun _=>?_) (fun _=>?_))|(refine gG_dec (fun _=>?_) (fun _=>?_))|(refine gPG_dec (fun _=>?_) (fun _=>?_))|(refine gI_var (fun _=>?_) (fun _=>?_))|(refine gG_var (fun _=>?_) (fun _=>?_))|(refine gPG_var (fun _=>?_) (fun _=>?_)))
 all_goals try (exfalso;omega)
 subst htt
 refine hT _ _ _ (hround k l.length _ _ ⟨hkt,htl,hall,.inl rfl,hbeg.elim .inl fun h=> .inr (h.elim (fun h=>by omega) id)⟩ hJ fun st' hJ'=>?_)
 repeat' (first|(simp (disch:=first|omega|assumption|(refine @id ((_:Bool)=_) ?_;exact id (by with_unfolding_all rfl))|(exact Or.inl rfl)|(exact Or.inl trivial)|(exact okL_map _ (fun _=>rfl) _)|(simp only[VVlen]<;>omega)|fail) only[VV0,VV1,VV2,VV3,VV4,VV5,VV6,VV7,VV8,VV9,mkFnV,vargs,slotsL,opdsA,Nat.reduceEqDiff,Nat.reduceLT,Nat.reduceAdd,Nat.reduceBEq,Int.reduceAdd,Int.reduceSub,Int.reduceLT,Int.reduceLE,Int.reduceEq,Int.reduceNeg,↓reduceIte,reduceCtorEq,scL,scD,expand,List.replicate])|(refine gC_drawW ?_)|(refine gI_dec (fun _=>?_) (fun _=>?_))|(refine gG_dec (fun _=>?_) (fun _=>?_))|(refine gPG_dec (fun _=>?_) (fun _=>?_))|(refine gI_var (fun _=>?_) (fun _=>?_))|(refine gG_var (fun _=>?_) (fun _=>?_))|(refine gPG_var (fun _=>?_) (fun _=>?_)))
 exact ⟨_,_,_,by omega,.refl _ _,l.length,rfl,htl,.inr (.inl rfl),hJ',rfl⟩
end Go.Proofs.YtgglaaldlegckaaDoor
namespace Go.Proofs.YtgglaaldlegckaaDoor
open Go Go.Itp
set_option maxRecDepth 100000
set_option maxHeartbeats 1000000
set_option linter.unusedSimpArgs false
def incLast:List (Int × Int)→List (Int × Int)
 | []=> []
 | [p]=> [(p.1+1,p.2)]
 |p::q::r=>p::incLast (q::r)
theorem incLast_append:∀ (xs:List (Int × Int)) (p:Int × Int),incLast (xs++ [p])=xs++ [(p.1+1,p.2)]
 | [],p=>rfl
 | [x],p=>rfl
 |x::y::r,p=>by
  have:=incLast_append (y::r) p
  simp only[List.cons_append] at this ⊢
  rw[← this]
  rfl
def runsP (l:List Int):Nat→List (Int × Int)
 |0=> []
 |k+1=>if 0<k∧l[k]! =l[k - 1]! then incLast (runsP l k) else runsP l k++ [(1,l[k]!)]
theorem runsP_run {l:List Int} {f t:Nat} (h:Run l f t):runsP l t=runsP l f++ [((t:Int) - f,l[f]!)]:=by
 have key:∀ n,f+n+1≤t→runsP l (f+n+1)=runsP l f++ [(((f+n+1:Nat):Int) - f,l[f]!)]:=by
  intro n
  induction n with
  |zero=>
   intro _
   simp only[runsP,Nat.add_zero]
   rw[if_neg (fun hc=>h.beg.elim (fun h0=>by omega) (fun hb=>hb hc.2))]
   congr 3
   omega
  |succ n ih=>
   intro hn
   have e:=ih (by omega)
   have h1:=h.all (f+n+1) (by omega) (by omega)
   have h2:=h.all (f+n) (by omega) (by omega)
   rw[show f+(n+1)+1=(f+n+1)+1 by omega]
   rw[runsP,if_pos ⟨by omega,by rw[h1,show f+n+1 - 1=f+n by omega,h2]⟩,e,incLast_append]
   congr 3
   omega
 obtain ⟨n,rfl⟩:∃ n,t=f+n+1:=⟨t - f - 1,by have:=h.lt;omega⟩
 exact key n (Nat.le_refl _)
def runC (L:List (Int × Int)):List D:=L.flatMap fun p=> [iD p.1,iD p.2]
theorem runC_append (L:List (Int × Int)) (p:Int × Int):runC (L++ [p])=runC L++ [iD p.1,iD p.2]:=by simp[runC]
theorem runC_len (L:List (Int × Int)):(runC L).length=L.length*2:=by
 induction L with
 |nil=>rfl
 |cons p L ih=>simp[runC] at ih ⊢;omega
theorem runsP_len (l:List Int):∀ k,(runsP l k).length≤k
 |0=>Nat.le_refl _
 |k+1=>by
  have:=runsP_len l k
  have hi:∀ L:List (Int × Int),(incLast L).length=L.length:=fun L=>by
   induction L with
   |nil=>rfl
   |cons p L ih=>cases L with
    |nil=>rfl
    |cons q r=>simp only[incLast,List.length_cons] at ih ⊢;omega
  simp only[runsP]
  split
  ·rw[hi];omega
  ·simp;omega
theorem row1V_run (nx t:Nat) (x y:Value):mkRowV nx t 2 1 [.int .i64 0,.int .i64 0] [(0,2,.agg [.sc x,.sc y])]=some (.ref nx 0 1 1,some (.row t 2 false false [.sc x,.sc y]),[]):=(rfl)
def idR (os:List Nat):List (Nat × Nat):=os.map fun o=>(o,o)
theorem okRen_id (base k:Nat):∀ os:List Nat,os.Nodup→(∀ o ∈ os,o<k)→okRen base 0 k (idR os)=true
 | [],_,_=>rfl
 |o::r,hn,hk=>by
  rw[List.nodup_cons] at hn
  have h1:∀ r:List Nat,o ∉ r→notIn o (idR r)=true∧notKey o (idR r)=true:=by
   intro r
   induction r with
   |nil=>intro _;exact ⟨rfl,rfl⟩
   |cons x r ih=>
    intro hx
    rw[List.mem_cons,not_or] at hx
    have hb:Nat.beq o x=false:=nbf.2 hx.1
    have:=ih hx.2
    exact ⟨by simp only[idR,List.map_cons,notIn,hb];exact this.1,by simp only[idR,List.map_cons,notKey,hb];exact this.2⟩
  have h2:=okRen_id base k r hn.2 fun x hx=>hk x (List.mem_cons_of_mem _ hx)
  have h3:=h1 r hn.1
  have h4:Nat.blt o k=true:=by rw[Nat.blt_eq];exact hk o List.mem_cons_self
  have h5:Nat.beq o o=true:=nbeq.2 rfl
  show (notIn o (idR r) && notKey o (idR r) && Nat.blt o k && (Nat.ble base o||Nat.beq o o) && (!Nat.ble 0 o||Nat.ble 0 o) && okRen base 0 k (idR r))=true
  rw[h3.1,h3.2,h4,h5,h2]
  simp
theorem weak_keep {C:Ctx} {H:VHp} {nx:Nat} (os:List Nat) (hn:os.Nodup) (hk:∀ o ∈ os,o<nx) (hb:C.w0.nx≤nx):Weak C [] ⟨H,nx,0⟩ [] ⟨renH (idR os) H (idR os),nx,0⟩:=
 weak_ren (C:=C) (st:=⟨H,nx,0⟩) (fr:= []) (idR os) nx hb (okRen_id _ _ os hn hk)
section
variable (w:World) (n:Nat)
theorem appendSeq_w {C:Ctx} {Q:V→VSt→Prop} (hC:C.E=EN w (n+3)) (s:Nat) (l:List Int) (hl:l.length≤5000) (t0:Nat)
  (hq:Q (.gr 2 1 (runsP l l.length).length) ⟨[(1,.gro 58 2 false (runC (runsP l l.length))),(0,.box t0 1 [.sl s l.length (l.map iD)])],2,0⟩):
  CallV C 51 [.sc (.slice none 0 0),.fn 52 [] [.ptr 0 0]] ⟨[(0,.box t0 1 [.sl s l.length (l.map iD)])],1,0⟩ Q:=by
 refine callV_w hC rfl rfl (fun _ _=>rfl) (Nat.le_of_ble_eq_true rfl) hq fun C' hC' hn=>?_
 repeat' (first|(simp (disch:=first|omega|assumption|(refine @id ((_:Bool)=_) ?_;exact id (by with_unfolding_all rfl))|(exact Or.inl rfl)|(exact Or.inl trivial)|(exact okL_map _ (fun _=>rfl) _)|(simp only[VVlen]<;>omega)|fail) only[VV0,VV1,VV2,VV3,VV4,VV5,VV6,VV7,VV8,VV9,mkFnV,vargs,slotsL,opdsA,Nat.reduceEqDiff,Nat.reduceLT,Nat.reduceAdd,Nat.reduceBEq,Int.reduceAdd,Int.reduceSub,Int.reduceLT,Int.reduceLE,Int.reduceEq,Int.reduceNeg,↓reduceIte,reduceCtorEq,scL,scD,expand,List.replicate,c51])|(refine gC_drawW ?_)|(refine gI_dec (fun _=>?_) (fun _=>?_))|(refine gG_dec (fun _=>?_) (fun _=>?_))|(refine gPG_dec (fun _=>?_) (fun _=>?_))|(refine gI_var (fun _=>?_) (fun _=>?_))|(refine gG_var (fun _=>?_) (fun _=>?_))|(refine gPG_var (fun _=>?_) (fun _=>?_)))
 refine g_rangeW (st':=⟨[(2,.gro 58 2 false []),(1,.box 24 1 [.gr 2 2 0]),(0,.box t0 1 [.sl s l.length (l.map iD)])],3,0⟩) (weak_nilCell (st:=⟨[(1,.box 24 1 [.sc (.slice none 0 0)]),(0,.box t0 1 [.sl s l.length (l.map iD)])],2,0⟩) (l:= [.sc (.slice none 0 0)]) 1 24 1 0 58 2 rfl rfl (fun h=>absurd (show (1:Nat)=2 from h) (by decide))) ?_
 refine g_range hC' rfl rfl rfl (Nat.le_of_ble_eq_true rfl) rfl (Nat.zero_le _) fun C2 h2n h2r h2p h2o hT=>?_
 refine runs_iter (d:=3) (o:=0) (s:=s) (l:=l) (J:=fun t st=>∃ r nx,(r ≠ 0∧r ≠ 1∧r ≠ 3∧r<nx∧3<nx)∧st=⟨[(3,recO 0),(r,.gro 58 2 false (runC (runsP l t))),(1,.box 24 1 [.gr 2 r (runsP l t).length]),(0,.box t0 1 [.sl s l.length (l.map iD)])],nx,0⟩) h2r hl hT ?_ ?_ ?_ _ ?_
 ·rintro k st ⟨r,nx,⟨h1,h2,h3,h4,h5⟩,rfl⟩
  exact ⟨t0,by simp[aget_cons,h1,h2,h3,Ne.symm h1]⟩
 ·rintro f t st Q2 hrun ⟨r,nx,⟨h1,h2,h3,h4,h5⟩,rfl⟩ hq2
  have hlen:=runC_len (runsP l f)
  have hrl:=runsP_len l f
  have hle:=hrun.le
  have hlt:=hrun.lt
  have b1:¬ (3=nx):=by omega
  have b2:¬ (r=nx):=by omega
  have b3:¬ (1=nx):=by omega
  have b4:¬ (0=nx):=by omega
  have b5:¬ (1=r):=fun h=>h2 h.symm
  have b6:¬ (3=r):=fun h=>h3 h.symm
  have b7:¬ (0=r):=fun h=>h1 h.symm
  refine ⟨Nat.zero_le _,rfl,h5,_,rfl,fun C4 h4 h4n=>?_⟩
  repeat' (first|(simp (disch:=first|omega|assumption|(refine @id ((_:Bool)=_) ?_;exact id (by with_unfolding_all rfl))|(exact Or.inl rfl)|(exact Or.inl trivial)|(exact okL_map _ (fun _=>rfl) _)|(simp only[VVlen]<;>omega)|fail) only[VV0,VV1,VV2,VV3,VV4,VV5,VV6,VV7,VV8,VV9,mkFnV,vargs,slotsL,opdsA,Nat.reduceEqDiff,Nat.reduceLT,Nat.reduceAdd,Nat.reduceBEq,Int.reduceAdd,Int.reduceSub,Int.reduceLT,Int.reduceLE,Int.reduceEq,Int.reduceNeg,↓reduceIte,reduceCtorEq,scL,scD,expand,List.replicate,b1,b2,b3,b4,b5,b6,b7,h1,h2,h3])|(refine gC_drawW ?_)|(refine gI_dec (fun _=>?_) (fun _=>?_))|(refine gG_dec (fun _=>?_) (fun _=>?_))|(refine gPG_dec (fun _=>?_) (fun _=>?_))|(refine gI_var (fun _=>?_) (fun _=>?_))|(refine gG_var (fun _=>?_) (fun _=>?_))|(refine gPG_var (fun _=>?_) (fun _=>?_)))
  refine ⟨trivial,Nat.zero_le _,trivial,?_⟩
  have c1:¬ (r=nx+1):=by omega
  have c2:¬ (1=nx+1):=by omega
  have c3:¬ (3=nx+1):=by omega
  have c4:¬ (nx+1=nx):=by omega
  have c5:¬ (nx=1):=by omega
  repeat' (first|(simp (disch:=first|omega|assumption|(refine @id ((_:Bool)=_) ?_;exact id (by with_unfolding_all rfl))|(exact Or.inl rfl)|(exact Or.inl trivial)|(exact okL_map _ (fun _=>rfl) _)|(simp only[VVlen]<;>omega)|fail) only[VV0,VV1,VV2,VV3,VV4,VV5,VV6,VV7,VV8,VV9,mkFnV,vargs,slotsL,opdsA,Nat.reduceEqDiff,Nat.reduceLT,Nat.reduceAdd,Nat.reduceBEq,Int.reduceAdd,Int.reduceSub,Int.reduceLT,Int.reduceLE,Int.reduceEq,Int.reduceNeg,↓reduceIte,reduceCtorEq,scL,scD,expand,List.replicate,row1V_run,b1,b2,b3,b4,b5,b6,b7,h1,h2,h3,c1,c2,c3,c4,c5])|(refine gC_drawW ?_)|(refine gI_dec (fun _=>?_) (fun _=>?_))|(refine gG_dec (fun _=>?_) (fun _=>?_))|(refine gPG_dec (fun _=>?_) (fun _=>?_))|(refine gI_var (fun _=>?_) (fun _=>?_))|(refine gG_var (fun _=>?_) (fun _=>?_))|(refine gPG_var (fun _=>?_) (fun _=>?_)))
  have hrr:runsP l t=runsP l f++ [((t:Int) - f,l[f]!)]:=runsP_run hrun
  have hnx:C4.w0.nx=nx:=h4n
  refine ⟨Nat.zero_le _,trivial,⟨[(3,recO 0),(nx+1+1,.gro 58 2 false (runC (runsP l t))),(1,.box 24 1 [.gr 2 (nx+1+1) (runsP l t).length]),(0,.box t0 1 [.sl s l.length (l.map iD)])],nx+1+1+1,0⟩,?_,hq2 _ ⟨nx+1+1,nx+1+1+1,by omega,rfl⟩⟩
  have hw:=weak_keep (C:=C4) (H:= [(nx+1+1,.gro 58 2 false (runC (runsP l f)++ [.sc (.int .i64 ((t:Int) - f)),.sc (.int .i64 l[f]!)])),(nx+1,.row 58 2 false false [.sc (.int .i64 ((t:Int) - f)),.sc (.int .i64 l[f]!)]),(nx,.box 58 1 [.sc (.int .i64 ((t:Int) - f)),.sc (.int .i64 l[f]!)]),(3,recO (codeOf .normal)),(1,.box 24 1 [.gr 2 (nx+1+1) ((runsP l f).length+1)]),(0,.box t0 1 [.sl s l.length (l.map iD)])]) (nx:=nx+1+1+1) [3,nx+1+1,1,0] (by simp;omega) (by simp;omega) (by omega)
  have d1:¬ (3=nx+1+1):=by omega
  have d2:¬ (1=nx+1+1):=by omega
  have d3:¬ (0=nx+1+1):=by omega
  have d4:¬ (0=nx+1):=by omega
  have d5:¬ (nx+1+1=3):=by omega
  have d6:¬ ((1:Nat)=3):=by decide
  have d7:¬ ((0:Nat)=3):=by decide
  have d8:¬ ((0:Nat)=1):=by decide
  have d9:¬ ((3:Nat)=1):=by decide
  have d10:¬ (nx+1+1=1):=by omega
  simp only[idR,List.map_cons,List.map_nil,renH,aget_cons,aget_nil,b1,b3,b4,c2,c3,d1,d2,d3,d4,d5,d6,d7,d8,d9,d10,if_true,if_false,renO,recO,vrenL,vren,Nat.succ_ne_self] at hw
  rw[hrr,runC_append,List.length_append]
  exact hw
 ·rintro fr st ⟨r,nx,⟨h1,h2,h3,h4,h5⟩,rfl⟩
  refine ⟨fun i h=>(by cases h),Nat.zero_le _,0,.normal,rfl,rfl,?_⟩
  have b5:¬ (1=r):=fun h=>h2 h.symm
  have b6:¬ (3=r):=fun h=>h3 h.symm
  have b7:¬ (0=r):=fun h=>h1 h.symm
  repeat' (first|(simp (disch:=first|omega|assumption|(refine @id ((_:Bool)=_) ?_;exact id (by with_unfolding_all rfl))|(exact Or.inl rfl)|(exact Or.inl trivial)|(exact okL_map _ (fun _=>rfl) _)|(simp only[VVlen]<;>omega)|fail) only[VV0,VV1,VV2,VV3,VV4,VV5,VV6,VV7,VV8,VV9,mkFnV,vargs,slotsL,opdsA,Nat.reduceEqDiff,Nat.reduceLT,Nat.reduceAdd,Nat.reduceBEq,Int.reduceAdd,Int.reduceSub,Int.reduceLT,Int.reduceLE,Int.reduceEq,Int.reduceNeg,↓reduceIte,reduceCtorEq,scL,scD,expand,List.replicate,b5,b6,b7,h1,h2,h3])|(refine gC_drawW ?_)|(refine gI_dec (fun _=>?_) (fun _=>?_))|(refine gG_dec (fun _=>?_) (fun _=>?_))|(refine gPG_dec (fun _=>?_) (fun _=>?_))|(refine gI_var (fun _=>?_) (fun _=>?_))|(refine gG_var (fun _=>?_) (fun _=>?_))|(refine gPG_var (fun _=>?_) (fun _=>?_)))
  have hn1:C'.w0.nx=1:=hn
  refine weak_toB [(r,1),(0,0)] 2 (by omega) rfl ?_ ?_ ?_
  ·rw[hn1]
   have q1:Nat.ble 1 1=true:=rfl
   simp[okRen,notIn,notKey,h1,q1]
   exact ⟨rfl,nbf.2 h1⟩
  ·simp[renF,vren,aget_cons]
  ·simp[renH,aget_cons,renO,vrenL,vren,h1,h2,b5,b7]
 ·exact ⟨2,4,by decide,rfl⟩
end
end Go.Proofs.YtgglaaldlegckaaDoor
namespace Go.Proofs.YtgglaaldlegckaaDoor
open Go Go.Itp
set_option maxRecDepth 100000
set_option maxHeartbeats 1000000
set_option linter.unusedSimpArgs false
theorem snap_runs {H:VHp} {o t:Nat} {z:Bool} (R:List (Int × Int)) (h:aget H o=some (.gro t 2 z (runC R))):snapV H (.gr 2 o R.length)=some (.sl 2 R.length (runC R)):=by
 simp only[snapV,toD,h,runC_len]
 rw[if_pos (by simp)]
 rfl
def runsF (l:List Int):List (Int × Int) × Int:=if chk l=0 then (runsP l l.length,0) else ([],chk l)
abbrev runsV (r:List (Int × Int) × Int):V:= .tup [.sl 3 r.1.length (runC r.1),.sc (.int .i64 r.2)]
section
variable (w:World) (n:Nat)
theorem runs0_p (s:Nat) (hs:s ≠ 1) (l:List Int):VSpec (EN w (n+1)) 33 [.sl s l.length (l.map iD)] (.fn 52 [] [.ptr 0 0]) ⟨[(0,.box 22 1 [.sl s l.length (l.map iD)])],1,0⟩:=by
 refine vspec_g rfl rfl (fun _ _=>rfl) (Nat.le_of_ble_eq_true rfl) (oldVals w) ?_ rfl fun C hC hn=>?_
 ·have hc:Cl [(0,.box 22 1 [.sl s l.length (l.map iD)])] (.sl s l.length (l.map iD)):=by
   simp only[Cl,okD,Bool.or_eq_true,Bool.not_eq_true',nbf];exact .inl hs
  refine ⟨?_,fun o t e L h=>?_,fun o ob h=>?_⟩
  ·simp only[Cl,ClL,and_true,true_and]
   exact ⟨_,rfl,rfl⟩
  ·obtain ⟨rfl,h2⟩:=aget_one h
   cases h2
   exact ⟨hc,trivial⟩
  ·obtain ⟨rfl,_⟩:=aget_one h
   exact fun _=>VR.root 0 (by simp[vids,vidsL])
 ·repeat' (first|(simp (disch:=first|omega|assumption|(refine @id ((_:Bool)=_) ?_;exact id (by with_unfolding_all rfl))|(exact Or.inl rfl)|(exact Or.inl trivial)|(exact okL_map _ (fun _=>rfl) _)|(simp only[VVlen]<;>omega)|fail) only[VV0,VV1,VV2,VV3,VV4,VV5,VV6,VV7,VV8,VV9,mkFnV,vargs,slotsL,opdsA,Nat.reduceEqDiff,Nat.reduceLT,Nat.reduceAdd,Nat.reduceBEq,Int.reduceAdd,Int.reduceSub,Int.reduceLT,Int.reduceLE,Int.reduceEq,Int.reduceNeg,↓reduceIte,reduceCtorEq,scL,scD,expand,List.replicate,c33])|(refine gC_drawW ?_)|(refine gI_dec (fun _=>?_) (fun _=>?_))|(refine gG_dec (fun _=>?_) (fun _=>?_))|(refine gPG_dec (fun _=>?_) (fun _=>?_))|(refine gI_var (fun _=>?_) (fun _=>?_))|(refine gG_var (fun _=>?_) (fun _=>?_))|(refine gPG_var (fun _=>?_) (fun _=>?_)))
  exact weak_to [(0,0)] 1 hn rfl rfl rfl (by simp[renH,aget_cons,renO,vrenL,vren])
theorem collect_w {C:Ctx} {Q:V→VSt→Prop} (hC:C.E=EN w (n+4)) (s:Nat) (l:List Int) (hl:l.length≤5000) (t0:Nat)
  (hq:Q (.gr 2 1 (runsP l l.length).length) ⟨[(1,.gro 58 2 false (runC (runsP l l.length))),(0,.box t0 1 [.sl s l.length (l.map iD)])],2,0⟩):
  CallV C 32 [.fn 52 [] [.ptr 0 0]] ⟨[(0,.box t0 1 [.sl s l.length (l.map iD)])],1,0⟩ Q:=by
 refine callV_w hC rfl rfl (fun _ _=>rfl) (Nat.le_of_ble_eq_true rfl) hq fun C' hC' hn=>?_
 repeat' (first|(simp (disch:=first|omega|assumption|(refine @id ((_:Bool)=_) ?_;exact id (by with_unfolding_all rfl))|(exact Or.inl rfl)|(exact Or.inl trivial)|(exact okL_map _ (fun _=>rfl) _)|(simp only[VVlen]<;>omega)|fail) only[VV0,VV1,VV2,VV3,VV4,VV5,VV6,VV7,VV8,VV9,mkFnV,vargs,slotsL,opdsA,Nat.reduceEqDiff,Nat.reduceLT,Nat.reduceAdd,Nat.reduceBEq,Int.reduceAdd,Int.reduceSub,Int.reduceLT,Int.reduceLE,Int.reduceEq,Int.reduceNeg,↓reduceIte,reduceCtorEq,scL,scD,expand,List.replicate,c32])|(refine gC_drawW ?_)|(refine gI_dec (fun _=>?_) (fun _=>?_))|(refine gG_dec (fun _=>?_) (fun _=>?_))|(refine gPG_dec (fun _=>?_) (fun _=>?_))|(refine gI_var (fun _=>?_) (fun _=>?_))|(refine gG_var (fun _=>?_) (fun _=>?_))|(refine gPG_var (fun _=>?_) (fun _=>?_)))
 refine appendSeq_w w n hC' s l hl t0 ?_
 repeat' (first|(simp (disch:=first|omega|assumption|(refine @id ((_:Bool)=_) ?_;exact id (by with_unfolding_all rfl))|(exact Or.inl rfl)|(exact Or.inl trivial)|(exact okL_map _ (fun _=>rfl) _)|(simp only[VVlen]<;>omega)|fail) only[VV0,VV1,VV2,VV3,VV4,VV5,VV6,VV7,VV8,VV9,mkFnV,vargs,slotsL,opdsA,Nat.reduceEqDiff,Nat.reduceLT,Nat.reduceAdd,Nat.reduceBEq,Int.reduceAdd,Int.reduceSub,Int.reduceLT,Int.reduceLE,Int.reduceEq,Int.reduceNeg,↓reduceIte,reduceCtorEq,scL,scD,expand,List.replicate])|(refine gC_drawW ?_)|(refine gI_dec (fun _=>?_) (fun _=>?_))|(refine gG_dec (fun _=>?_) (fun _=>?_))|(refine gPG_dec (fun _=>?_) (fun _=>?_))|(refine gI_var (fun _=>?_) (fun _=>?_))|(refine gG_var (fun _=>?_) (fun _=>?_))|(refine gPG_var (fun _=>?_) (fun _=>?_)))
 exact .refl _ _
theorem runs_p (s:Nat) (hs:s ≠ 1) (l:List Int) (hl:l.length≤140737488351232):VSpec (EN w (n+6)) 10 [.sl s l.length (l.map iD)] (runsV (runsF l)) ⟨[],0,0⟩:=by
 refine vspec_g rfl rfl (fun _ _=>rfl) (Nat.le_of_ble_eq_true rfl) (oldVals w) retOK_fin rfl fun C hC hn=>?_
 repeat' (first|(simp (disch:=first|omega|assumption|(refine @id ((_:Bool)=_) ?_;exact id (by with_unfolding_all rfl))|(exact Or.inl rfl)|(exact Or.inl trivial)|(exact okL_map _ (fun _=>rfl) _)|(simp only[VVlen]<;>omega)|fail) only[VV0,VV1,VV2,VV3,VV4,VV5,VV6,VV7,VV8,VV9,mkFnV,vargs,slotsL,opdsA,Nat.reduceEqDiff,Nat.reduceLT,Nat.reduceAdd,Nat.reduceBEq,Int.reduceAdd,Int.reduceSub,Int.reduceLT,Int.reduceLE,Int.reduceEq,Int.reduceNeg,↓reduceIte,reduceCtorEq,scL,scD,expand,List.replicate,c10])|(refine gC_drawW ?_)|(refine gI_dec (fun _=>?_) (fun _=>?_))|(refine gG_dec (fun _=>?_) (fun _=>?_))|(refine gPG_dec (fun _=>?_) (fun _=>?_))|(refine gI_var (fun _=>?_) (fun _=>?_))|(refine gG_var (fun _=>?_) (fun _=>?_))|(refine gPG_var (fun _=>?_) (fun _=>?_)))
 refine callV_flat ((fun st=>(check_p w n s l hl).of hC rfl st rfl) _) ?_
 by_cases h0:chk l=0
 ·have e:runsF l=(runsP l l.length,0):=if_pos h0
  have hl2:l.length≤5000:=by
   unfold chk at h0
   split at h0
   ·cases h0
   ·omega
  rw[e,h0]
  repeat' (first|(simp (disch:=first|omega|assumption|(refine @id ((_:Bool)=_) ?_;exact id (by with_unfolding_all rfl))|(exact Or.inl rfl)|(exact Or.inl trivial)|(exact okL_map _ (fun _=>rfl) _)|(simp only[VVlen]<;>omega)|fail) only[VV0,VV1,VV2,VV3,VV4,VV5,VV6,VV7,VV8,VV9,mkFnV,vargs,slotsL,opdsA,Nat.reduceEqDiff,Nat.reduceLT,Nat.reduceAdd,Nat.reduceBEq,Int.reduceAdd,Int.reduceSub,Int.reduceLT,Int.reduceLE,Int.reduceEq,Int.reduceNeg,↓reduceIte,reduceCtorEq,scL,scD,expand,List.replicate])|(refine gC_drawW ?_)|(refine gI_dec (fun _=>?_) (fun _=>?_))|(refine gG_dec (fun _=>?_) (fun _=>?_))|(refine gPG_dec (fun _=>?_) (fun _=>?_))|(refine gI_var (fun _=>?_) (fun _=>?_))|(refine gG_var (fun _=>?_) (fun _=>?_))|(refine gPG_var (fun _=>?_) (fun _=>?_)))
  refine callV_of (by rw[hC];exact runs0_p w (n+4) s hs l) rfl rfl rfl ?_
  repeat' (first|(simp (disch:=first|omega|assumption|(refine @id ((_:Bool)=_) ?_;exact id (by with_unfolding_all rfl))|(exact Or.inl rfl)|(exact Or.inl trivial)|(exact okL_map _ (fun _=>rfl) _)|(simp only[VVlen]<;>omega)|fail) only[VV0,VV1,VV2,VV3,VV4,VV5,VV6,VV7,VV8,VV9,mkFnV,vargs,slotsL,opdsA,Nat.reduceEqDiff,Nat.reduceLT,Nat.reduceAdd,Nat.reduceBEq,Int.reduceAdd,Int.reduceSub,Int.reduceLT,Int.reduceLE,Int.reduceEq,Int.reduceNeg,↓reduceIte,reduceCtorEq,scL,scD,expand,List.replicate,vsh,shH,shO,vshL,fzSL,fzS])|(refine gC_drawW ?_)|(refine gI_dec (fun _=>?_) (fun _=>?_))|(refine gG_dec (fun _=>?_) (fun _=>?_))|(refine gPG_dec (fun _=>?_) (fun _=>?_))|(refine gI_var (fun _=>?_) (fun _=>?_))|(refine gG_var (fun _=>?_) (fun _=>?_))|(refine gPG_var (fun _=>?_) (fun _=>?_)))
  refine collect_w w (n+1) hC s l hl2 22 ?_
  repeat' (first|(simp (disch:=first|omega|assumption|(refine @id ((_:Bool)=_) ?_;exact id (by with_unfolding_all rfl))|(exact Or.inl rfl)|(exact Or.inl trivial)|(exact okL_map _ (fun _=>rfl) _)|(simp only[VVlen]<;>omega)|fail) only[VV0,VV1,VV2,VV3,VV4,VV5,VV6,VV7,VV8,VV9,mkFnV,vargs,slotsL,opdsA,Nat.reduceEqDiff,Nat.reduceLT,Nat.reduceAdd,Nat.reduceBEq,Int.reduceAdd,Int.reduceSub,Int.reduceLT,Int.reduceLE,Int.reduceEq,Int.reduceNeg,↓reduceIte,reduceCtorEq,scL,scD,expand,List.replicate])|(refine gC_drawW ?_)|(refine gI_dec (fun _=>?_) (fun _=>?_))|(refine gG_dec (fun _=>?_) (fun _=>?_))|(refine gPG_dec (fun _=>?_) (fun _=>?_))|(refine gI_var (fun _=>?_) (fun _=>?_))|(refine gG_var (fun _=>?_) (fun _=>?_))|(refine gPG_var (fun _=>?_) (fun _=>?_)))
  exact weak_fin (snap_runs _ rfl) rfl (.inl (by decide)) hn rfl
 ·have e:runsF l=([],chk l):=if_neg h0
  rw[e]
  generalize chk l=k at h0
  repeat' (first|(simp (disch:=first|omega|assumption|(refine @id ((_:Bool)=_) ?_;exact id (by with_unfolding_all rfl))|(exact Or.inl rfl)|(exact Or.inl trivial)|(exact okL_map _ (fun _=>rfl) _)|(simp only[VVlen]<;>omega)|fail) only[VV0,VV1,VV2,VV3,VV4,VV5,VV6,VV7,VV8,VV9,mkFnV,vargs,slotsL,opdsA,Nat.reduceEqDiff,Nat.reduceLT,Nat.reduceAdd,Nat.reduceBEq,Int.reduceAdd,Int.reduceSub,Int.reduceLT,Int.reduceLE,Int.reduceEq,Int.reduceNeg,↓reduceIte,reduceCtorEq,scL,scD,expand,List.replicate])|(refine gC_drawW ?_)|(refine gI_dec (fun _=>?_) (fun _=>?_))|(refine gG_dec (fun _=>?_) (fun _=>?_))|(refine gPG_dec (fun _=>?_) (fun _=>?_))|(refine gI_var (fun _=>?_) (fun _=>?_))|(refine gG_var (fun _=>?_) (fun _=>?_))|(refine gPG_var (fun _=>?_) (fun _=>?_)))
  exact weak_finNil hn rfl
end
end Go.Proofs.YtgglaaldlegckaaDoor
namespace Go.Proofs.YtgglaaldlegckaaDoor
open Go Go.Itp
set_option maxRecDepth 100000
set_option maxHeartbeats 1000000
set_option linter.unusedSimpArgs false
theorem incLast_ne:∀ {R:List (Int × Int)},R ≠ []→∃ Q p,R=Q++ [p]∧incLast R=Q++ [(p.1+1,p.2)]:=by
 intro R h
 obtain ⟨Q,p,rfl⟩:∃ Q p,R=Q++ [p]:=⟨R.dropLast,R.getLast h,(List.dropLast_concat_getLast h).symm⟩
 exact ⟨Q,p,rfl,incLast_append Q p⟩
theorem runC_get (Q:List (Int × Int)) (p:Int × Int):dload (runC (Q++ [p])) (Q.length*2) none=some (.sc (.int .i64 p.1)):=by
 rw[runC_append]
 simp[dload,lget_eq,runC_len,iD,dv]
theorem runC_set (Q:List (Int × Int)) (p:Int × Int) (x:Int):(runC (Q++ [p])).set (Q.length*2) (.sc (.int .i64 x))=runC (Q++ [(x,p.2)]):=by
 rw[runC_append,runC_append,List.set_append_right _ _ (by rw[runC_len];exact Nat.le_refl _),runC_len,Nat.sub_self]
 rfl
theorem runsP_ne (l:List Int) {k:Nat} (h:0<k):runsP l k ≠ []:=by
 obtain ⟨k,rfl⟩:∃ j,k=j+1:=⟨k - 1,by omega⟩
 induction k with
 |zero=>simp[runsP]
 |succ k ih=>
  rw[runsP]
  split
  ·obtain ⟨Q,p,h1,h2⟩:=incLast_ne (ih (by omega))
   rw[h2];simp
  ·simp
theorem runsP_cnt (l:List Int):∀ k,∀ p ∈ runsP l k,0≤p.1∧p.1≤k
 |0,p,h=>by simp[runsP] at h
 |k+1,p,h=>by
  have ih:=runsP_cnt l k
  rw[runsP] at h
  split at h
  ·rename_i hc
   obtain ⟨Q,q,h1,h2⟩:=incLast_ne (runsP_ne l hc.1)
   rw[h2] at h
   rw[h1] at ih
   rcases List.mem_append.1 h with h|h
   ·have:=ih p (List.mem_append.2 (.inl h));omega
   ·simp at h;subst h
    have:=ih q (by simp)
    simp only;omega
  ·rcases List.mem_append.1 h with h|h
   ·have:=ih p h;omega
   ·simp at h;subst h;simp only;omega
section
variable (w:World) (n:Nat)
theorem rruns_p (s:Nat) (l:List Int) (hl:l.length≤140737488351232):VSpec (EN w (n+2)) 11 [.sl s l.length (l.map iD)] (runsV (runsF l)) ⟨[],0,0⟩:=by
 refine vspec_g rfl rfl (fun _ _=>rfl) (Nat.le_of_ble_eq_true rfl) (oldVals w) retOK_fin rfl fun C hC hn=>?_
 have hck:=fun st=>(rcheck_p w n s l hl).of hC rfl st rfl
 repeat' (first|(simp (disch:=first|omega|assumption|(refine @id ((_:Bool)=_) ?_;exact id (by with_unfolding_all rfl))|(exact Or.inl rfl)|(exact Or.inl trivial)|(exact okL_map _ (fun _=>rfl) _)|(simp only[VVlen]<;>omega)|fail) only[VV0,VV1,VV2,VV3,VV4,VV5,VV6,VV7,VV8,VV9,mkFnV,vargs,slotsL,opdsA,Nat.reduceEqDiff,Nat.reduceLT,Nat.reduceAdd,Nat.reduceBEq,Int.reduceAdd,Int.reduceSub,Int.reduceLT,Int.reduceLE,Int.reduceEq,Int.reduceNeg,↓reduceIte,reduceCtorEq,scL,scD,expand,List.replicate,c11])|(refine gC_drawW ?_)|(refine gI_dec (fun _=>?_) (fun _=>?_))|(refine gG_dec (fun _=>?_) (fun _=>?_))|(refine gPG_dec (fun _=>?_) (fun _=>?_))|(refine gI_var (fun _=>?_) (fun _=>?_))|(refine gG_var (fun _=>?_) (fun _=>?_))|(refine gPG_var (fun _=>?_) (fun _=>?_)))
 refine callV_flat (hck _) ?_
 by_cases h0:chk l=0
 case neg=>
  have e:runsF l=([],chk l):=if_neg h0
  rw[e]
  repeat' (first|(simp (disch:=first|omega|assumption|(refine @id ((_:Bool)=_) ?_;exact id (by with_unfolding_all rfl))|(exact Or.inl rfl)|(exact Or.inl trivial)|(exact okL_map _ (fun _=>rfl) _)|(simp only[VVlen]<;>omega)|fail) only[VV0,VV1,VV2,VV3,VV4,VV5,VV6,VV7,VV8,VV9,mkFnV,vargs,slotsL,opdsA,Nat.reduceEqDiff,Nat.reduceLT,Nat.reduceAdd,Nat.reduceBEq,Int.reduceAdd,Int.reduceSub,Int.reduceLT,Int.reduceLE,Int.reduceEq,Int.reduceNeg,↓reduceIte,reduceCtorEq,scL,scD,expand,List.replicate])|(refine gC_drawW ?_)|(refine gI_dec (fun _=>?_) (fun _=>?_))|(refine gG_dec (fun _=>?_) (fun _=>?_))|(refine gPG_dec (fun _=>?_) (fun _=>?_))|(refine gI_var (fun _=>?_) (fun _=>?_))|(refine gG_var (fun _=>?_) (fun _=>?_))|(refine gPG_var (fun _=>?_) (fun _=>?_)))
  all_goals try (exfalso;omega)
  refine callV_flat (hck _) ?_
  repeat' (first|(simp (disch:=first|omega|assumption|(refine @id ((_:Bool)=_) ?_;exact id (by with_unfolding_all rfl))|(exact Or.inl rfl)|(exact Or.inl trivial)|(exact okL_map _ (fun _=>rfl) _)|(simp only[VVlen]<;>omega)|fail) only[VV0,VV1,VV2,VV3,VV4,VV5,VV6,VV7,VV8,VV9,mkFnV,vargs,slotsL,opdsA,Nat.reduceEqDiff,Nat.reduceLT,Nat.reduceAdd,Nat.reduceBEq,Int.reduceAdd,Int.reduceSub,Int.reduceLT,Int.reduceLE,Int.reduceEq,Int.reduceNeg,↓reduceIte,reduceCtorEq,scL,scD,expand,List.replicate])|(refine gC_drawW ?_)|(refine gI_dec (fun _=>?_) (fun _=>?_))|(refine gG_dec (fun _=>?_) (fun _=>?_))|(refine gPG_dec (fun _=>?_) (fun _=>?_))|(refine gI_var (fun _=>?_) (fun _=>?_))|(refine gG_var (fun _=>?_) (fun _=>?_))|(refine gPG_var (fun _=>?_) (fun _=>?_)))
  exact weak_finNil hn rfl
 have e:runsF l=(runsP l l.length,0):=if_pos h0
 have hl2:l.length≤4000:=by
  unfold chk at h0
  split at h0
  ·cases h0
  ·omega
 rw[e,h0]
 repeat' (first|(simp (disch:=first|omega|assumption|(refine @id ((_:Bool)=_) ?_;exact id (by with_unfolding_all rfl))|(exact Or.inl rfl)|(exact Or.inl trivial)|(exact okL_map _ (fun _=>rfl) _)|(simp only[VVlen]<;>omega)|fail) only[VV0,VV1,VV2,VV3,VV4,VV5,VV6,VV7,VV8,VV9,mkFnV,vargs,slotsL,opdsA,Nat.reduceEqDiff,Nat.reduceLT,Nat.reduceAdd,Nat.reduceBEq,Int.reduceAdd,Int.reduceSub,Int.reduceLT,Int.reduceLE,Int.reduceEq,Int.reduceNeg,↓reduceIte,reduceCtorEq,scL,scD,expand,List.replicate])|(refine gC_drawW ?_)|(refine gI_dec (fun _=>?_) (fun _=>?_))|(refine gG_dec (fun _=>?_) (fun _=>?_))|(refine gPG_dec (fun _=>?_) (fun _=>?_))|(refine gI_var (fun _=>?_) (fun _=>?_))|(refine gG_var (fun _=>?_) (fun _=>?_))|(refine gPG_var (fun _=>?_) (fun _=>?_)))
 refine g_while (fun m fr st=>∃ k:Nat,m=l.length - k∧k≤l.length∧fr= [(0,.sl s l.length (l.map iD)),(4,.gr 2 0 (runsP l k).length),(5,.sc (.int .i64 k))]∧st=⟨[(0,.gro 58 2 false (runC (runsP l k)))],1,0⟩) l.length ?_ ⟨_,_,weak_nilSlot 4 58 2 rfl,0,?_⟩ ?_
 ·rw[hC,callP_rounds];unfold many;omega
 ·exact ⟨by omega,by omega,rfl,rfl⟩
 ·rintro m fr st ⟨k,rfl,hk,rfl,rfl⟩
  by_cases hlt:k<l.length
  case neg=>
   have:k=l.length:=by omega
   subst this
   repeat' (first|(simp (disch:=first|omega|assumption|(refine @id ((_:Bool)=_) ?_;exact id (by with_unfolding_all rfl))|(exact Or.inl rfl)|(exact Or.inl trivial)|(exact okL_map _ (fun _=>rfl) _)|(simp only[VVlen]<;>omega)|fail) only[VV0,VV1,VV2,VV3,VV4,VV5,VV6,VV7,VV8,VV9,mkFnV,vargs,slotsL,opdsA,Nat.reduceEqDiff,Nat.reduceLT,Nat.reduceAdd,Nat.reduceBEq,Int.reduceAdd,Int.reduceSub,Int.reduceLT,Int.reduceLE,Int.reduceEq,Int.reduceNeg,↓reduceIte,reduceCtorEq,scL,scD,expand,List.replicate,c11l0])|(refine gC_drawW ?_)|(refine gI_dec (fun _=>?_) (fun _=>?_))|(refine gG_dec (fun _=>?_) (fun _=>?_))|(refine gPG_dec (fun _=>?_) (fun _=>?_))|(refine gI_var (fun _=>?_) (fun _=>?_))|(refine gG_var (fun _=>?_) (fun _=>?_))|(refine gPG_var (fun _=>?_) (fun _=>?_)))
   all_goals try (exfalso;omega)
   exact weak_fin (snap_runs _ rfl) rfl (.inl (by decide)) hn rfl
  have hrl:=runsP_len l k
  have hcl:=runC_len (runsP l k)
  by_cases hc:0<k∧l[k]! =l[k - 1]!
  ·obtain ⟨Q,p,h1,h2⟩:=incLast_ne (runsP_ne l hc.1)
   have hp:=runsP_cnt l k p (by rw[h1];simp)
   have hrr:runsP l (k+1)=Q++ [(p.1+1,p.2)]:=by rw[runsP,if_pos hc,h2]
   rw[h1] at hrl hcl
   have hQ:(Q++ [p]).length=Q.length+1:=by simp
   have hk1:(k:Int) - 1=((k - 1:Nat):Int):=by omega
   have hk2:(0:Int)<k:=by omega
   have hq1:((Q.length+1:Nat):Int) - 1=(Q.length:Int):=by omega
   have hw:Q.length*2<(runC (Q++ [p])).length:=by rw[hcl,hQ];omega
   repeat' (first|(simp (disch:=first|omega|assumption|(refine @id ((_:Bool)=_) ?_;exact id (by with_unfolding_all rfl))|(exact Or.inl rfl)|(exact Or.inl trivial)|(exact okL_map _ (fun _=>rfl) _)|(simp only[VVlen]<;>omega)|fail) only[VV0,VV1,VV2,VV3,VV4,VV5,VV6,VV7,VV8,VV9,mkFnV,vargs,slotsL,opdsA,Nat.reduceEqDiff,Nat.reduceLT,Nat.reduceAdd,Nat.reduceBEq,Int.reduceAdd,Int.reduceSub,Int.reduceLT,Int.reduceLE,Int.reduceEq,Int.reduceNeg,↓reduceIte,reduceCtorEq,scL,scD,expand,List.replicate,c11l0,h1,hQ,hk1,hk2,hq1,hc.2,iD_dv,runC_get,runC_set])|(refine gC_drawW ?_)|(refine gI_dec (fun _=>?_) (fun _=>?_))|(refine gG_dec (fun _=>?_) (fun _=>?_))|(refine gPG_dec (fun _=>?_) (fun _=>?_))|(refine gI_var (fun _=>?_) (fun _=>?_))|(refine gG_var (fun _=>?_) (fun _=>?_))|(refine gPG_var (fun _=>?_) (fun _=>?_)))
   refine ⟨_,_,_,by omega,.refl _ _,k+1,rfl,hlt,?_,?_⟩
   ·rw[hrr];simp
   ·rw[hrr]
  ·have hrr:runsP l (k+1)=runsP l k++ [(1,l[k]!)]:=by rw[runsP,if_neg hc]
   have hk2:((k:Int)=0∧k=0)∨(0<(k:Int)∧¬ l[k]! =l[k - 1]!):=by
    by_cases h:0<k
    ·exact .inr ⟨by omega,fun e=>hc ⟨h,e⟩⟩
    ·exact .inl ⟨by omega,by omega⟩
   have hk1:0<(k:Int)→(k:Int) - 1=((k - 1:Nat):Int):=by omega
   have hfin:∀ (o:Nat) (H:VHp) (nx:Nat),aget H o=some (.gro 58 2 false (runC (runsP l k)++ [.sc (.int .i64 1),.sc (.int .i64 l[k]!)]))→∃ m' fr' st',m'<l.length - k∧Weak C [(0,.sl s l.length (l.map iD)),(4,.gr 2 o ((runsP l k).length+1)),(5,.sc (.int .i64 ((k:Int)+1)))] ⟨H,nx,0⟩ fr' st'∧
     ∃ k,m'=l.length - k∧k≤l.length∧fr'= [(0,.sl s l.length (l.map iD)),(4,.gr 2 0 (runsP l k).length),(5,.sc (.int .i64 k))]∧st'=⟨[(0,.gro 58 2 false (runC (runsP l k)))],1,0⟩:=by
    intro o H nx ho
    refine ⟨_,_,_,?_,weak_to [(o,0)] 1 hn rfl rfl rfl rfl,k+1,rfl,hlt,?_,?_⟩
    ·omega
    ·rw[hrr];simp[renF,vren,vrenL,aget_cons]
    ·rw[hrr,runC_append];simp[renH,renO,ho,iD]
   rcases hk2 with ⟨e1,rfl⟩|⟨e1,e2⟩
   ·repeat' (first|(simp (disch:=first|omega|assumption|(refine @id ((_:Bool)=_) ?_;exact id (by with_unfolding_all rfl))|(exact Or.inl rfl)|(exact Or.inl trivial)|(exact okL_map _ (fun _=>rfl) _)|(simp only[VVlen]<;>omega)|fail) only[VV0,VV1,VV2,VV3,VV4,VV5,VV6,VV7,VV8,VV9,mkFnV,vargs,slotsL,opdsA,Nat.reduceEqDiff,Nat.reduceLT,Nat.reduceAdd,Nat.reduceBEq,Int.reduceAdd,Int.reduceSub,Int.reduceLT,Int.reduceLE,Int.reduceEq,Int.reduceNeg,↓reduceIte,reduceCtorEq,scL,scD,expand,List.replicate,c11l0,iD_dv,row1V_run,e1])|(refine gC_drawW ?_)|(refine gI_dec (fun _=>?_) (fun _=>?_))|(refine gG_dec (fun _=>?_) (fun _=>?_))|(refine gPG_dec (fun _=>?_) (fun _=>?_))|(refine gI_var (fun _=>?_) (fun _=>?_))|(refine gG_var (fun _=>?_) (fun _=>?_))|(refine gPG_var (fun _=>?_) (fun _=>?_)))
    all_goals try (exfalso;omega)
    exact hfin _ _ _ rfl
   ·have e3:=hk1 e1
    have e4:k - 1<l.length:=by omega
    repeat' (first|(simp (disch:=first|omega|assumption|(refine @id ((_:Bool)=_) ?_;exact id (by with_unfolding_all rfl))|(exact Or.inl rfl)|(exact Or.inl trivial)|(exact okL_map _ (fun _=>rfl) _)|(simp only[VVlen]<;>omega)|fail) only[VV0,VV1,VV2,VV3,VV4,VV5,VV6,VV7,VV8,VV9,mkFnV,vargs,slotsL,opdsA,Nat.reduceEqDiff,Nat.reduceLT,Nat.reduceAdd,Nat.reduceBEq,Int.reduceAdd,Int.reduceSub,Int.reduceLT,Int.reduceLE,Int.reduceEq,Int.reduceNeg,↓reduceIte,reduceCtorEq,scL,scD,expand,List.replicate,c11l0,iD_dv,row1V_run,e1,e2,e3])|(refine gC_drawW ?_)|(refine gI_dec (fun _=>?_) (fun _=>?_))|(refine gG_dec (fun _=>?_) (fun _=>?_))|(refine gPG_dec (fun _=>?_) (fun _=>?_))|(refine gI_var (fun _=>?_) (fun _=>?_))|(refine gG_var (fun _=>?_) (fun _=>?_))|(refine gPG_var (fun _=>?_) (fun _=>?_)))
    all_goals try (exfalso;omega)
    exact hfin _ _ _ rfl
end
end Go.Proofs.YtgglaaldlegckaaDoor
namespace Go.Proofs.YtgglaaldlegckaaDoor
open Go Go.Itp
set_option maxRecDepth 100000
set_option maxHeartbeats 1000000
set_option linter.unusedSimpArgs false
theorem snap_ints {H:VHp} {o t:Nat} {z:Bool} {l:List Int} (h:aget H o=some (.gro t 1 z (l.map iD))):snapV H (.gr 2 o l.length)=some (.sl 2 l.length (l.map iD)):=by
 simp only[snapV,toD,h,List.length_map,Nat.mul_one]
 rw[if_pos (by simp)]
 rfl
def evs (l:List Int):Nat→List Int
 |0=> []
 |k+1=>if k % 2=0 then evs l k++ [l[k]!] else evs l k
def ods (l:List Int):Nat→List Int
 |0=> []
 |k+1=>if k % 2=0 then ods l k else ods l k++ [l[k]!]
theorem evs_len (l:List Int):∀ k,(evs l k).length≤k
 |0=>Nat.le_refl _
 |k+1=>by have:=evs_len l k;simp only[evs];split<;>simp<;>omega
theorem ods_len (l:List Int):∀ k,(ods l k).length≤k
 |0=>Nat.le_refl _
 |k+1=>by have:=ods_len l k;simp only[ods];split<;>simp<;>omega
def crossF (l:List Int):List Int × List Int × Int:=if chk l=0 then (evs l l.length,ods l l.length,0) else ([],[],chk l)
abbrev slI (l:List Int):V:= .sl 3 l.length (l.map iD)
abbrev crossV (r:List Int × List Int × Int):V:= .tup [slI r.1,slI r.2.1,.sc (.int .i64 r.2.2)]
section
variable (w:World) (n:Nat)
theorem cross_p (s:Nat) (l:List Int) (hl:l.length≤140737488351232):VSpec (EN w (n+6)) 17 [.sl s l.length (l.map iD)] (crossV (crossF l)) ⟨[],0,0⟩:=by
 refine vspec_g rfl rfl (fun _ _=>rfl) (Nat.le_of_ble_eq_true rfl) (oldVals w) retOK_fin2 rfl fun C hC hn=>?_
 repeat' (first|(simp (disch:=first|omega|assumption|(refine @id ((_:Bool)=_) ?_;exact id (by with_unfolding_all rfl))|(exact Or.inl rfl)|(exact Or.inl trivial)|(exact okL_map _ (fun _=>rfl) _)|(simp only[VVlen]<;>omega)|fail) only[VV0,VV1,VV2,VV3,VV4,VV5,VV6,VV7,VV8,VV9,mkFnV,vargs,slotsL,opdsA,Nat.reduceEqDiff,Nat.reduceLT,Nat.reduceAdd,Nat.reduceBEq,Int.reduceAdd,Int.reduceSub,Int.reduceLT,Int.reduceLE,Int.reduceEq,Int.reduceNeg,↓reduceIte,reduceCtorEq,scL,scD,expand,List.replicate,c17])|(refine gC_drawW ?_)|(refine gI_dec (fun _=>?_) (fun _=>?_))|(refine gG_dec (fun _=>?_) (fun _=>?_))|(refine gPG_dec (fun _=>?_) (fun _=>?_))|(refine gI_var (fun _=>?_) (fun _=>?_))|(refine gG_var (fun _=>?_) (fun _=>?_))|(refine gPG_var (fun _=>?_) (fun _=>?_)))
 refine callV_flat ((check_p w n s l hl).of hC rfl _ rfl) ?_
 by_cases h0:chk l=0
 case neg=>
  have e:crossF l=([],[],chk l):=if_neg h0
  rw[e]
  repeat' (first|(simp (disch:=first|omega|assumption|(refine @id ((_:Bool)=_) ?_;exact id (by with_unfolding_all rfl))|(exact Or.inl rfl)|(exact Or.inl trivial)|(exact okL_map _ (fun _=>rfl) _)|(simp only[VVlen]<;>omega)|fail) only[VV0,VV1,VV2,VV3,VV4,VV5,VV6,VV7,VV8,VV9,mkFnV,vargs,slotsL,opdsA,Nat.reduceEqDiff,Nat.reduceLT,Nat.reduceAdd,Nat.reduceBEq,Int.reduceAdd,Int.reduceSub,Int.reduceLT,Int.reduceLE,Int.reduceEq,Int.reduceNeg,↓reduceIte,reduceCtorEq,scL,scD,expand,List.replicate])|(refine gC_drawW ?_)|(refine gI_dec (fun _=>?_) (fun _=>?_))|(refine gG_dec (fun _=>?_) (fun _=>?_))|(refine gPG_dec (fun _=>?_) (fun _=>?_))|(refine gI_var (fun _=>?_) (fun _=>?_))|(refine gG_var (fun _=>?_) (fun _=>?_))|(refine gPG_var (fun _=>?_) (fun _=>?_)))
  all_goals try (exfalso;omega)
  exact weak_finNil2 hn rfl
 have e:crossF l=(evs l l.length,ods l l.length,0):=if_pos h0
 have hl2:l.length≤4000:=by
  unfold chk at h0
  split at h0
  ·cases h0
  ·omega
 rw[e,h0]
 repeat' (first|(simp (disch:=first|omega|assumption|(refine @id ((_:Bool)=_) ?_;exact id (by with_unfolding_all rfl))|(exact Or.inl rfl)|(exact Or.inl trivial)|(exact okL_map _ (fun _=>rfl) _)|(simp only[VVlen]<;>omega)|fail) only[VV0,VV1,VV2,VV3,VV4,VV5,VV6,VV7,VV8,VV9,mkFnV,vargs,slotsL,opdsA,Nat.reduceEqDiff,Nat.reduceLT,Nat.reduceAdd,Nat.reduceBEq,Int.reduceAdd,Int.reduceSub,Int.reduceLT,Int.reduceLE,Int.reduceEq,Int.reduceNeg,↓reduceIte,reduceCtorEq,scL,scD,expand,List.replicate])|(refine gC_drawW ?_)|(refine gI_dec (fun _=>?_) (fun _=>?_))|(refine gG_dec (fun _=>?_) (fun _=>?_))|(refine gPG_dec (fun _=>?_) (fun _=>?_))|(refine gI_var (fun _=>?_) (fun _=>?_))|(refine gG_var (fun _=>?_) (fun _=>?_))|(refine gPG_var (fun _=>?_) (fun _=>?_)))
 refine g_while (fun m fr st=>∃ k:Nat,m=l.length - k∧k≤l.length∧fr= [(2,.gr 2 0 (evs l k).length),(3,.gr 2 1 (ods l k).length),(13,.sl s l.length (l.map iD)),(14,.sc (.int .i64 l.length)),(15,.sc (.int .i64 k))]∧st=⟨[(1,.gro 3 1 false ((ods l k).map iD)),(0,.gro 3 1 false ((evs l k).map iD))],2,0⟩) l.length ?_ ⟨_,_,(weak_nilSlot 2 3 1 rfl).trans (weak_nilSlot 3 3 1 rfl),0,?_⟩ ?_
 ·rw[hC,callP_rounds];unfold many;omega
 ·exact ⟨by omega,by omega,rfl,rfl⟩
 ·rintro m fr st ⟨k,rfl,hk,rfl,rfl⟩
  by_cases hlt:k<l.length
  case neg=>
   have:k=l.length:=by omega
   subst this
   repeat' (first|(simp (disch:=first|omega|assumption|(refine @id ((_:Bool)=_) ?_;exact id (by with_unfolding_all rfl))|(exact Or.inl rfl)|(exact Or.inl trivial)|(exact okL_map _ (fun _=>rfl) _)|(simp only[VVlen]<;>omega)|fail) only[VV0,VV1,VV2,VV3,VV4,VV5,VV6,VV7,VV8,VV9,mkFnV,vargs,slotsL,opdsA,Nat.reduceEqDiff,Nat.reduceLT,Nat.reduceAdd,Nat.reduceBEq,Int.reduceAdd,Int.reduceSub,Int.reduceLT,Int.reduceLE,Int.reduceEq,Int.reduceNeg,↓reduceIte,reduceCtorEq,scL,scD,expand,List.replicate,c17l0])|(refine gC_drawW ?_)|(refine gI_dec (fun _=>?_) (fun _=>?_))|(refine gG_dec (fun _=>?_) (fun _=>?_))|(refine gPG_dec (fun _=>?_) (fun _=>?_))|(refine gI_var (fun _=>?_) (fun _=>?_))|(refine gG_var (fun _=>?_) (fun _=>?_))|(refine gPG_var (fun _=>?_) (fun _=>?_)))
   all_goals try (exfalso;omega)
   exact weak_fin2 (snap_ints rfl) (snap_ints rfl) rfl (.inl (by decide)) (.inl (by decide)) hn rfl
  have h1:=evs_len l k
  have h2:=ods_len l k
  by_cases hp:k % 2=0
  ·have hp':(k:Int) % 2=0:=by omega
   have e1:evs l (k+1)=evs l k++ [l[k]!]:=if_pos hp
   have e2:ods l (k+1)=ods l k:=if_pos hp
   repeat' (first|(simp (disch:=first|omega|assumption|(refine @id ((_:Bool)=_) ?_;exact id (by with_unfolding_all rfl))|(exact Or.inl rfl)|(exact Or.inl trivial)|(exact okL_map _ (fun _=>rfl) _)|(simp only[VVlen]<;>omega)|fail) only[VV0,VV1,VV2,VV3,VV4,VV5,VV6,VV7,VV8,VV9,mkFnV,vargs,slotsL,opdsA,Nat.reduceEqDiff,Nat.reduceLT,Nat.reduceAdd,Nat.reduceBEq,Int.reduceAdd,Int.reduceSub,Int.reduceLT,Int.reduceLE,Int.reduceEq,Int.reduceNeg,↓reduceIte,reduceCtorEq,scL,scD,expand,List.replicate,c17l0,iD_dv,hp'])|(refine gC_drawW ?_)|(refine gI_dec (fun _=>?_) (fun _=>?_))|(refine gG_dec (fun _=>?_) (fun _=>?_))|(refine gPG_dec (fun _=>?_) (fun _=>?_))|(refine gI_var (fun _=>?_) (fun _=>?_))|(refine gG_var (fun _=>?_) (fun _=>?_))|(refine gPG_var (fun _=>?_) (fun _=>?_)))
   all_goals try (exfalso;omega)
   refine ⟨_,_,_,by omega,weak_to [(1,1),(3,0)] 2 hn rfl rfl rfl rfl,k+1,rfl,hlt,?_,?_⟩
   ·rw[e1,e2];simp[renF,vren,vrenL,aget_cons]
   ·rw[e1,e2];simp[renH,aget_cons,renO,iD]
  ·have hp':(k:Int) % 2=1:=by omega
   have e1:evs l (k+1)=evs l k:=if_neg hp
   have e2:ods l (k+1)=ods l k++ [l[k]!]:=if_neg hp
   repeat' (first|(simp (disch:=first|omega|assumption|(refine @id ((_:Bool)=_) ?_;exact id (by with_unfolding_all rfl))|(exact Or.inl rfl)|(exact Or.inl trivial)|(exact okL_map _ (fun _=>rfl) _)|(simp only[VVlen]<;>omega)|fail) only[VV0,VV1,VV2,VV3,VV4,VV5,VV6,VV7,VV8,VV9,mkFnV,vargs,slotsL,opdsA,Nat.reduceEqDiff,Nat.reduceLT,Nat.reduceAdd,Nat.reduceBEq,Int.reduceAdd,Int.reduceSub,Int.reduceLT,Int.reduceLE,Int.reduceEq,Int.reduceNeg,↓reduceIte,reduceCtorEq,scL,scD,expand,List.replicate,c17l0,iD_dv,hp'])|(refine gC_drawW ?_)|(refine gI_dec (fun _=>?_) (fun _=>?_))|(refine gG_dec (fun _=>?_) (fun _=>?_))|(refine gPG_dec (fun _=>?_) (fun _=>?_))|(refine gI_var (fun _=>?_) (fun _=>?_))|(refine gG_var (fun _=>?_) (fun _=>?_))|(refine gPG_var (fun _=>?_) (fun _=>?_)))
   all_goals try (exfalso;omega)
   refine ⟨_,_,_,by omega,weak_to [(3,1),(0,0)] 2 hn rfl rfl rfl rfl,k+1,rfl,hlt,?_,?_⟩
   ·rw[e1,e2];simp[renF,vren,vrenL,aget_cons]
   ·rw[e1,e2];simp[renH,aget_cons,renO,iD]
end
end Go.Proofs.YtgglaaldlegckaaDoor
namespace Go.Proofs.YtgglaaldlegckaaDoor
open Go Go.Itp
set_option maxRecDepth 100000
set_option maxHeartbeats 1000000
set_option linter.unusedSimpArgs false
def und (a b:List Int) (i:Nat):Int:=if i % 2=0 then a[i / 2]! else b[i / 2]!
def unc (a b:List Int) (k:Nat):List Int:=(List.range k).map (und a b)
theorem unc_len (a b:List Int) (k:Nat):(unc a b k).length=k:=by simp[unc]
theorem unc_step (a b:List Int) (k:Nat):unc a b (k+1)=unc a b k++ [und a b k]:=by simp[unc,List.range_succ]
def uncF (a b:List Int):List Int × Int:=
 if chk a ≠ 0 then ([],chk a) else if chk b ≠ 0 then ([],chk b) else if a.length=b.length∨a.length=b.length+1 then
  (if 4000<a.length+b.length then ([],4) else (unc a b (a.length+b.length),0)) else ([],26)
abbrev sl2 (r:List Int × Int):V:= .tup [slI r.1,.sc (.int .i64 r.2)]
section
variable (w:World) (n:Nat)
theorem rcross_p (s:Nat) (l:List Int) (hl:l.length≤140737488351232):VSpec (EN w (n+2)) 18 [.sl s l.length (l.map iD)] (crossV (crossF l)) ⟨[],0,0⟩:=by
 refine vspec_g rfl rfl (fun _ _=>rfl) (Nat.le_of_ble_eq_true rfl) (oldVals w) retOK_fin2 rfl fun C hC hn=>?_
 have hck:=fun st=>(rcheck_p w n s l hl).of hC rfl st rfl
 repeat' (first|(simp (disch:=first|omega|assumption|(refine @id ((_:Bool)=_) ?_;exact id (by with_unfolding_all rfl))|(exact Or.inl rfl)|(exact Or.inl trivial)|(exact okL_map _ (fun _=>rfl) _)|(simp only[VVlen]<;>omega)|fail) only[VV0,VV1,VV2,VV3,VV4,VV5,VV6,VV7,VV8,VV9,mkFnV,vargs,slotsL,opdsA,Nat.reduceEqDiff,Nat.reduceLT,Nat.reduceAdd,Nat.reduceBEq,Int.reduceAdd,Int.reduceSub,Int.reduceLT,Int.reduceLE,Int.reduceEq,Int.reduceNeg,↓reduceIte,reduceCtorEq,scL,scD,expand,List.replicate,c18])|(refine gC_drawW ?_)|(refine gI_dec (fun _=>?_) (fun _=>?_))|(refine gG_dec (fun _=>?_) (fun _=>?_))|(refine gPG_dec (fun _=>?_) (fun _=>?_))|(refine gI_var (fun _=>?_) (fun _=>?_))|(refine gG_var (fun _=>?_) (fun _=>?_))|(refine gPG_var (fun _=>?_) (fun _=>?_)))
 refine callV_flat (hck _) ?_
 by_cases h0:chk l=0
 case neg=>
  have e:crossF l=([],[],chk l):=if_neg h0
  rw[e]
  repeat' (first|(simp (disch:=first|omega|assumption|(refine @id ((_:Bool)=_) ?_;exact id (by with_unfolding_all rfl))|(exact Or.inl rfl)|(exact Or.inl trivial)|(exact okL_map _ (fun _=>rfl) _)|(simp only[VVlen]<;>omega)|fail) only[VV0,VV1,VV2,VV3,VV4,VV5,VV6,VV7,VV8,VV9,mkFnV,vargs,slotsL,opdsA,Nat.reduceEqDiff,Nat.reduceLT,Nat.reduceAdd,Nat.reduceBEq,Int.reduceAdd,Int.reduceSub,Int.reduceLT,Int.reduceLE,Int.reduceEq,Int.reduceNeg,↓reduceIte,reduceCtorEq,scL,scD,expand,List.replicate])|(refine gC_drawW ?_)|(refine gI_dec (fun _=>?_) (fun _=>?_))|(refine gG_dec (fun _=>?_) (fun _=>?_))|(refine gPG_dec (fun _=>?_) (fun _=>?_))|(refine gI_var (fun _=>?_) (fun _=>?_))|(refine gG_var (fun _=>?_) (fun _=>?_))|(refine gPG_var (fun _=>?_) (fun _=>?_)))
  all_goals try (exfalso;omega)
  refine callV_flat (hck _) ?_
  repeat' (first|(simp (disch:=first|omega|assumption|(refine @id ((_:Bool)=_) ?_;exact id (by with_unfolding_all rfl))|(exact Or.inl rfl)|(exact Or.inl trivial)|(exact okL_map _ (fun _=>rfl) _)|(simp only[VVlen]<;>omega)|fail) only[VV0,VV1,VV2,VV3,VV4,VV5,VV6,VV7,VV8,VV9,mkFnV,vargs,slotsL,opdsA,Nat.reduceEqDiff,Nat.reduceLT,Nat.reduceAdd,Nat.reduceBEq,Int.reduceAdd,Int.reduceSub,Int.reduceLT,Int.reduceLE,Int.reduceEq,Int.reduceNeg,↓reduceIte,reduceCtorEq,scL,scD,expand,List.replicate])|(refine gC_drawW ?_)|(refine gI_dec (fun _=>?_) (fun _=>?_))|(refine gG_dec (fun _=>?_) (fun _=>?_))|(refine gPG_dec (fun _=>?_) (fun _=>?_))|(refine gI_var (fun _=>?_) (fun _=>?_))|(refine gG_var (fun _=>?_) (fun _=>?_))|(refine gPG_var (fun _=>?_) (fun _=>?_)))
  exact weak_finNil2 hn rfl
 have e:crossF l=(evs l l.length,ods l l.length,0):=if_pos h0
 have hl2:l.length≤4000:=by
  unfold chk at h0
  split at h0
  ·cases h0
  ·omega
 rw[e,h0]
 repeat' (first|(simp (disch:=first|omega|assumption|(refine @id ((_:Bool)=_) ?_;exact id (by with_unfolding_all rfl))|(exact Or.inl rfl)|(exact Or.inl trivial)|(exact okL_map _ (fun _=>rfl) _)|(simp only[VVlen]<;>omega)|fail) only[VV0,VV1,VV2,VV3,VV4,VV5,VV6,VV7,VV8,VV9,mkFnV,vargs,slotsL,opdsA,Nat.reduceEqDiff,Nat.reduceLT,Nat.reduceAdd,Nat.reduceBEq,Int.reduceAdd,Int.reduceSub,Int.reduceLT,Int.reduceLE,Int.reduceEq,Int.reduceNeg,↓reduceIte,reduceCtorEq,scL,scD,expand,List.replicate])|(refine gC_drawW ?_)|(refine gI_dec (fun _=>?_) (fun _=>?_))|(refine gG_dec (fun _=>?_) (fun _=>?_))|(refine gPG_dec (fun _=>?_) (fun _=>?_))|(refine gI_var (fun _=>?_) (fun _=>?_))|(refine gG_var (fun _=>?_) (fun _=>?_))|(refine gPG_var (fun _=>?_) (fun _=>?_)))
 have hE:evs l (l.length+1)=if l.length % 2=0 then evs l (l.length+1) else evs l l.length:=by
  split
  ·rfl
  ·rename_i h;exact if_neg h
 have hO:ods l (l.length+1)=if l.length % 2=1 then ods l (l.length+1) else ods l l.length:=by
  split
  ·rfl
  ·rename_i h;exact if_pos (by omega)
 refine g_while (fun m fr st=>∃ k:Nat,m=l.length+1 - k∧k≤l.length+1∧k % 2=0∧fr= [(0,.sl s l.length (l.map iD)),(5,.gr 2 0 (evs l k).length),(6,.gr 2 1 0),(7,.sc (.int .i64 k))]∧st=⟨[(1,.gro 3 1 false []),(0,.gro 3 1 false ((evs l k).map iD))],2,0⟩) (l.length+1) ?_ ⟨_,_,(weak_nilSlot 5 3 1 rfl).trans (weak_nilSlot 6 3 1 rfl),0,?_⟩ ?_
 ·rw[hC,callP_rounds];unfold many;omega
 ·exact ⟨by omega,by omega,rfl,rfl,rfl⟩
 ·rintro m fr st ⟨k,rfl,hk,hk2,rfl,rfl⟩
  have h1:=evs_len l k
  by_cases hlt:k<l.length
  case pos=>
   have e1:evs l (k+2)=evs l k++ [l[k]!]:=by
    rw[evs,if_neg (by omega),evs,if_pos hk2]
   repeat' (first|(simp (disch:=first|omega|assumption|(refine @id ((_:Bool)=_) ?_;exact id (by with_unfolding_all rfl))|(exact Or.inl rfl)|(exact Or.inl trivial)|(exact okL_map _ (fun _=>rfl) _)|(simp only[VVlen]<;>omega)|fail) only[VV0,VV1,VV2,VV3,VV4,VV5,VV6,VV7,VV8,VV9,mkFnV,vargs,slotsL,opdsA,Nat.reduceEqDiff,Nat.reduceLT,Nat.reduceAdd,Nat.reduceBEq,Int.reduceAdd,Int.reduceSub,Int.reduceLT,Int.reduceLE,Int.reduceEq,Int.reduceNeg,↓reduceIte,reduceCtorEq,scL,scD,expand,List.replicate,c18l1,iD_dv])|(refine gC_drawW ?_)|(refine gI_dec (fun _=>?_) (fun _=>?_))|(refine gG_dec (fun _=>?_) (fun _=>?_))|(refine gPG_dec (fun _=>?_) (fun _=>?_))|(refine gI_var (fun _=>?_) (fun _=>?_))|(refine gG_var (fun _=>?_) (fun _=>?_))|(refine gPG_var (fun _=>?_) (fun _=>?_)))
   all_goals try (exfalso;omega)
   refine ⟨_,_,_,by omega,weak_to [(1,1),(3,0)] 2 hn rfl rfl rfl rfl,k+2,rfl,by omega,by omega,?_,?_⟩
   ·rw[e1];simp[renF,vren,vrenL,aget_cons]
   ·rw[e1];simp[renH,aget_cons,renO,iD]
  have hev:evs l k=evs l l.length:=by
   by_cases h:k=l.length
   ·rw[h]
   ·have:k=l.length+1:=by omega
    subst this
    rw[hE,if_neg (by omega)]
  rw[hev]
  repeat' (first|(simp (disch:=first|omega|assumption|(refine @id ((_:Bool)=_) ?_;exact id (by with_unfolding_all rfl))|(exact Or.inl rfl)|(exact Or.inl trivial)|(exact okL_map _ (fun _=>rfl) _)|(simp only[VVlen]<;>omega)|fail) only[VV0,VV1,VV2,VV3,VV4,VV5,VV6,VV7,VV8,VV9,mkFnV,vargs,slotsL,opdsA,Nat.reduceEqDiff,Nat.reduceLT,Nat.reduceAdd,Nat.reduceBEq,Int.reduceAdd,Int.reduceSub,Int.reduceLT,Int.reduceLE,Int.reduceEq,Int.reduceNeg,↓reduceIte,reduceCtorEq,scL,scD,expand,List.replicate,c18l1])|(refine gC_drawW ?_)|(refine gI_dec (fun _=>?_) (fun _=>?_))|(refine gG_dec (fun _=>?_) (fun _=>?_))|(refine gPG_dec (fun _=>?_) (fun _=>?_))|(refine gI_var (fun _=>?_) (fun _=>?_))|(refine gG_var (fun _=>?_) (fun _=>?_))|(refine gPG_var (fun _=>?_) (fun _=>?_)))
  all_goals try (exfalso;omega)
  refine g_while (fun m fr st=>∃ k:Nat,m=l.length+1 - k∧k≤l.length+1∧k % 2=1∧fr= [(0,.sl s l.length (l.map iD)),(5,.gr 2 0 (evs l l.length).length),(6,.gr 2 1 (ods l k).length),(8,.sc (.int .i64 k))]∧st=⟨[(1,.gro 3 1 false ((ods l k).map iD)),(0,.gro 3 1 false ((evs l l.length).map iD))],2,0⟩) l.length ?_ ⟨_,_,.refl _ _,1,?_⟩ ?_
  ·rw[hC,callP_rounds];unfold many;omega
  ·exact ⟨by omega,by omega,rfl,rfl,rfl⟩
  ·rintro m fr st ⟨j,rfl,hj,hj2,rfl,rfl⟩
   have h2:=ods_len l j
   by_cases hlt:j<l.length
   case pos=>
    have e1:ods l (j+2)=ods l j++ [l[j]!]:=by
     rw[ods,if_pos (by omega),ods,if_neg (by omega)]
    repeat' (first|(simp (disch:=first|omega|assumption|(refine @id ((_:Bool)=_) ?_;exact id (by with_unfolding_all rfl))|(exact Or.inl rfl)|(exact Or.inl trivial)|(exact okL_map _ (fun _=>rfl) _)|(simp only[VVlen]<;>omega)|fail) only[VV0,VV1,VV2,VV3,VV4,VV5,VV6,VV7,VV8,VV9,mkFnV,vargs,slotsL,opdsA,Nat.reduceEqDiff,Nat.reduceLT,Nat.reduceAdd,Nat.reduceBEq,Int.reduceAdd,Int.reduceSub,Int.reduceLT,Int.reduceLE,Int.reduceEq,Int.reduceNeg,↓reduceIte,reduceCtorEq,scL,scD,expand,List.replicate,c18l0,iD_dv])|(refine gC_drawW ?_)|(refine gI_dec (fun _=>?_) (fun _=>?_))|(refine gG_dec (fun _=>?_) (fun _=>?_))|(refine gPG_dec (fun _=>?_) (fun _=>?_))|(refine gI_var (fun _=>?_) (fun _=>?_))|(refine gG_var (fun _=>?_) (fun _=>?_))|(refine gPG_var (fun _=>?_) (fun _=>?_)))
    all_goals try (exfalso;omega)
    refine ⟨_,_,_,by omega,weak_to [(3,1),(0,0)] 2 hn rfl rfl rfl rfl,j+2,rfl,by omega,by omega,?_,?_⟩
    ·rw[e1];simp[renF,vren,vrenL,aget_cons]
    ·rw[e1];simp[renH,aget_cons,renO,iD]
   have hod:ods l j=ods l l.length:=by
    by_cases h:j=l.length
    ·rw[h]
    ·have:j=l.length+1:=by omega
     subst this
     rw[hO,if_neg (by omega)]
   rw[hod]
   repeat' (first|(simp (disch:=first|omega|assumption|(refine @id ((_:Bool)=_) ?_;exact id (by with_unfolding_all rfl))|(exact Or.inl rfl)|(exact Or.inl trivial)|(exact okL_map _ (fun _=>rfl) _)|(simp only[VVlen]<;>omega)|fail) only[VV0,VV1,VV2,VV3,VV4,VV5,VV6,VV7,VV8,VV9,mkFnV,vargs,slotsL,opdsA,Nat.reduceEqDiff,Nat.reduceLT,Nat.reduceAdd,Nat.reduceBEq,Int.reduceAdd,Int.reduceSub,Int.reduceLT,Int.reduceLE,Int.reduceEq,Int.reduceNeg,↓reduceIte,reduceCtorEq,scL,scD,expand,List.replicate,c18l0])|(refine gC_drawW ?_)|(refine gI_dec (fun _=>?_) (fun _=>?_))|(refine gG_dec (fun _=>?_) (fun _=>?_))|(refine gPG_dec (fun _=>?_) (fun _=>?_))|(refine gI_var (fun _=>?_) (fun _=>?_))|(refine gG_var (fun _=>?_) (fun _=>?_))|(refine gPG_var (fun _=>?_) (fun _=>?_)))
   all_goals try (exfalso;omega)
   exact weak_fin2 (snap_ints rfl) (snap_ints rfl) rfl (.inl (by decide)) (.inl (by decide)) hn rfl
theorem uncross_p (s s':Nat) (a b:List Int) (ha:a.length≤140737488351232) (hb:b.length≤140737488351232):VSpec (EN w (n+6)) 19 [.sl s a.length (a.map iD),.sl s' b.length (b.map iD)] (sl2 (uncF a b)) ⟨[],0,0⟩:=by
 refine vspec_g rfl rfl (fun _ _=>rfl) (Nat.le_of_ble_eq_true rfl) (oldVals w) retOK_fin rfl fun C hC hn=>?_
 repeat' (first|(simp (disch:=first|omega|assumption|(refine @id ((_:Bool)=_) ?_;exact id (by with_unfolding_all rfl))|(exact Or.inl rfl)|(exact Or.inl trivial)|(exact okL_map _ (fun _=>rfl) _)|(simp only[VVlen]<;>omega)|fail) only[VV0,VV1,VV2,VV3,VV4,VV5,VV6,VV7,VV8,VV9,mkFnV,vargs,slotsL,opdsA,Nat.reduceEqDiff,Nat.reduceLT,Nat.reduceAdd,Nat.reduceBEq,Int.reduceAdd,Int.reduceSub,Int.reduceLT,Int.reduceLE,Int.reduceEq,Int.reduceNeg,↓reduceIte,reduceCtorEq,scL,scD,expand,List.replicate,c19])|(refine gC_drawW ?_)|(refine gI_dec (fun _=>?_) (fun _=>?_))|(refine gG_dec (fun _=>?_) (fun _=>?_))|(refine gPG_dec (fun _=>?_) (fun _=>?_))|(refine gI_var (fun _=>?_) (fun _=>?_))|(refine gG_var (fun _=>?_) (fun _=>?_))|(refine gPG_var (fun _=>?_) (fun _=>?_)))
 refine callV_flat ((check_p w n s a ha).of hC rfl _ rfl) ?_
 by_cases h0:chk a=0
 case neg=>
  have e:uncF a b=([],chk a):=if_pos h0
  rw[e]
  repeat' (first|(simp (disch:=first|omega|assumption|(refine @id ((_:Bool)=_) ?_;exact id (by with_unfolding_all rfl))|(exact Or.inl rfl)|(exact Or.inl trivial)|(exact okL_map _ (fun _=>rfl) _)|(simp only[VVlen]<;>omega)|fail) only[VV0,VV1,VV2,VV3,VV4,VV5,VV6,VV7,VV8,VV9,mkFnV,vargs,slotsL,opdsA,Nat.reduceEqDiff,Nat.reduceLT,Nat.reduceAdd,Nat.reduceBEq,Int.reduceAdd,Int.reduceSub,Int.reduceLT,Int.reduceLE,Int.reduceEq,Int.reduceNeg,↓reduceIte,reduceCtorEq,scL,scD,expand,List.replicate])|(refine gC_drawW ?_)|(refine gI_dec (fun _=>?_) (fun _=>?_))|(refine gG_dec (fun _=>?_) (fun _=>?_))|(refine gPG_dec (fun _=>?_) (fun _=>?_))|(refine gI_var (fun _=>?_) (fun _=>?_))|(refine gG_var (fun _=>?_) (fun _=>?_))|(refine gPG_var (fun _=>?_) (fun _=>?_)))
  all_goals try (exfalso;omega)
  exact weak_finNil hn rfl
 rw[h0]
 repeat' (first|(simp (disch:=first|omega|assumption|(refine @id ((_:Bool)=_) ?_;exact id (by with_unfolding_all rfl))|(exact Or.inl rfl)|(exact Or.inl trivial)|(exact okL_map _ (fun _=>rfl) _)|(simp only[VVlen]<;>omega)|fail) only[VV0,VV1,VV2,VV3,VV4,VV5,VV6,VV7,VV8,VV9,mkFnV,vargs,slotsL,opdsA,Nat.reduceEqDiff,Nat.reduceLT,Nat.reduceAdd,Nat.reduceBEq,Int.reduceAdd,Int.reduceSub,Int.reduceLT,Int.reduceLE,Int.reduceEq,Int.reduceNeg,↓reduceIte,reduceCtorEq,scL,scD,expand,List.replicate])|(refine gC_drawW ?_)|(refine gI_dec (fun _=>?_) (fun _=>?_))|(refine gG_dec (fun _=>?_) (fun _=>?_))|(refine gPG_dec (fun _=>?_) (fun _=>?_))|(refine gI_var (fun _=>?_) (fun _=>?_))|(refine gG_var (fun _=>?_) (fun _=>?_))|(refine gPG_var (fun _=>?_) (fun _=>?_)))
 refine callV_flat ((check_p w n s' b hb).of hC rfl _ rfl) ?_
 by_cases h1:chk b=0
 case neg=>
  have e:uncF a b=([],chk b):=by unfold uncF;rw[if_neg (by simpa using h0),if_pos h1]
  rw[e]
  repeat' (first|(simp (disch:=first|omega|assumption|(refine @id ((_:Bool)=_) ?_;exact id (by with_unfolding_all rfl))|(exact Or.inl rfl)|(exact Or.inl trivial)|(exact okL_map _ (fun _=>rfl) _)|(simp only[VVlen]<;>omega)|fail) only[VV0,VV1,VV2,VV3,VV4,VV5,VV6,VV7,VV8,VV9,mkFnV,vargs,slotsL,opdsA,Nat.reduceEqDiff,Nat.reduceLT,Nat.reduceAdd,Nat.reduceBEq,Int.reduceAdd,Int.reduceSub,Int.reduceLT,Int.reduceLE,Int.reduceEq,Int.reduceNeg,↓reduceIte,reduceCtorEq,scL,scD,expand,List.replicate])|(refine gC_drawW ?_)|(refine gI_dec (fun _=>?_) (fun _=>?_))|(refine gG_dec (fun _=>?_) (fun _=>?_))|(refine gPG_dec (fun _=>?_) (fun _=>?_))|(refine gI_var (fun _=>?_) (fun _=>?_))|(refine gG_var (fun _=>?_) (fun _=>?_))|(refine gPG_var (fun _=>?_) (fun _=>?_)))
  all_goals try (exfalso;omega)
  exact weak_finNil hn rfl
 rw[h1]
 have e:uncF a b=if a.length=b.length∨a.length=b.length+1 then (if 4000<a.length+b.length then ([],4) else (unc a b (a.length+b.length),0)) else ([],26):=by
  unfold uncF;rw[if_neg (by simpa using h0),if_neg (by simpa using h1)]
 by_cases h2:a.length=b.length∨a.length=b.length+1
 case neg=>
  rw[e,if_neg h2]
  repeat' (first|(simp (disch:=first|omega|assumption|(refine @id ((_:Bool)=_) ?_;exact id (by with_unfolding_all rfl))|(exact Or.inl rfl)|(exact Or.inl trivial)|(exact okL_map _ (fun _=>rfl) _)|(simp only[VVlen]<;>omega)|fail) only[VV0,VV1,VV2,VV3,VV4,VV5,VV6,VV7,VV8,VV9,mkFnV,vargs,slotsL,opdsA,Nat.reduceEqDiff,Nat.reduceLT,Nat.reduceAdd,Nat.reduceBEq,Int.reduceAdd,Int.reduceSub,Int.reduceLT,Int.reduceLE,Int.reduceEq,Int.reduceNeg,↓reduceIte,reduceCtorEq,scL,scD,expand,List.replicate])|(refine gC_drawW ?_)|(refine gI_dec (fun _=>?_) (fun _=>?_))|(refine gG_dec (fun _=>?_) (fun _=>?_))|(refine gPG_dec (fun _=>?_) (fun _=>?_))|(refine gI_var (fun _=>?_) (fun _=>?_))|(refine gG_var (fun _=>?_) (fun _=>?_))|(refine gPG_var (fun _=>?_) (fun _=>?_)))
  all_goals try (exfalso;omega)
  all_goals exact weak_finNil hn rfl
 rw[if_pos h2] at e
 by_cases h3:4000<a.length+b.length
 ·rw[e,if_pos h3]
  repeat' (first|(simp (disch:=first|omega|assumption|(refine @id ((_:Bool)=_) ?_;exact id (by with_unfolding_all rfl))|(exact Or.inl rfl)|(exact Or.inl trivial)|(exact okL_map _ (fun _=>rfl) _)|(simp only[VVlen]<;>omega)|fail) only[VV0,VV1,VV2,VV3,VV4,VV5,VV6,VV7,VV8,VV9,mkFnV,vargs,slotsL,opdsA,Nat.reduceEqDiff,Nat.reduceLT,Nat.reduceAdd,Nat.reduceBEq,Int.reduceAdd,Int.reduceSub,Int.reduceLT,Int.reduceLE,Int.reduceEq,Int.reduceNeg,↓reduceIte,reduceCtorEq,scL,scD,expand,List.replicate])|(refine gC_drawW ?_)|(refine gI_dec (fun _=>?_) (fun _=>?_))|(refine gG_dec (fun _=>?_) (fun _=>?_))|(refine gPG_dec (fun _=>?_) (fun _=>?_))|(refine gI_var (fun _=>?_) (fun _=>?_))|(refine gG_var (fun _=>?_) (fun _=>?_))|(refine gPG_var (fun _=>?_) (fun _=>?_)))
  all_goals try (exfalso;omega)
  all_goals exact weak_finNil hn rfl
 rw[e,if_neg h3]
 repeat' (first|(simp (disch:=first|omega|assumption|(refine @id ((_:Bool)=_) ?_;exact id (by with_unfolding_all rfl))|(exact Or.inl rfl)|(exact Or.inl trivial)|(exact okL_map _ (fun _=>rfl) _)|(simp only[VVlen]<;>omega)|fail) only[VV0,VV1,VV2,VV3,VV4,VV5,VV6,VV7,VV8,VV9,mkFnV,vargs,slotsL,opdsA,Nat.reduceEqDiff,Nat.reduceLT,Nat.reduceAdd,Nat.reduceBEq,Int.reduceAdd,Int.reduceSub,Int.reduceLT,Int.reduceLE,Int.reduceEq,Int.reduceNeg,↓reduceIte,reduceCtorEq,scL,scD,expand,List.replicate])|(refine gC_drawW ?_)|(refine gI_dec (fun _=>?_) (fun _=>?_))|(refine gG_dec (fun _=>?_) (fun _=>?_))|(refine gPG_dec (fun _=>?_) (fun _=>?_))|(refine gI_var (fun _=>?_) (fun _=>?_))|(refine gG_var (fun _=>?_) (fun _=>?_))|(refine gPG_var (fun _=>?_) (fun _=>?_)))
 all_goals try (exfalso;omega)
 all_goals
  refine g_while (fun m fr st=>∃ k:Nat,m=a.length - k∧k≤a.length∧fr= [(1,.sl s' b.length (b.map iD)),(9,.gr 2 0 (unc a b (min (2*k) (a.length+b.length))).length),(39,.sl s a.length (a.map iD)),(40,.sc (.int .i64 a.length)),(41,.sc (.int .i64 k))]∧st=⟨[(0,.gro 3 1 false ((unc a b (min (2*k) (a.length+b.length))).map iD))],1,0⟩) a.length ?_ ⟨_,_,weak_nilSlot 9 3 1 rfl,0,?_⟩ ?_
  ·rw[hC,callP_rounds];unfold many;omega
  ·exact ⟨by omega,by omega,by simp[unc,aput,Nat.beq,Nat.blt],by simp[unc]⟩
  ·rintro m fr st ⟨k,rfl,hk,rfl,rfl⟩
   by_cases hlt:k<a.length
   case neg=>
    have:k=a.length:=by omega
    subst this
    rw[show min (2*a.length) (a.length+b.length)=a.length+b.length by omega]
    repeat' (first|(simp (disch:=first|omega|assumption|(refine @id ((_:Bool)=_) ?_;exact id (by with_unfolding_all rfl))|(exact Or.inl rfl)|(exact Or.inl trivial)|(exact okL_map _ (fun _=>rfl) _)|(simp only[VVlen]<;>omega)|fail) only[VV0,VV1,VV2,VV3,VV4,VV5,VV6,VV7,VV8,VV9,mkFnV,vargs,slotsL,opdsA,Nat.reduceEqDiff,Nat.reduceLT,Nat.reduceAdd,Nat.reduceBEq,Int.reduceAdd,Int.reduceSub,Int.reduceLT,Int.reduceLE,Int.reduceEq,Int.reduceNeg,↓reduceIte,reduceCtorEq,scL,scD,expand,List.replicate,c19l0])|(refine gC_drawW ?_)|(refine gI_dec (fun _=>?_) (fun _=>?_))|(refine gG_dec (fun _=>?_) (fun _=>?_))|(refine gPG_dec (fun _=>?_) (fun _=>?_))|(refine gI_var (fun _=>?_) (fun _=>?_))|(refine gG_var (fun _=>?_) (fun _=>?_))|(refine gPG_var (fun _=>?_) (fun _=>?_)))
    all_goals try (exfalso;omega)
    exact weak_fin (snap_ints rfl) rfl (.inl (by decide)) hn rfl
   have hd1:und a b (2*k)=a[k]! :=by unfold und;rw[if_pos (by omega),show 2*k / 2=k by omega]
   have hd2:und a b (2*k+1)=b[k]! :=by unfold und;rw[if_neg (by omega),show (2*k+1) / 2=k by omega]
   rw[show min (2*k) (a.length+b.length)=2*k by omega]
   have hul:=unc_len a b (2*k)
   by_cases hkb:k<b.length
   ·have e1:unc a b (min (2*(k+1)) (a.length+b.length))=unc a b (2*k)++ [a[k]!]++ [b[k]!]:=by
     rw[show min (2*(k+1)) (a.length+b.length)=2*k+1+1 by omega,unc_step,unc_step,hd1,hd2]
    repeat' (first|(simp (disch:=first|omega|assumption|(refine @id ((_:Bool)=_) ?_;exact id (by with_unfolding_all rfl))|(exact Or.inl rfl)|(exact Or.inl trivial)|(exact okL_map _ (fun _=>rfl) _)|(simp only[VVlen]<;>omega)|fail) only[VV0,VV1,VV2,VV3,VV4,VV5,VV6,VV7,VV8,VV9,mkFnV,vargs,slotsL,opdsA,Nat.reduceEqDiff,Nat.reduceLT,Nat.reduceAdd,Nat.reduceBEq,Int.reduceAdd,Int.reduceSub,Int.reduceLT,Int.reduceLE,Int.reduceEq,Int.reduceNeg,↓reduceIte,reduceCtorEq,scL,scD,expand,List.replicate,c19l0,iD_dv])|(refine gC_drawW ?_)|(refine gI_dec (fun _=>?_) (fun _=>?_))|(refine gG_dec (fun _=>?_) (fun _=>?_))|(refine gPG_dec (fun _=>?_) (fun _=>?_))|(refine gI_var (fun _=>?_) (fun _=>?_))|(refine gG_var (fun _=>?_) (fun _=>?_))|(refine gPG_var (fun _=>?_) (fun _=>?_)))
    all_goals try (exfalso;omega)
    refine ⟨_,_,_,by omega,weak_to [(4,0)] 1 hn rfl rfl rfl rfl,k+1,rfl,hlt,?_,?_⟩
    ·rw[e1];simp[renF,vren,vrenL,aget_cons]
    ·rw[e1];simp[renH,aget_cons,renO,iD]
   ·have e1:unc a b (min (2*(k+1)) (a.length+b.length))=unc a b (2*k)++ [a[k]!]:=by
     rw[show min (2*(k+1)) (a.length+b.length)=2*k+1 by omega,unc_step,hd1]
    repeat' (first|(simp (disch:=first|omega|assumption|(refine @id ((_:Bool)=_) ?_;exact id (by with_unfolding_all rfl))|(exact Or.inl rfl)|(exact Or.inl trivial)|(exact okL_map _ (fun _=>rfl) _)|(simp only[VVlen]<;>omega)|fail) only[VV0,VV1,VV2,VV3,VV4,VV5,VV6,VV7,VV8,VV9,mkFnV,vargs,slotsL,opdsA,Nat.reduceEqDiff,Nat.reduceLT,Nat.reduceAdd,Nat.reduceBEq,Int.reduceAdd,Int.reduceSub,Int.reduceLT,Int.reduceLE,Int.reduceEq,Int.reduceNeg,↓reduceIte,reduceCtorEq,scL,scD,expand,List.replicate,c19l0,iD_dv])|(refine gC_drawW ?_)|(refine gI_dec (fun _=>?_) (fun _=>?_))|(refine gG_dec (fun _=>?_) (fun _=>?_))|(refine gPG_dec (fun _=>?_) (fun _=>?_))|(refine gI_var (fun _=>?_) (fun _=>?_))|(refine gG_var (fun _=>?_) (fun _=>?_))|(refine gPG_var (fun _=>?_) (fun _=>?_)))
    all_goals try (exfalso;omega)
    all_goals
     refine ⟨_,_,_,by omega,weak_to [(2,0)] 1 hn rfl rfl rfl rfl,k+1,rfl,hlt,?_,?_⟩
     ·rw[e1];simp[renF,vren,vrenL,aget_cons]
     ·rw[e1];simp[renH,aget_cons,renO,iD]
end
end Go.Proofs.YtgglaaldlegckaaDoor
namespace Go.Proofs.YtgglaaldlegckaaDoor
open Go Go.Itp
set_option maxRecDepth 100000
set_option maxHeartbeats 1000000
set_option linter.unusedSimpArgs false
theorem runC_agg (R:List (Int × Int)) (k:Nat) (hk:k<R.length):dload (runC R) (k*2) (some 2)=some (runV R[k]!.1 R[k]!.2):=by
 have:=dload_flat (fun p:Int × Int=> [iD p.1,iD p.2]) 2 R (fun _=>rfl) (by decide) k hk
 unfold runC
 rw[this]
 rfl
section
variable (w:World) (n:Nat)
theorem runcross_p (s s':Nat) (a b:List Int) (ha:a.length≤140737488351232) (hb:b.length≤140737488351232):VSpec (EN w (n+2)) 20 [.sl s a.length (a.map iD),.sl s' b.length (b.map iD)] (sl2 (uncF a b)) ⟨[],0,0⟩:=by
 refine vspec_g rfl rfl (fun _ _=>rfl) (Nat.le_of_ble_eq_true rfl) (oldVals w) retOK_fin rfl fun C hC hn=>?_
 have hca:=fun st=>(rcheck_p w n s a ha).of hC rfl st rfl
 have hcb:=fun st=>(rcheck_p w n s' b hb).of hC rfl st rfl
 repeat' (first|(simp (disch:=first|omega|assumption|(refine @id ((_:Bool)=_) ?_;exact id (by with_unfolding_all rfl))|(exact Or.inl rfl)|(exact Or.inl trivial)|(exact okL_map _ (fun _=>rfl) _)|(simp only[VVlen]<;>omega)|fail) only[VV0,VV1,VV2,VV3,VV4,VV5,VV6,VV7,VV8,VV9,mkFnV,vargs,slotsL,opdsA,Nat.reduceEqDiff,Nat.reduceLT,Nat.reduceAdd,Nat.reduceBEq,Int.reduceAdd,Int.reduceSub,Int.reduceLT,Int.reduceLE,Int.reduceEq,Int.reduceNeg,↓reduceIte,reduceCtorEq,scL,scD,expand,List.replicate,c20])|(refine gC_drawW ?_)|(refine gI_dec (fun _=>?_) (fun _=>?_))|(refine gG_dec (fun _=>?_) (fun _=>?_))|(refine gPG_dec (fun _=>?_) (fun _=>?_))|(refine gI_var (fun _=>?_) (fun _=>?_))|(refine gG_var (fun _=>?_) (fun _=>?_))|(refine gPG_var (fun _=>?_) (fun _=>?_)))
 refine callV_flat (hca _) ?_
 by_cases h0:chk a=0
 case neg=>
  have e:uncF a b=([],chk a):=if_pos h0
  rw[e]
  repeat' (first|(simp (disch:=first|omega|assumption|(refine @id ((_:Bool)=_) ?_;exact id (by with_unfolding_all rfl))|(exact Or.inl rfl)|(exact Or.inl trivial)|(exact okL_map _ (fun _=>rfl) _)|(simp only[VVlen]<;>omega)|fail) only[VV0,VV1,VV2,VV3,VV4,VV5,VV6,VV7,VV8,VV9,mkFnV,vargs,slotsL,opdsA,Nat.reduceEqDiff,Nat.reduceLT,Nat.reduceAdd,Nat.reduceBEq,Int.reduceAdd,Int.reduceSub,Int.reduceLT,Int.reduceLE,Int.reduceEq,Int.reduceNeg,↓reduceIte,reduceCtorEq,scL,scD,expand,List.replicate])|(refine gC_drawW ?_)|(refine gI_dec (fun _=>?_) (fun _=>?_))|(refine gG_dec (fun _=>?_) (fun _=>?_))|(refine gPG_dec (fun _=>?_) (fun _=>?_))|(refine gI_var (fun _=>?_) (fun _=>?_))|(refine gG_var (fun _=>?_) (fun _=>?_))|(refine gPG_var (fun _=>?_) (fun _=>?_)))
  all_goals try (exfalso;omega)
  refine callV_flat (hca _) ?_
  repeat' (first|(simp (disch:=first|omega|assumption|(refine @id ((_:Bool)=_) ?_;exact id (by with_unfolding_all rfl))|(exact Or.inl rfl)|(exact Or.inl trivial)|(exact okL_map _ (fun _=>rfl) _)|(simp only[VVlen]<;>omega)|fail) only[VV0,VV1,VV2,VV3,VV4,VV5,VV6,VV7,VV8,VV9,mkFnV,vargs,slotsL,opdsA,Nat.reduceEqDiff,Nat.reduceLT,Nat.reduceAdd,Nat.reduceBEq,Int.reduceAdd,Int.reduceSub,Int.reduceLT,Int.reduceLE,Int.reduceEq,Int.reduceNeg,↓reduceIte,reduceCtorEq,scL,scD,expand,List.replicate])|(refine gC_drawW ?_)|(refine gI_dec (fun _=>?_) (fun _=>?_))|(refine gG_dec (fun _=>?_) (fun _=>?_))|(refine gPG_dec (fun _=>?_) (fun _=>?_))|(refine gI_var (fun _=>?_) (fun _=>?_))|(refine gG_var (fun _=>?_) (fun _=>?_))|(refine gPG_var (fun _=>?_) (fun _=>?_)))
  exact weak_finNil hn rfl
 rw[h0]
 repeat' (first|(simp (disch:=first|omega|assumption|(refine @id ((_:Bool)=_) ?_;exact id (by with_unfolding_all rfl))|(exact Or.inl rfl)|(exact Or.inl trivial)|(exact okL_map _ (fun _=>rfl) _)|(simp only[VVlen]<;>omega)|fail) only[VV0,VV1,VV2,VV3,VV4,VV5,VV6,VV7,VV8,VV9,mkFnV,vargs,slotsL,opdsA,Nat.reduceEqDiff,Nat.reduceLT,Nat.reduceAdd,Nat.reduceBEq,Int.reduceAdd,Int.reduceSub,Int.reduceLT,Int.reduceLE,Int.reduceEq,Int.reduceNeg,↓reduceIte,reduceCtorEq,scL,scD,expand,List.replicate])|(refine gC_drawW ?_)|(refine gI_dec (fun _=>?_) (fun _=>?_))|(refine gG_dec (fun _=>?_) (fun _=>?_))|(refine gPG_dec (fun _=>?_) (fun _=>?_))|(refine gI_var (fun _=>?_) (fun _=>?_))|(refine gG_var (fun _=>?_) (fun _=>?_))|(refine gPG_var (fun _=>?_) (fun _=>?_)))
 refine callV_flat (hcb _) ?_
 by_cases h1:chk b=0
 case neg=>
  have e:uncF a b=([],chk b):=by unfold uncF;rw[if_neg (by simpa using h0),if_pos h1]
  rw[e]
  repeat' (first|(simp (disch:=first|omega|assumption|(refine @id ((_:Bool)=_) ?_;exact id (by with_unfolding_all rfl))|(exact Or.inl rfl)|(exact Or.inl trivial)|(exact okL_map _ (fun _=>rfl) _)|(simp only[VVlen]<;>omega)|fail) only[VV0,VV1,VV2,VV3,VV4,VV5,VV6,VV7,VV8,VV9,mkFnV,vargs,slotsL,opdsA,Nat.reduceEqDiff,Nat.reduceLT,Nat.reduceAdd,Nat.reduceBEq,Int.reduceAdd,Int.reduceSub,Int.reduceLT,Int.reduceLE,Int.reduceEq,Int.reduceNeg,↓reduceIte,reduceCtorEq,scL,scD,expand,List.replicate])|(refine gC_drawW ?_)|(refine gI_dec (fun _=>?_) (fun _=>?_))|(refine gG_dec (fun _=>?_) (fun _=>?_))|(refine gPG_dec (fun _=>?_) (fun _=>?_))|(refine gI_var (fun _=>?_) (fun _=>?_))|(refine gG_var (fun _=>?_) (fun _=>?_))|(refine gPG_var (fun _=>?_) (fun _=>?_)))
  all_goals try (exfalso;omega)
  refine callV_flat (hcb _) ?_
  repeat' (first|(simp (disch:=first|omega|assumption|(refine @id ((_:Bool)=_) ?_;exact id (by with_unfolding_all rfl))|(exact Or.inl rfl)|(exact Or.inl trivial)|(exact okL_map _ (fun _=>rfl) _)|(simp only[VVlen]<;>omega)|fail) only[VV0,VV1,VV2,VV3,VV4,VV5,VV6,VV7,VV8,VV9,mkFnV,vargs,slotsL,opdsA,Nat.reduceEqDiff,Nat.reduceLT,Nat.reduceAdd,Nat.reduceBEq,Int.reduceAdd,Int.reduceSub,Int.reduceLT,Int.reduceLE,Int.reduceEq,Int.reduceNeg,↓reduceIte,reduceCtorEq,scL,scD,expand,List.replicate])|(refine gC_drawW ?_)|(refine gI_dec (fun _=>?_) (fun _=>?_))|(refine gG_dec (fun _=>?_) (fun _=>?_))|(refine gPG_dec (fun _=>?_) (fun _=>?_))|(refine gI_var (fun _=>?_) (fun _=>?_))|(refine gG_var (fun _=>?_) (fun _=>?_))|(refine gPG_var (fun _=>?_) (fun _=>?_)))
  exact weak_finNil hn rfl
 rw[h1]
 have e:uncF a b=if a.length=b.length∨a.length=b.length+1 then (if 4000<a.length+b.length then ([],4) else (unc a b (a.length+b.length),0)) else ([],26):=by
  unfold uncF;rw[if_neg (by simpa using h0),if_neg (by simpa using h1)]
 by_cases h2:a.length=b.length∨a.length=b.length+1
 case neg=>
  rw[e,if_neg h2]
  repeat' (first|(simp (disch:=first|omega|assumption|(refine @id ((_:Bool)=_) ?_;exact id (by with_unfolding_all rfl))|(exact Or.inl rfl)|(exact Or.inl trivial)|(exact okL_map _ (fun _=>rfl) _)|(simp only[VVlen]<;>omega)|fail) only[VV0,VV1,VV2,VV3,VV4,VV5,VV6,VV7,VV8,VV9,mkFnV,vargs,slotsL,opdsA,Nat.reduceEqDiff,Nat.reduceLT,Nat.reduceAdd,Nat.reduceBEq,Int.reduceAdd,Int.reduceSub,Int.reduceLT,Int.reduceLE,Int.reduceEq,Int.reduceNeg,↓reduceIte,reduceCtorEq,scL,scD,expand,List.replicate])|(refine gC_drawW ?_)|(refine gI_dec (fun _=>?_) (fun _=>?_))|(refine gG_dec (fun _=>?_) (fun _=>?_))|(refine gPG_dec (fun _=>?_) (fun _=>?_))|(refine gI_var (fun _=>?_) (fun _=>?_))|(refine gG_var (fun _=>?_) (fun _=>?_))|(refine gPG_var (fun _=>?_) (fun _=>?_)))
  all_goals try (exfalso;omega)
  all_goals exact weak_finNil hn rfl
 rw[if_pos h2] at e
 by_cases h3:4000<a.length+b.length
 ·rw[e,if_pos h3]
  repeat' (first|(simp (disch:=first|omega|assumption|(refine @id ((_:Bool)=_) ?_;exact id (by with_unfolding_all rfl))|(exact Or.inl rfl)|(exact Or.inl trivial)|(exact okL_map _ (fun _=>rfl) _)|(simp only[VVlen]<;>omega)|fail) only[VV0,VV1,VV2,VV3,VV4,VV5,VV6,VV7,VV8,VV9,mkFnV,vargs,slotsL,opdsA,Nat.reduceEqDiff,Nat.reduceLT,Nat.reduceAdd,Nat.reduceBEq,Int.reduceAdd,Int.reduceSub,Int.reduceLT,Int.reduceLE,Int.reduceEq,Int.reduceNeg,↓reduceIte,reduceCtorEq,scL,scD,expand,List.replicate])|(refine gC_drawW ?_)|(refine gI_dec (fun _=>?_) (fun _=>?_))|(refine gG_dec (fun _=>?_) (fun _=>?_))|(refine gPG_dec (fun _=>?_) (fun _=>?_))|(refine gI_var (fun _=>?_) (fun _=>?_))|(refine gG_var (fun _=>?_) (fun _=>?_))|(refine gPG_var (fun _=>?_) (fun _=>?_)))
  all_goals try (exfalso;omega)
  all_goals exact weak_finNil hn rfl
 rw[e,if_neg h3]
 repeat' (first|(simp (disch:=first|omega|assumption|(refine @id ((_:Bool)=_) ?_;exact id (by with_unfolding_all rfl))|(exact Or.inl rfl)|(exact Or.inl trivial)|(exact okL_map _ (fun _=>rfl) _)|(simp only[VVlen]<;>omega)|fail) only[VV0,VV1,VV2,VV3,VV4,VV5,VV6,VV7,VV8,VV9,mkFnV,vargs,slotsL,opdsA,Nat.reduceEqDiff,Nat.reduceLT,Nat.reduceAdd,Nat.reduceBEq,Int.reduceAdd,Int.reduceSub,Int.reduceLT,Int.reduceLE,Int.reduceEq,Int.reduceNeg,↓reduceIte,reduceCtorEq,scL,scD,expand,List.replicate])|(refine gC_drawW ?_)|(refine gI_dec (fun _=>?_) (fun _=>?_))|(refine gG_dec (fun _=>?_) (fun _=>?_))|(refine gPG_dec (fun _=>?_) (fun _=>?_))|(refine gI_var (fun _=>?_) (fun _=>?_))|(refine gG_var (fun _=>?_) (fun _=>?_))|(refine gPG_var (fun _=>?_) (fun _=>?_)))
 all_goals try (exfalso;omega)
 all_goals
  refine g_while (fun m fr st=>∃ k:Nat,m=a.length+b.length - k∧k≤a.length+b.length∧fr= [(0,.sl s a.length (a.map iD)),(1,.sl s' b.length (b.map iD)),(6,.gr 2 0 (unc a b k).length),(7,.sc (.int .i64 k))]∧st=⟨[(0,.gro 3 1 false ((unc a b k).map iD))],1,0⟩) (a.length+b.length) ?_ ⟨_,_,weak_nilSlot 6 3 1 rfl,0,?_⟩ ?_
  ·rw[hC,callP_rounds];unfold many;omega
  ·exact ⟨by omega,by omega,by simp[unc,aput,Nat.beq,Nat.blt],by simp[unc]⟩
  ·rintro m fr st ⟨k,rfl,hk,rfl,rfl⟩
   by_cases hlt:k<a.length+b.length
   case neg=>
    have:k=a.length+b.length:=by omega
    subst this
    repeat' (first|(simp (disch:=first|omega|assumption|(refine @id ((_:Bool)=_) ?_;exact id (by with_unfolding_all rfl))|(exact Or.inl rfl)|(exact Or.inl trivial)|(exact okL_map _ (fun _=>rfl) _)|(simp only[VVlen]<;>omega)|fail) only[VV0,VV1,VV2,VV3,VV4,VV5,VV6,VV7,VV8,VV9,mkFnV,vargs,slotsL,opdsA,Nat.reduceEqDiff,Nat.reduceLT,Nat.reduceAdd,Nat.reduceBEq,Int.reduceAdd,Int.reduceSub,Int.reduceLT,Int.reduceLE,Int.reduceEq,Int.reduceNeg,↓reduceIte,reduceCtorEq,scL,scD,expand,List.replicate,c20l0])|(refine gC_drawW ?_)|(refine gI_dec (fun _=>?_) (fun _=>?_))|(refine gG_dec (fun _=>?_) (fun _=>?_))|(refine gPG_dec (fun _=>?_) (fun _=>?_))|(refine gI_var (fun _=>?_) (fun _=>?_))|(refine gG_var (fun _=>?_) (fun _=>?_))|(refine gPG_var (fun _=>?_) (fun _=>?_)))
    all_goals try (exfalso;omega)
    exact weak_fin (snap_ints rfl) rfl (.inl (by decide)) hn rfl
   have hul:=unc_len a b k
   have hlti:(k:Int)<(a.length:Int)+b.length:=by omega
   have e2:(k:Int) / 2=((k / 2:Nat):Int):=by simp
   by_cases hp:k % 2=0
   ·have hp':(k:Int) % 2=0:=by omega
    have hk2:k / 2<a.length:=by omega
    have e1:unc a b (k+1)=unc a b k++ [a[k / 2]!]:=by
     rw[unc_step];unfold und;rw[if_pos hp]
    repeat' (first|(simp (disch:=first|omega|assumption|(refine @id ((_:Bool)=_) ?_;exact id (by with_unfolding_all rfl))|(exact Or.inl rfl)|(exact Or.inl trivial)|(exact okL_map _ (fun _=>rfl) _)|(simp only[VVlen]<;>omega)|fail) only[VV0,VV1,VV2,VV3,VV4,VV5,VV6,VV7,VV8,VV9,mkFnV,vargs,slotsL,opdsA,Nat.reduceEqDiff,Nat.reduceLT,Nat.reduceAdd,Nat.reduceBEq,Int.reduceAdd,Int.reduceSub,Int.reduceLT,Int.reduceLE,Int.reduceEq,Int.reduceNeg,↓reduceIte,reduceCtorEq,scL,scD,expand,List.replicate,c20l0,iD_dv,hp',e2,hlti])|(refine gC_drawW ?_)|(refine gI_dec (fun _=>?_) (fun _=>?_))|(refine gG_dec (fun _=>?_) (fun _=>?_))|(refine gPG_dec (fun _=>?_) (fun _=>?_))|(refine gI_var (fun _=>?_) (fun _=>?_))|(refine gG_var (fun _=>?_) (fun _=>?_))|(refine gPG_var (fun _=>?_) (fun _=>?_)))
    all_goals try (exfalso;omega)
    all_goals
     refine ⟨_,_,_,by omega,weak_to [(2,0)] 1 hn rfl rfl rfl rfl,k+1,rfl,hlt,?_,?_⟩
     ·rw[e1];simp[renF,vren,vrenL,aget_cons]
     ·rw[e1];simp[renH,aget_cons,renO,iD]
   ·have hp':(k:Int) % 2=1:=by omega
    have hk2:k / 2<b.length:=by omega
    have e1:unc a b (k+1)=unc a b k++ [b[k / 2]!]:=by
     rw[unc_step];unfold und;rw[if_neg hp]
    repeat' (first|(simp (disch:=first|omega|assumption|(refine @id ((_:Bool)=_) ?_;exact id (by with_unfolding_all rfl))|(exact Or.inl rfl)|(exact Or.inl trivial)|(exact okL_map _ (fun _=>rfl) _)|(simp only[VVlen]<;>omega)|fail) only[VV0,VV1,VV2,VV3,VV4,VV5,VV6,VV7,VV8,VV9,mkFnV,vargs,slotsL,opdsA,Nat.reduceEqDiff,Nat.reduceLT,Nat.reduceAdd,Nat.reduceBEq,Int.reduceAdd,Int.reduceSub,Int.reduceLT,Int.reduceLE,Int.reduceEq,Int.reduceNeg,↓reduceIte,reduceCtorEq,scL,scD,expand,List.replicate,c20l0,iD_dv,hp',e2,hlti])|(refine gC_drawW ?_)|(refine gI_dec (fun _=>?_) (fun _=>?_))|(refine gG_dec (fun _=>?_) (fun _=>?_))|(refine gPG_dec (fun _=>?_) (fun _=>?_))|(refine gI_var (fun _=>?_) (fun _=>?_))|(refine gG_var (fun _=>?_) (fun _=>?_))|(refine gPG_var (fun _=>?_) (fun _=>?_)))
    all_goals try (exfalso;omega)
    all_goals
     refine ⟨_,_,_,by omega,weak_to [(2,0)] 1 hn rfl rfl rfl rfl,k+1,rfl,hlt,?_,?_⟩
     ·rw[e1];simp[renF,vren,vrenL,aget_cons]
     ·rw[e1];simp[renH,aget_cons,renO,iD]
theorem sameRuns_p (s s':Nat) (R:List (Int × Int)) (hl:R.length≤140737488351232):VSpec (EN w (n+1)) 16 [.sl s R.length (runC R),.sl s' R.length (runC R)] (.sc (.bool true)) ⟨[],0,0⟩:=by
 refine vspec_flat rfl rfl (fun _ _=>rfl) (Nat.le_of_ble_eq_true rfl) (oldVals w) rfl fun C hC h0=>?_
 repeat' (first|(simp (disch:=first|omega|assumption|(refine @id ((_:Bool)=_) ?_;exact id (by with_unfolding_all rfl))|(exact Or.inl rfl)|(exact Or.inl trivial)|(exact okL_map _ (fun _=>rfl) _)|(simp only[VVlen]<;>omega)|fail) only[VV0,VV1,VV2,VV3,VV4,VV5,VV6,VV7,VV8,VV9,mkFnV,vargs,slotsL,opdsA,Nat.reduceEqDiff,Nat.reduceLT,Nat.reduceAdd,Nat.reduceBEq,Int.reduceAdd,Int.reduceSub,Int.reduceLT,Int.reduceLE,Int.reduceEq,Int.reduceNeg,↓reduceIte,reduceCtorEq,scL,scD,expand,List.replicate,c16])|(refine gC_drawW ?_)|(refine gI_dec (fun _=>?_) (fun _=>?_))|(refine gG_dec (fun _=>?_) (fun _=>?_))|(refine gPG_dec (fun _=>?_) (fun _=>?_))|(refine gI_var (fun _=>?_) (fun _=>?_))|(refine gG_var (fun _=>?_) (fun _=>?_))|(refine gPG_var (fun _=>?_) (fun _=>?_)))
 refine g_while (fun m fr st=>∃ k:Nat,m=R.length - k∧k≤R.length∧fr= [(0,.sl s R.length (runC R)),(1,.sl s' R.length (runC R)),(5,.sc (.int .i64 k))]∧st=⟨[],0,0⟩) R.length ?_ ⟨_,_,.refl _ _,0,?_⟩ ?_
 ·rw[hC,callP_rounds];unfold many;omega
 ·exact ⟨by omega,by omega,rfl,rfl⟩
 ·rintro m fr st ⟨k,rfl,hk,rfl,rfl⟩
  by_cases hlt:k<R.length
  ·repeat' (first|(simp (disch:=first|omega|assumption|(refine @id ((_:Bool)=_) ?_;exact id (by with_unfolding_all rfl))|(exact Or.inl rfl)|(exact Or.inl trivial)|(exact okL_map _ (fun _=>rfl) _)|(simp only[VVlen]<;>omega)|fail) only[VV0,VV1,VV2,VV3,VV4,VV5,VV6,VV7,VV8,VV9,mkFnV,vargs,slotsL,opdsA,Nat.reduceEqDiff,Nat.reduceLT,Nat.reduceAdd,Nat.reduceBEq,Int.reduceAdd,Int.reduceSub,Int.reduceLT,Int.reduceLE,Int.reduceEq,Int.reduceNeg,↓reduceIte,reduceCtorEq,scL,scD,expand,List.replicate,c16l0,runC_agg])|(refine gC_drawW ?_)|(refine gI_dec (fun _=>?_) (fun _=>?_))|(refine gG_dec (fun _=>?_) (fun _=>?_))|(refine gPG_dec (fun _=>?_) (fun _=>?_))|(refine gI_var (fun _=>?_) (fun _=>?_))|(refine gG_var (fun _=>?_) (fun _=>?_))|(refine gPG_var (fun _=>?_) (fun _=>?_)))
   all_goals try (exfalso;omega)
   exact ⟨_,_,_,by omega,.refl _ _,k+1,rfl,hlt,rfl,rfl⟩
  ·repeat' (first|(simp (disch:=first|omega|assumption|(refine @id ((_:Bool)=_) ?_;exact id (by with_unfolding_all rfl))|(exact Or.inl rfl)|(exact Or.inl trivial)|(exact okL_map _ (fun _=>rfl) _)|(simp only[VVlen]<;>omega)|fail) only[VV0,VV1,VV2,VV3,VV4,VV5,VV6,VV7,VV8,VV9,mkFnV,vargs,slotsL,opdsA,Nat.reduceEqDiff,Nat.reduceLT,Nat.reduceAdd,Nat.reduceBEq,Int.reduceAdd,Int.reduceSub,Int.reduceLT,Int.reduceLE,Int.reduceEq,Int.reduceNeg,↓reduceIte,reduceCtorEq,scL,scD,expand,List.replicate,c16l0])|(refine gC_drawW ?_)|(refine gI_dec (fun _=>?_) (fun _=>?_))|(refine gG_dec (fun _=>?_) (fun _=>?_))|(refine gPG_dec (fun _=>?_) (fun _=>?_))|(refine gI_var (fun _=>?_) (fun _=>?_))|(refine gG_var (fun _=>?_) (fun _=>?_))|(refine gPG_var (fun _=>?_) (fun _=>?_)))
   all_goals try (exfalso;omega)
   exact weak_flat rfl h0 rfl
theorem same_p (s s':Nat) (a:List Int) (ha:a.length≤140737488351232):VSpec (EN w (n+1)) 21 [.sl s a.length (a.map iD),.sl s' a.length (a.map iD)] (.sc (.bool true)) ⟨[],0,0⟩:=by
 refine vspec_flat rfl rfl (fun _ _=>rfl) (Nat.le_of_ble_eq_true rfl) (oldVals w) rfl fun C hC h0=>?_
 repeat' (first|(simp (disch:=first|omega|assumption|(refine @id ((_:Bool)=_) ?_;exact id (by with_unfolding_all rfl))|(exact Or.inl rfl)|(exact Or.inl trivial)|(exact okL_map _ (fun _=>rfl) _)|(simp only[VVlen]<;>omega)|fail) only[VV0,VV1,VV2,VV3,VV4,VV5,VV6,VV7,VV8,VV9,mkFnV,vargs,slotsL,opdsA,Nat.reduceEqDiff,Nat.reduceLT,Nat.reduceAdd,Nat.reduceBEq,Int.reduceAdd,Int.reduceSub,Int.reduceLT,Int.reduceLE,Int.reduceEq,Int.reduceNeg,↓reduceIte,reduceCtorEq,scL,scD,expand,List.replicate,c21])|(refine gC_drawW ?_)|(refine gI_dec (fun _=>?_) (fun _=>?_))|(refine gG_dec (fun _=>?_) (fun _=>?_))|(refine gPG_dec (fun _=>?_) (fun _=>?_))|(refine gI_var (fun _=>?_) (fun _=>?_))|(refine gG_var (fun _=>?_) (fun _=>?_))|(refine gPG_var (fun _=>?_) (fun _=>?_)))
 refine g_while (fun m fr st=>∃ k:Nat,m=a.length - k∧k≤a.length∧fr= [(0,.sl s a.length (a.map iD)),(1,.sl s' a.length (a.map iD)),(5,.sc (.int .i64 k))]∧st=⟨[],0,0⟩) a.length ?_ ⟨_,_,.refl _ _,0,?_⟩ ?_
 ·rw[hC,callP_rounds];unfold many;omega
 ·exact ⟨by omega,by omega,rfl,rfl⟩
 ·rintro m fr st ⟨k,rfl,hk,rfl,rfl⟩
  by_cases hlt:k<a.length
  ·repeat' (first|(simp (disch:=first|omega|assumption|(refine @id ((_:Bool)=_) ?_;exact id (by with_unfolding_all rfl))|(exact Or.inl rfl)|(exact Or.inl trivial)|(exact okL_map _ (fun _=>rfl) _)|(simp only[VVlen]<;>omega)|fail) only[VV0,VV1,VV2,VV3,VV4,VV5,VV6,VV7,VV8,VV9,mkFnV,vargs,slotsL,opdsA,Nat.reduceEqDiff,Nat.reduceLT,Nat.reduceAdd,Nat.reduceBEq,Int.reduceAdd,Int.reduceSub,Int.reduceLT,Int.reduceLE,Int.reduceEq,Int.reduceNeg,↓reduceIte,reduceCtorEq,scL,scD,expand,List.replicate,c21l0,iD_dv])|(refine gC_drawW ?_)|(refine gI_dec (fun _=>?_) (fun _=>?_))|(refine gG_dec (fun _=>?_) (fun _=>?_))|(refine gPG_dec (fun _=>?_) (fun _=>?_))|(refine gI_var (fun _=>?_) (fun _=>?_))|(refine gG_var (fun _=>?_) (fun _=>?_))|(refine gPG_var (fun _=>?_) (fun _=>?_)))
   all_goals try (exfalso;omega)
   exact ⟨_,_,_,by omega,.refl _ _,k+1,rfl,hlt,rfl,rfl⟩
  ·repeat' (first|(simp (disch:=first|omega|assumption|(refine @id ((_:Bool)=_) ?_;exact id (by with_unfolding_all rfl))|(exact Or.inl rfl)|(exact Or.inl trivial)|(exact okL_map _ (fun _=>rfl) _)|(simp only[VVlen]<;>omega)|fail) only[VV0,VV1,VV2,VV3,VV4,VV5,VV6,VV7,VV8,VV9,mkFnV,vargs,slotsL,opdsA,Nat.reduceEqDiff,Nat.reduceLT,Nat.reduceAdd,Nat.reduceBEq,Int.reduceAdd,Int.reduceSub,Int.reduceLT,Int.reduceLE,Int.reduceEq,Int.reduceNeg,↓reduceIte,reduceCtorEq,scL,scD,expand,List.replicate,c21l0])|(refine gC_drawW ?_)|(refine gI_dec (fun _=>?_) (fun _=>?_))|(refine gG_dec (fun _=>?_) (fun _=>?_))|(refine gPG_dec (fun _=>?_) (fun _=>?_))|(refine gI_var (fun _=>?_) (fun _=>?_))|(refine gG_var (fun _=>?_) (fun _=>?_))|(refine gPG_var (fun _=>?_) (fun _=>?_)))
   all_goals try (exfalso;omega)
   exact weak_flat rfl h0 rfl
end
end Go.Proofs.YtgglaaldlegckaaDoor
namespace Go.Proofs.YtgglaaldlegckaaDoor
open Go Go.Itp
set_option maxRecDepth 100000
set_option maxHeartbeats 1000000
set_option linter.unusedSimpArgs false
section
variable (w:World) (n:Nat)
def selfP (b:Nat) (p:V):Prop:=p= .sc (.pointer none)∨p= .ptr b 0
theorem copyCheck_w {C:Ctx} {st:VSt} {Q:V→VSt→Prop} (hC:C.E=EN w (n+2)) (b e:Nat) (p g:V) (hb:aget st.own b=some (.box 66 e [p,g])) (hp:selfP b p) (hro:st.ro≤b)
  (hq:Q (.tup []) ⟨aset st.own b (.box 66 e [.ptr b 0,g]),st.next,st.ro⟩):CallV C 53 [.ptr b 0] st Q:=by
 refine callV_w hC rfl rfl (fun _ _=>rfl) (Nat.le_of_ble_eq_true rfl) hq fun C' hC' hn=>?_
 obtain ⟨H,nx,ro⟩:=st
 have h2:(2:Nat)≤ [p,g].length:=Nat.le_refl _
 rcases hp with rfl|rfl
 ·repeat' (first|(simp (disch:=first|omega|assumption|(refine @id ((_:Bool)=_) ?_;exact id (by with_unfolding_all rfl))|(exact Or.inl rfl)|(exact Or.inl trivial)|(exact okL_map _ (fun _=>rfl) _)|(simp only[VVlen]<;>omega)|fail) only[VV0,VV1,VV2,VV3,VV4,VV5,VV6,VV7,VV8,VV9,mkFnV,vargs,slotsL,opdsA,Nat.reduceEqDiff,Nat.reduceLT,Nat.reduceAdd,Nat.reduceBEq,Int.reduceAdd,Int.reduceSub,Int.reduceLT,Int.reduceLE,Int.reduceEq,Int.reduceNeg,↓reduceIte,reduceCtorEq,scL,scD,expand,List.replicate,c53,hb,eqNilP_ptr,eqNilP_nil])|(refine gC_drawW ?_)|(refine gI_dec (fun _=>?_) (fun _=>?_))|(refine gG_dec (fun _=>?_) (fun _=>?_))|(refine gPG_dec (fun _=>?_) (fun _=>?_))|(refine gI_var (fun _=>?_) (fun _=>?_))|(refine gG_var (fun _=>?_) (fun _=>?_))|(refine gPG_var (fun _=>?_) (fun _=>?_)))
  refine callV_same hC' (fun x s=>?_) ?_
  ·show PR w _ [x] s=some (x,[])
   rfl
  repeat' (first|(simp (disch:=first|omega|assumption|(refine @id ((_:Bool)=_) ?_;exact id (by with_unfolding_all rfl))|(exact Or.inl rfl)|(exact Or.inl trivial)|(exact okL_map _ (fun _=>rfl) _)|(simp only[VVlen]<;>omega)|fail) only[VV0,VV1,VV2,VV3,VV4,VV5,VV6,VV7,VV8,VV9,mkFnV,vargs,slotsL,opdsA,Nat.reduceEqDiff,Nat.reduceLT,Nat.reduceAdd,Nat.reduceBEq,Int.reduceAdd,Int.reduceSub,Int.reduceLT,Int.reduceLE,Int.reduceEq,Int.reduceNeg,↓reduceIte,reduceCtorEq,scL,scD,expand,List.replicate,hb,eqNilP_ptr])|(refine gC_drawW ?_)|(refine gI_dec (fun _=>?_) (fun _=>?_))|(refine gG_dec (fun _=>?_) (fun _=>?_))|(refine gPG_dec (fun _=>?_) (fun _=>?_))|(refine gI_var (fun _=>?_) (fun _=>?_))|(refine gG_var (fun _=>?_) (fun _=>?_))|(refine gPG_var (fun _=>?_) (fun _=>?_)))
  exact .refl _ _
 ·have hs:aset H b (.box 66 e [.ptr b 0,g])=H:=aset_self _ _ _ hb
  repeat' (first|(simp (disch:=first|omega|assumption|(refine @id ((_:Bool)=_) ?_;exact id (by with_unfolding_all rfl))|(exact Or.inl rfl)|(exact Or.inl trivial)|(exact okL_map _ (fun _=>rfl) _)|(simp only[VVlen]<;>omega)|fail) only[VV0,VV1,VV2,VV3,VV4,VV5,VV6,VV7,VV8,VV9,mkFnV,vargs,slotsL,opdsA,Nat.reduceEqDiff,Nat.reduceLT,Nat.reduceAdd,Nat.reduceBEq,Int.reduceAdd,Int.reduceSub,Int.reduceLT,Int.reduceLE,Int.reduceEq,Int.reduceNeg,↓reduceIte,reduceCtorEq,scL,scD,expand,List.replicate,c53,hb,eqPtrV_same,eqNilP_ptr,eqNilP_nil])|(refine gC_drawW ?_)|(refine gI_dec (fun _=>?_) (fun _=>?_))|(refine gG_dec (fun _=>?_) (fun _=>?_))|(refine gPG_dec (fun _=>?_) (fun _=>?_))|(refine gI_var (fun _=>?_) (fun _=>?_))|(refine gG_var (fun _=>?_) (fun _=>?_))|(refine gPG_var (fun _=>?_) (fun _=>?_)))
  rw[hs]
  exact .refl _ _
theorem writeString_w {C:Ctx} {st:VSt} {Q:V→VSt→Prop} (hC:C.E=EN w (n+3)) (b r:Nat) (p:V) (acc s:ByteArray) (hb:aget st.own b=some (.box 66 1 [p,.gr 2 r acc.size])) (hr:aget st.own r=some (.gro 5 1 false (strD acc))) (hp:selfP b p) (hro:st.ro≤b) (hro2:st.ro≤r) (hrb:r ≠ b) (hlt:b ≠ st.next)
  (hsz:acc.size+s.size≤1099511627776) (hq:Q (.tup [.sc (.int .i64 s.size),.sc .nilIface]) ⟨(st.next,.gro 5 1 false (strD (acc++s)))::aset (adel r st.own) b (.box 66 1 [.ptr b 0,.gr 2 st.next (acc.size+s.size)]),st.next+1,st.ro⟩):
  CallV C 34 [.ptr b 0,.sc (.string s)] st Q:=by
 refine callV_w hC rfl rfl (fun _ _=>rfl) (Nat.le_of_ble_eq_true rfl) hq fun C' hC' hn=>?_
 obtain ⟨H,nx,ro⟩:=st
 have h1:=strD_len acc
 have h2:=strD_ok s
 have a1:aget (aset H b (.box 66 1 [.ptr b 0,.gr 2 r acc.size])) b=some (.box 66 1 [.ptr b 0,.gr 2 r acc.size]):=aget_aset_eq hb
 have a2:aget (aset H b (.box 66 1 [.ptr b 0,.gr 2 r acc.size])) r=some (.gro 5 1 false (strD acc)):=by rw[aget_aset _ _ _ _ _ hb,if_neg hrb];exact hr
 have hbr:¬ b=r:=fun e=>hrb e.symm
 have a3:aget (adel r (aset H b (.box 66 1 [.ptr b 0,.gr 2 r acc.size]))) b=some (.box 66 1 [.ptr b 0,.gr 2 r acc.size]):=by rw[aget_adel,if_neg hbr];exact a1
 repeat' (first|(simp (disch:=first|omega|assumption|(refine @id ((_:Bool)=_) ?_;exact id (by with_unfolding_all rfl))|(exact Or.inl rfl)|(exact Or.inl trivial)|(exact okL_map _ (fun _=>rfl) _)|(simp only[VVlen]<;>omega)|fail) only[VV0,VV1,VV2,VV3,VV4,VV5,VV6,VV7,VV8,VV9,mkFnV,vargs,slotsL,opdsA,Nat.reduceEqDiff,Nat.reduceLT,Nat.reduceAdd,Nat.reduceBEq,Int.reduceAdd,Int.reduceSub,Int.reduceLT,Int.reduceLE,Int.reduceEq,Int.reduceNeg,↓reduceIte,reduceCtorEq,scL,scD,expand,List.replicate,c34])|(refine gC_drawW ?_)|(refine gI_dec (fun _=>?_) (fun _=>?_))|(refine gG_dec (fun _=>?_) (fun _=>?_))|(refine gPG_dec (fun _=>?_) (fun _=>?_))|(refine gI_var (fun _=>?_) (fun _=>?_))|(refine gG_var (fun _=>?_) (fun _=>?_))|(refine gPG_var (fun _=>?_) (fun _=>?_)))
 refine copyCheck_w w n hC' b 1 p _ hb hp hro ?_
 repeat' (first|(simp (disch:=first|omega|assumption|(refine @id ((_:Bool)=_) ?_;exact id (by with_unfolding_all rfl))|(exact Or.inl rfl)|(exact Or.inl trivial)|(exact okL_map _ (fun _=>rfl) _)|(simp only[VVlen]<;>omega)|fail) only[VV0,VV1,VV2,VV3,VV4,VV5,VV6,VV7,VV8,VV9,mkFnV,vargs,slotsL,opdsA,Nat.reduceEqDiff,Nat.reduceLT,Nat.reduceAdd,Nat.reduceBEq,Int.reduceAdd,Int.reduceSub,Int.reduceLT,Int.reduceLE,Int.reduceEq,Int.reduceNeg,↓reduceIte,reduceCtorEq,scL,scD,expand,List.replicate,a1,a2,a3,srcOf_str,strD_eq,hbr,hlt,strD_append,frozA_none])|(refine gC_drawW ?_)|(refine gI_dec (fun _=>?_) (fun _=>?_))|(refine gG_dec (fun _=>?_) (fun _=>?_))|(refine gPG_dec (fun _=>?_) (fun _=>?_))|(refine gI_var (fun _=>?_) (fun _=>?_))|(refine gG_var (fun _=>?_) (fun _=>?_))|(refine gPG_var (fun _=>?_) (fun _=>?_)))
 rw[adel_aset _ _ _ _ hrb,aset_aset]
 exact .refl _ _
theorem string_w {C:Ctx} {st:VSt} {Q:V→VSt→Prop} (hC:C.E=EN w (n+1)) (b r:Nat) (p:V) (acc:ByteArray) (hb:aget st.own b=some (.box 66 1 [p,.gr 2 r acc.size])) (hr:aget st.own r=some (.gro 5 1 false (strD acc))) (hro:st.ro≤b) (hro2:st.ro≤r)
  (hsz:acc.size≤1099511627776) (hq:∀ st',st'.ro=st.ro→Q (.sc (.string acc)) st'):CallV C 37 [.ptr b 0] st Q:=by
 obtain ⟨H,nx,ro⟩:=st
 by_cases h0:acc.size=0
 ·rw[h0] at hb
  have hs:acc=ByteArray.empty:=by
   apply ByteArray.ext;apply Array.ext'
   rw[List.eq_nil_of_length_eq_zero (show acc.data.toList.length=0 by simpa using h0)]
   rfl
  refine callV_wW (st':=⟨aset H b (.box 66 1 [p,.sc (.slice none 0 0)]),nx,ro⟩) hC rfl rfl (fun _ _=>rfl) (Nat.le_of_ble_eq_true rfl) (hq ⟨aset H b (.box 66 1 [p,.sc (.slice none 0 0)]),nx,ro⟩ rfl) (fun C' hn=>?_) fun C' hC' hn=>?_
  ·exact weak_cell (C:=C') (st:=⟨H,nx,ro⟩) (k:=1) hb rfl same_gr0
  have a1:aget (aset H b (.box 66 1 [p,.sc (.slice none 0 0)])) b=some (.box 66 1 [p,.sc (.slice none 0 0)]):=aget_aset_eq hb
  rw[hs]
  repeat' (first|(simp (disch:=first|omega|assumption|(refine @id ((_:Bool)=_) ?_;exact id (by with_unfolding_all rfl))|(exact Or.inl rfl)|(exact Or.inl trivial)|(exact okL_map _ (fun _=>rfl) _)|(simp only[VVlen]<;>omega)|fail) only[VV0,VV1,VV2,VV3,VV4,VV5,VV6,VV7,VV8,VV9,mkFnV,vargs,slotsL,opdsA,Nat.reduceEqDiff,Nat.reduceLT,Nat.reduceAdd,Nat.reduceBEq,Int.reduceAdd,Int.reduceSub,Int.reduceLT,Int.reduceLE,Int.reduceEq,Int.reduceNeg,↓reduceIte,reduceCtorEq,scL,scD,expand,List.replicate,c37,a1,vustr_nil])|(refine gC_drawW ?_)|(refine gI_dec (fun _=>?_) (fun _=>?_))|(refine gG_dec (fun _=>?_) (fun _=>?_))|(refine gPG_dec (fun _=>?_) (fun _=>?_))|(refine gI_var (fun _=>?_) (fun _=>?_))|(refine gG_var (fun _=>?_) (fun _=>?_))|(refine gPG_var (fun _=>?_) (fun _=>?_)))
  exact .refl _ _
 ·refine callV_w hC rfl rfl (fun _ _=>rfl) (Nat.le_of_ble_eq_true rfl) (hq ⟨adel r H,nx,ro⟩ rfl) fun C' hC' hn=>?_
  have hv:=vustr_gro ⟨H,nx,ro⟩ 5 1 r acc hr hro2 (by omega) hsz
  repeat' (first|(simp (disch:=first|omega|assumption|(refine @id ((_:Bool)=_) ?_;exact id (by with_unfolding_all rfl))|(exact Or.inl rfl)|(exact Or.inl trivial)|(exact okL_map _ (fun _=>rfl) _)|(simp only[VVlen]<;>omega)|fail) only[VV0,VV1,VV2,VV3,VV4,VV5,VV6,VV7,VV8,VV9,mkFnV,vargs,slotsL,opdsA,Nat.reduceEqDiff,Nat.reduceLT,Nat.reduceAdd,Nat.reduceBEq,Int.reduceAdd,Int.reduceSub,Int.reduceLT,Int.reduceLE,Int.reduceEq,Int.reduceNeg,↓reduceIte,reduceCtorEq,scL,scD,expand,List.replicate,c37,hb,h0,hv])|(refine gC_drawW ?_)|(refine gI_dec (fun _=>?_) (fun _=>?_))|(refine gG_dec (fun _=>?_) (fun _=>?_))|(refine gPG_dec (fun _=>?_) (fun _=>?_))|(refine gI_var (fun _=>?_) (fun _=>?_))|(refine gG_var (fun _=>?_) (fun _=>?_))|(refine gPG_var (fun _=>?_) (fun _=>?_)))
  exact .refl _ _
end
end Go.Proofs.YtgglaaldlegckaaDoor
namespace Go.Proofs.YtgglaaldlegckaaDoor
open Go Go.Itp
set_option maxRecDepth 100000
set_option maxHeartbeats 1000000
set_option linter.unusedSimpArgs false
abbrev strV (l:List UInt8):V:= .sc (.string ⟨l.toArray⟩)
section
variable (w:World) (n:Nat)
theorem decimal_p (x:Nat) (hx:x≤1000000000000):VSpec (EN w (n+1)) 38 [.sc (.int .i64 x)] (strV (Lib.decDigits x)) ⟨[],0,0⟩:=by
 refine vspec_flat rfl rfl (fun _ _=>rfl) (Nat.le_of_ble_eq_true rfl) (oldVals w) rfl fun C hC h0=>?_
 repeat' (first|(simp (disch:=first|omega|assumption|(refine @id ((_:Bool)=_) ?_;exact id (by with_unfolding_all rfl))|(exact Or.inl rfl)|(exact Or.inl trivial)|(exact okL_map _ (fun _=>rfl) _)|(simp only[VVlen]<;>omega)|fail) only[VV0,VV1,VV2,VV3,VV4,VV5,VV6,VV7,VV8,VV9,mkFnV,vargs,slotsL,opdsA,Nat.reduceEqDiff,Nat.reduceLT,Nat.reduceAdd,Nat.reduceBEq,Int.reduceAdd,Int.reduceSub,Int.reduceLT,Int.reduceLE,Int.reduceEq,Int.reduceNeg,↓reduceIte,reduceCtorEq,scL,scD,expand,List.replicate,c38])|(refine gC_drawW ?_)|(refine gI_dec (fun _=>?_) (fun _=>?_))|(refine gG_dec (fun _=>?_) (fun _=>?_))|(refine gPG_dec (fun _=>?_) (fun _=>?_))|(refine gI_var (fun _=>?_) (fun _=>?_))|(refine gG_var (fun _=>?_) (fun _=>?_))|(refine gPG_var (fun _=>?_) (fun _=>?_)))
 refine g_while (fun m fr st=>∃ (k:Nat) (s:List UInt8),m=k∧k≤x∧Lib.decDigits x=Lib.decDigits k++s∧s.length+k≤x∧fr= [(0,.sc (.int .i64 k)),(3,strV s)]∧st=⟨[],0,0⟩) x ?_ ⟨_,_,.refl _ _,x,[],?_⟩ ?_
 ·rw[hC,callP_rounds];unfold many;omega
 ·exact ⟨rfl,Nat.le_refl _,by simp,by simp,rfl,rfl⟩
 ·rintro k fr st ⟨_,s,rfl,hk,hd,hsl,rfl,rfl⟩
  have hs1:∀ c:UInt8,(ByteArray.mk [c].toArray).size+(ByteArray.mk s.toArray).size<9223372036854775807:=fun c=>by
   show 1+s.toArray.size<_
   simp;omega
  by_cases hlt:9<k
  ·have hd':=dec_step hd hlt
   have e1:(k:Int) % 10=((k % 10:Nat):Int):=by omega
   have e2:(k:Int) / 10=((k / 10:Nat):Int):=by omega
   have e4:(48:Int)+((k % 10:Nat):Int)=((48+k % 10:Nat):Int):=by omega
   have e3:=wrap_byte (48+k % 10) (by omega)
   have e5:=b2s_one (o:=0) (t:=5) (g:=false) (z:=false) (H:= [(0,.row 5 1 false false [.sc (.int .u8 ((48+k % 10:Nat):Int))])]) (48+k % 10) (by omega) rfl 1
   repeat' (first|(simp (disch:=first|omega|assumption|(refine @id ((_:Bool)=_) ?_;exact id (by with_unfolding_all rfl))|(exact Or.inl rfl)|(exact Or.inl trivial)|(exact okL_map _ (fun _=>rfl) _)|(simp only[VVlen]<;>omega)|fail) only[VV0,VV1,VV2,VV3,VV4,VV5,VV6,VV7,VV8,VV9,mkFnV,vargs,slotsL,opdsA,Nat.reduceEqDiff,Nat.reduceLT,Nat.reduceAdd,Nat.reduceBEq,Int.reduceAdd,Int.reduceSub,Int.reduceLT,Int.reduceLE,Int.reduceEq,Int.reduceNeg,↓reduceIte,reduceCtorEq,scL,scD,expand,List.replicate,c38l0,e1,e2,e4,e3,e5,b_sadd _ _ (hs1 (UInt8.ofNat (48+k % 10))),bytes_cat])|(refine gC_drawW ?_)|(refine gI_dec (fun _=>?_) (fun _=>?_))|(refine gG_dec (fun _=>?_) (fun _=>?_))|(refine gPG_dec (fun _=>?_) (fun _=>?_))|(refine gI_var (fun _=>?_) (fun _=>?_))|(refine gG_var (fun _=>?_) (fun _=>?_))|(refine gPG_var (fun _=>?_) (fun _=>?_)))
   refine ⟨_,_,_,?_,weak_to [] 0 h0 rfl rfl rfl rfl,k / 10,UInt8.ofNat (48+k % 10)::s,rfl,by omega,hd',by simp;omega,?_,?_⟩
   ·omega
   ·simp[renF,vren]
   ·simp[renH]
  ·have e4:(48:Int)+(k:Int)=((48+k:Nat):Int):=by omega
   have e3:=wrap_byte (48+k) (by omega)
   have e5:=b2s_one (o:=0) (t:=5) (g:=false) (z:=false) (H:= [(0,.row 5 1 false false [.sc (.int .u8 ((48+k:Nat):Int))])]) (48+k) (by omega) rfl 1
   have hd':Lib.decDigits x= [UInt8.ofNat (48+k)]++s:=by rw[hd,Lib.decDigits,dif_pos (by omega)]
   rw[hd']
   repeat' (first|(simp (disch:=first|omega|assumption|(refine @id ((_:Bool)=_) ?_;exact id (by with_unfolding_all rfl))|(exact Or.inl rfl)|(exact Or.inl trivial)|(exact okL_map _ (fun _=>rfl) _)|(simp only[VVlen]<;>omega)|fail) only[VV0,VV1,VV2,VV3,VV4,VV5,VV6,VV7,VV8,VV9,mkFnV,vargs,slotsL,opdsA,Nat.reduceEqDiff,Nat.reduceLT,Nat.reduceAdd,Nat.reduceBEq,Int.reduceAdd,Int.reduceSub,Int.reduceLT,Int.reduceLE,Int.reduceEq,Int.reduceNeg,↓reduceIte,reduceCtorEq,scL,scD,expand,List.replicate,c38l0,e4,e3,e5,b_sadd _ _ (hs1 (UInt8.ofNat (48+k))),bytes_cat])|(refine gC_drawW ?_)|(refine gI_dec (fun _=>?_) (fun _=>?_))|(refine gG_dec (fun _=>?_) (fun _=>?_))|(refine gPG_dec (fun _=>?_) (fun _=>?_))|(refine gI_var (fun _=>?_) (fun _=>?_))|(refine gG_var (fun _=>?_) (fun _=>?_))|(refine gPG_var (fun _=>?_) (fun _=>?_)))
   exact weak_flat rfl h0 rfl
end
end Go.Proofs.YtgglaaldlegckaaDoor
namespace Go.Proofs.YtgglaaldlegckaaDoor
open Go Go.Itp
set_option maxRecDepth 100000
set_option maxHeartbeats 1000000
set_option linter.unusedSimpArgs false
def txt1 (p:Int × Int):List UInt8:=Lib.itoa p.1++(120::Lib.itoa p.2)
def txt (R:List (Int × Int)):List UInt8:=R.foldl (fun acc p=>(if acc= [] then [] else acc++ [32])++txt1 p) []
theorem txt_snoc (R:List (Int × Int)) (p:Int × Int):txt (R++ [p])=(if txt R= [] then [] else txt R++ [32])++txt1 p:=by
 unfold txt
 rw[List.foldl_append]
 rfl
theorem txt1_ne (p:Int × Int):txt1 p ≠ []:=by simp[txt1]
theorem txt_nil_iff (R:List (Int × Int)):txt R= []↔R= []:=by
 constructor
 ·intro h
  by_cases hR:R= []
  ·exact hR
  ·obtain ⟨Q,p,rfl⟩:∃ Q p,R=Q++ [p]:=⟨R.dropLast,R.getLast hR,(List.dropLast_concat_getLast hR).symm⟩
   rw[txt_snoc] at h
   exact absurd (List.append_eq_nil_iff.1 h).2 (txt1_ne p)
 ·rintro rfl;rfl
theorem chk_facts {l:List Int} (h:chk l=0):l.length≤4000∧∀ k,k<l.length→0≤l[k]! ∧l[k]! ≤15:=by
 unfold chk at h
 split at h
 ·cases h
 ·rename_i h4
  split at h
  ·rename_i ha
   refine ⟨by omega,fun k hk=>?_⟩
   have:=List.all_eq_true.1 ha l[k]! (by rw[getElem!_pos l k hk];exact List.getElem_mem hk)
   simpa [col] using this
  ·cases h
theorem runsP_col (l:List Int):∀ k,∀ p ∈ runsP l k,∃ j,j<k∧p.2=l[j]!
 |0,p,h=>by simp[runsP] at h
 |k+1,p,h=>by
  have ih:=runsP_col l k
  rw[runsP] at h
  split at h
  ·rename_i hc
   obtain ⟨Q,q,h1,h2⟩:=incLast_ne (runsP_ne l hc.1)
   rw[h2] at h
   rw[h1] at ih
   rcases List.mem_append.1 h with h|h
   ·obtain ⟨j,a,b⟩:=ih p (List.mem_append.2 (.inl h));exact ⟨j,by omega,b⟩
   ·simp at h;subst h
    obtain ⟨j,a,b⟩:=ih q (by simp);exact ⟨j,by omega,b⟩
  ·rcases List.mem_append.1 h with h|h
   ·obtain ⟨j,a,b⟩:=ih p h;exact ⟨j,by omega,b⟩
   ·obtain rfl:=List.mem_singleton.1 h;exact ⟨k,by omega,rfl⟩
theorem txt_len:∀ (R:List (Int × Int)),(∀ p ∈ R,(0≤p.1∧p.1≤5000)∧0≤p.2∧p.2≤5000)→(txt R).length≤50*R.length:=by
 intro R
 induction h:R.length generalizing R with
 |zero=>intro _;rw[List.eq_nil_of_length_eq_zero h];exact Nat.le_refl _
 |succ m ih=>
  intro hR
  have hne:R ≠ []:=by rintro rfl;simp at h
  obtain ⟨Q,p,rfl⟩:∃ Q p,R=Q++ [p]:=⟨R.dropLast,R.getLast hne,(List.dropLast_concat_getLast hne).symm⟩
  have:=ih Q (by simpa using h) fun q hq=>hR q (List.mem_append.2 (.inl hq))
  obtain ⟨⟨a1,a2⟩,a3,a4⟩:=hR p (by simp)
  have k1:=Lib.itoa_length_le p.1 (by omega) (by omega)
  have k2:=Lib.itoa_length_le p.2 (by omega) (by omega)
  rw[txt_snoc]
  split
  ·simp[txt1];omega
  ·simp[txt1];omega
def textF (l:List Int):List UInt8 × Int:=if chk l=0 then (txt (runsP l l.length),0) else ([],chk l)
section
variable (w:World) (n:Nat)
theorem len_o (st:VSt) (b r:Nat) (p:V) (acc:ByteArray) (hb:aget st.own b=some (.box 66 1 [p,.gr 2 r acc.size])):VSpecO (EN w (n+1)) 35 st [.ptr b 0] (.sc (.int .i64 acc.size)):=by
 obtain ⟨H,nx,ro⟩:=st
 refine vspecO_g rfl rfl (fun _ _=>rfl) (Nat.le_of_ble_eq_true rfl) rfl fun C hC hn=>⟨⟨H,nx,nx⟩,?_⟩
 repeat' (first|(simp (disch:=first|omega|assumption|(refine @id ((_:Bool)=_) ?_;exact id (by with_unfolding_all rfl))|(exact Or.inl rfl)|(exact Or.inl trivial)|(exact okL_map _ (fun _=>rfl) _)|(simp only[VVlen]<;>omega)|fail) only[VV0,VV1,VV2,VV3,VV4,VV5,VV6,VV7,VV8,VV9,mkFnV,vargs,slotsL,opdsA,Nat.reduceEqDiff,Nat.reduceLT,Nat.reduceAdd,Nat.reduceBEq,Int.reduceAdd,Int.reduceSub,Int.reduceLT,Int.reduceLE,Int.reduceEq,Int.reduceNeg,↓reduceIte,reduceCtorEq,scL,scD,expand,List.replicate,c35,hb])|(refine gC_drawW ?_)|(refine gI_dec (fun _=>?_) (fun _=>?_))|(refine gG_dec (fun _=>?_) (fun _=>?_))|(refine gPG_dec (fun _=>?_) (fun _=>?_))|(refine gI_var (fun _=>?_) (fun _=>?_))|(refine gG_var (fun _=>?_) (fun _=>?_))|(refine gPG_var (fun _=>?_) (fun _=>?_)))
 exact .refl _ _
theorem text_p (s:Nat) (hs:s ≠ 1) (l:List Int) (hl:l.length≤140737488351232):VSpec (EN w (n+7)) 12 [.sl s l.length (l.map iD)] (.tup [strV (textF l).1,.sc (.int .i64 (textF l).2)]) ⟨[],0,0⟩:=by
 refine vspec_flat rfl rfl (fun _ _=>rfl) (Nat.le_of_ble_eq_true rfl) (oldVals w) rfl fun C hC hn=>?_
 repeat' (first|(simp (disch:=first|omega|assumption|(refine @id ((_:Bool)=_) ?_;exact id (by with_unfolding_all rfl))|(exact Or.inl rfl)|(exact Or.inl trivial)|(exact okL_map _ (fun _=>rfl) _)|(simp only[VVlen]<;>omega)|fail) only[VV0,VV1,VV2,VV3,VV4,VV5,VV6,VV7,VV8,VV9,mkFnV,vargs,slotsL,opdsA,Nat.reduceEqDiff,Nat.reduceLT,Nat.reduceAdd,Nat.reduceBEq,Int.reduceAdd,Int.reduceSub,Int.reduceLT,Int.reduceLE,Int.reduceEq,Int.reduceNeg,↓reduceIte,reduceCtorEq,scL,scD,expand,List.replicate,c12])|(refine gC_drawW ?_)|(refine gI_dec (fun _=>?_) (fun _=>?_))|(refine gG_dec (fun _=>?_) (fun _=>?_))|(refine gPG_dec (fun _=>?_) (fun _=>?_))|(refine gI_var (fun _=>?_) (fun _=>?_))|(refine gG_var (fun _=>?_) (fun _=>?_))|(refine gPG_var (fun _=>?_) (fun _=>?_)))
 refine callV_flat ((check_p w (n+1) s l hl).of hC rfl _ rfl) ?_
 by_cases h0:chk l=0
 case neg=>
  have e:textF l=([],chk l):=if_neg h0
  rw[e]
  repeat' (first|(simp (disch:=first|omega|assumption|(refine @id ((_:Bool)=_) ?_;exact id (by with_unfolding_all rfl))|(exact Or.inl rfl)|(exact Or.inl trivial)|(exact okL_map _ (fun _=>rfl) _)|(simp only[VVlen]<;>omega)|fail) only[VV0,VV1,VV2,VV3,VV4,VV5,VV6,VV7,VV8,VV9,mkFnV,vargs,slotsL,opdsA,Nat.reduceEqDiff,Nat.reduceLT,Nat.reduceAdd,Nat.reduceBEq,Int.reduceAdd,Int.reduceSub,Int.reduceLT,Int.reduceLE,Int.reduceEq,Int.reduceNeg,↓reduceIte,reduceCtorEq,scL,scD,expand,List.replicate])|(refine gC_drawW ?_)|(refine gI_dec (fun _=>?_) (fun _=>?_))|(refine gG_dec (fun _=>?_) (fun _=>?_))|(refine gPG_dec (fun _=>?_) (fun _=>?_))|(refine gI_var (fun _=>?_) (fun _=>?_))|(refine gG_var (fun _=>?_) (fun _=>?_))|(refine gPG_var (fun _=>?_) (fun _=>?_)))
  all_goals try (exfalso;omega)
  exact weak_flat rfl hn rfl
 obtain ⟨hl4,hcol⟩:=chk_facts h0
 have e:textF l=(txt (runsP l l.length),0):=if_pos h0
 rw[e,h0]
 repeat' (first|(simp (disch:=first|omega|assumption|(refine @id ((_:Bool)=_) ?_;exact id (by with_unfolding_all rfl))|(exact Or.inl rfl)|(exact Or.inl trivial)|(exact okL_map _ (fun _=>rfl) _)|(simp only[VVlen]<;>omega)|fail) only[VV0,VV1,VV2,VV3,VV4,VV5,VV6,VV7,VV8,VV9,mkFnV,vargs,slotsL,opdsA,Nat.reduceEqDiff,Nat.reduceLT,Nat.reduceAdd,Nat.reduceBEq,Int.reduceAdd,Int.reduceSub,Int.reduceLT,Int.reduceLE,Int.reduceEq,Int.reduceNeg,↓reduceIte,reduceCtorEq,scL,scD,expand,List.replicate])|(refine gC_drawW ?_)|(refine gI_dec (fun _=>?_) (fun _=>?_))|(refine gG_dec (fun _=>?_) (fun _=>?_))|(refine gPG_dec (fun _=>?_) (fun _=>?_))|(refine gI_var (fun _=>?_) (fun _=>?_))|(refine gG_var (fun _=>?_) (fun _=>?_))|(refine gPG_var (fun _=>?_) (fun _=>?_)))
 refine callV_of (by rw[hC];exact runs0_p w (n+5) s hs l) rfl rfl rfl ?_
 repeat' (first|(simp (disch:=first|omega|assumption|(refine @id ((_:Bool)=_) ?_;exact id (by with_unfolding_all rfl))|(exact Or.inl rfl)|(exact Or.inl trivial)|(exact okL_map _ (fun _=>rfl) _)|(simp only[VVlen]<;>omega)|fail) only[VV0,VV1,VV2,VV3,VV4,VV5,VV6,VV7,VV8,VV9,mkFnV,vargs,slotsL,opdsA,Nat.reduceEqDiff,Nat.reduceLT,Nat.reduceAdd,Nat.reduceBEq,Int.reduceAdd,Int.reduceSub,Int.reduceLT,Int.reduceLE,Int.reduceEq,Int.reduceNeg,↓reduceIte,reduceCtorEq,scL,scD,expand,List.replicate,vsh,shH,shO,vshL,fzSL,fzS])|(refine gC_drawW ?_)|(refine gI_dec (fun _=>?_) (fun _=>?_))|(refine gG_dec (fun _=>?_) (fun _=>?_))|(refine gPG_dec (fun _=>?_) (fun _=>?_))|(refine gI_var (fun _=>?_) (fun _=>?_))|(refine gG_var (fun _=>?_) (fun _=>?_))|(refine gPG_var (fun _=>?_) (fun _=>?_)))
 refine g_rangeW (weak_nilCell (C:=C) (l:= [.sc (.pointer none),.sc (.slice none 0 0)]) 0 66 1 1 5 1 rfl rfl (fun h=>absurd (show (0:Nat)=3 from h) (by decide))) ?_
 refine g_range hC rfl rfl rfl (Nat.le_of_ble_eq_true rfl) rfl (Nat.zero_le _) fun C2 h2n h2r h2p h2o hT=>?_
 repeat' (first|(simp (disch:=first|omega|assumption|(refine @id ((_:Bool)=_) ?_;exact id (by with_unfolding_all rfl))|(exact Or.inl rfl)|(exact Or.inl trivial)|(exact okL_map _ (fun _=>rfl) _)|(simp only[VVlen]<;>omega)|fail) only[VV0,VV1,VV2,VV3,VV4,VV5,VV6,VV7,VV8,VV9,mkFnV,vargs,slotsL,opdsA,Nat.reduceEqDiff,Nat.reduceLT,Nat.reduceAdd,Nat.reduceBEq,Int.reduceAdd,Int.reduceSub,Int.reduceLT,Int.reduceLE,Int.reduceEq,Int.reduceNeg,↓reduceIte,reduceCtorEq,scL,scD,expand,List.replicate])|(refine gC_drawW ?_)|(refine gI_dec (fun _=>?_) (fun _=>?_))|(refine gG_dec (fun _=>?_) (fun _=>?_))|(refine gPG_dec (fun _=>?_) (fun _=>?_))|(refine gI_var (fun _=>?_) (fun _=>?_))|(refine gG_var (fun _=>?_) (fun _=>?_))|(refine gPG_var (fun _=>?_) (fun _=>?_)))
 refine runs_iter (d:=4) (o:=2) (s:=s) (l:=l) (J:=fun t st=>∃ r nx p acc,(r ≠ 0∧r ≠ 1∧r ≠ 2∧r ≠ 4∧r<nx∧4<nx)∧selfP 0 p∧acc.data.toList=txt (runsP l t)∧
  st=⟨[(4,recO 0),(r,.gro 5 1 false (strD acc)),(2,.box 22 1 [.sl s l.length (l.map iD)]),(1,.box 67 1 [.fn 34 [.ptr 0 0] []]),(0,.box 66 1 [p,.gr 2 r acc.size])],nx,0⟩) h2r (by omega) hT ?_ ?_ ?_ _ ?_
 ·rintro k st ⟨r,nx,p,acc,⟨h1,h2,h3,h4,h5,h6⟩,hp,ha,rfl⟩
  have b1:¬ 2=r:=fun h=>h3 h.symm
  exact ⟨22,by simp[aget_cons,h1,h2,h3,h4,b1]⟩
 ·rintro f t st Q2 hrun ⟨r,nx,p,acc,⟨h1,h2,h3,h4,h5,h6⟩,hp,ha,rfl⟩ hq2
  have b1:¬ (4=nx):=by omega
  have b2:¬ (r=nx):=by omega
  have b3:¬ (2=nx):=by omega
  have b4:¬ (1=nx):=by omega
  have b5:¬ (0=nx):=by omega
  have b6:¬ (4=r):=fun h=>h4 h.symm
  have b7:¬ (2=r):=fun h=>h3 h.symm
  have b8:¬ (1=r):=fun h=>h2 h.symm
  have b9:¬ (0=r):=fun h=>h1 h.symm
  refine ⟨Nat.zero_le _,rfl,h6,_,rfl,fun C4 h4c h4n=>?_⟩
  repeat' (first|(simp (disch:=first|omega|assumption|(refine @id ((_:Bool)=_) ?_;exact id (by with_unfolding_all rfl))|(exact Or.inl rfl)|(exact Or.inl trivial)|(exact okL_map _ (fun _=>rfl) _)|(simp only[VVlen]<;>omega)|fail) only[VV0,VV1,VV2,VV3,VV4,VV5,VV6,VV7,VV8,VV9,mkFnV,vargs,slotsL,opdsA,Nat.reduceEqDiff,Nat.reduceLT,Nat.reduceAdd,Nat.reduceBEq,Int.reduceAdd,Int.reduceSub,Int.reduceLT,Int.reduceLE,Int.reduceEq,Int.reduceNeg,↓reduceIte,reduceCtorEq,scL,scD,expand,List.replicate,b1,b2,b3,b4,b5,b6,b7,b8,b9,h1,h2,h3,h4])|(refine gC_drawW ?_)|(refine gI_dec (fun _=>?_) (fun _=>?_))|(refine gG_dec (fun _=>?_) (fun _=>?_))|(refine gPG_dec (fun _=>?_) (fun _=>?_))|(refine gI_var (fun _=>?_) (fun _=>?_))|(refine gG_var (fun _=>?_) (fun _=>?_))|(refine gPG_var (fun _=>?_) (fun _=>?_)))
  refine ⟨trivial,Nat.zero_le _,trivial,?_⟩
  repeat' (first|(simp (disch:=first|omega|assumption|(refine @id ((_:Bool)=_) ?_;exact id (by with_unfolding_all rfl))|(exact Or.inl rfl)|(exact Or.inl trivial)|(exact okL_map _ (fun _=>rfl) _)|(simp only[VVlen]<;>omega)|fail) only[VV0,VV1,VV2,VV3,VV4,VV5,VV6,VV7,VV8,VV9,mkFnV,vargs,slotsL,opdsA,Nat.reduceEqDiff,Nat.reduceLT,Nat.reduceAdd,Nat.reduceBEq,Int.reduceAdd,Int.reduceSub,Int.reduceLT,Int.reduceLE,Int.reduceEq,Int.reduceNeg,↓reduceIte,reduceCtorEq,scL,scD,expand,List.replicate,b1,b2,b3,b4,b5,b6,b7,b8,b9,h1,h2,h3,h4])|(refine gC_drawW ?_)|(refine gI_dec (fun _=>?_) (fun _=>?_))|(refine gG_dec (fun _=>?_) (fun _=>?_))|(refine gPG_dec (fun _=>?_) (fun _=>?_))|(refine gI_var (fun _=>?_) (fun _=>?_))|(refine gG_var (fun _=>?_) (fun _=>?_))|(refine gPG_var (fun _=>?_) (fun _=>?_)))
  refine callV_flat (by rw[h4c,hC];exact len_o w (n+5) _ 0 r p acc (by simp[aget_cons,b5,b9])) ?_
  have hle:=hrun.le
  have hlt:=hrun.lt
  have hcf:=hcol f (by omega)
  have hbn:=txt_len (runsP l f) (fun q hq=>⟨by have:=runsP_cnt l f q hq;omega,by obtain ⟨j,hj,e⟩:=runsP_col l f q hq;have:=hcol j (by omega);omega⟩)
  have hrl:=runsP_len l f
  have hasz:acc.size=(txt (runsP l f)).length:=by rw[← ha];simp
  have k1:=Lib.itoa_length_le ((t:Int) - f) (by omega) (by omega)
  have k2:=Lib.itoa_length_le l[f]! (by omega) (by omega)
  have hcat:((⟨(Lib.itoa ((t:Int) - f)).toArray⟩:ByteArray)++(⟨#[120]⟩:ByteArray))++(⟨(Lib.itoa l[f]!).toArray⟩:ByteArray)=⟨(txt1 ((t:Int) - f,l[f]!)).toArray⟩:=by
   apply ByteArray.ext
   simp[txt1]
  have q1:(⟨(Lib.itoa ((t:Int) - f)).toArray⟩:ByteArray).size=(Lib.itoa ((t:Int) - f)).length:=by simp[ByteArray.size]
  have q2:(⟨(Lib.itoa l[f]!).toArray⟩:ByteArray).size=(Lib.itoa l[f]!).length:=by simp[ByteArray.size]
  have q3:((⟨(Lib.itoa ((t:Int) - f)).toArray⟩:ByteArray)++(⟨#[120]⟩:ByteArray)).size=(Lib.itoa ((t:Int) - f)).length+1:=by rw[ByteArray.size_append,q1];rfl
  have q4:(⟨(txt1 ((t:Int) - f,l[f]!)).toArray⟩:ByteArray).size≤43:=by
   show (txt1 _).toArray.size≤43
   rw[List.size_toArray];unfold txt1;rw[List.length_append,List.length_cons];dsimp only;omega
  have q7:acc.size≤300000:=by omega
  generalize hX:txt1 ((t:Int) - f,l[f]!)=X at*
  generalize hXB:(⟨X.toArray⟩:ByteArray)=XB at*
  have q5:(⟨#[120]⟩:ByteArray).size=1:=rfl
  have q6:(⟨#[32]⟩:ByteArray).size=1:=rfl
  have e1:=b_sadd (⟨(Lib.itoa ((t:Int) - f)).toArray⟩:ByteArray) (⟨#[120]⟩:ByteArray) (by rw[q1,q5];omega)
  have e2:=b_sadd ((⟨(Lib.itoa ((t:Int) - f)).toArray⟩:ByteArray)++(⟨#[120]⟩:ByteArray)) (⟨(Lib.itoa l[f]!).toArray⟩:ByteArray) (by rw[q3,q2];omega)
  have hrr:runsP l t=runsP l f++ [((t:Int) - f,l[f]!)]:=runsP_run hrun
  have c1:¬ (r=nx+1):=by omega
  have c2:¬ (1=nx+1):=by omega
  have c3:¬ (4=nx+1):=by omega
  have c4:¬ (2=nx+1):=by omega
  have c5:¬ (0=nx+1):=by omega
  have c6:¬ (nx=r):=by omega
  have c7:¬ (nx=0):=by omega
  have c8:¬ (nx=nx+1):=by omega
  have c9:¬ (nx=1):=by omega
  have c10:¬ (nx=2):=by omega
  have c11:¬ (nx=4):=by omega
  have c12:¬ (nx=3):=by omega
  have c13:¬ (nx+1=nx):=by omega
  have c14:¬ (nx+1=4):=by omega
  have c15:¬ (nx+1=2):=by omega
  have c16:¬ (nx+1=1):=by omega
  have hnx4:C4.w0.nx=nx:=h4n
  have hcs:C4.E=EN w (n+3+3):=h4c.trans hC
  by_cases hz:acc.size=0
  ·have hte:txt (runsP l f)= []:=List.eq_nil_of_length_eq_zero (by omega)
   repeat' (first|(simp (disch:=first|omega|assumption|(refine @id ((_:Bool)=_) ?_;exact id (by with_unfolding_all rfl))|(exact Or.inl rfl)|(exact Or.inl trivial)|(exact okL_map _ (fun _=>rfl) _)|(simp only[VVlen]<;>omega)|fail) only[VV0,VV1,VV2,VV3,VV4,VV5,VV6,VV7,VV8,VV9,mkFnV,vargs,slotsL,opdsA,Nat.reduceEqDiff,Nat.reduceLT,Nat.reduceAdd,Nat.reduceBEq,Int.reduceAdd,Int.reduceSub,Int.reduceLT,Int.reduceLE,Int.reduceEq,Int.reduceNeg,↓reduceIte,reduceCtorEq,scL,scD,expand,List.replicate,b1,b2,b3,b4,b5,b6,b7,b8,b9,h1,h2,h3,h4])|(refine gC_drawW ?_)|(refine gI_dec (fun _=>?_) (fun _=>?_))|(refine gG_dec (fun _=>?_) (fun _=>?_))|(refine gPG_dec (fun _=>?_) (fun _=>?_))|(refine gI_var (fun _=>?_) (fun _=>?_))|(refine gG_var (fun _=>?_) (fun _=>?_))|(refine gPG_var (fun _=>?_) (fun _=>?_)))
   all_goals try (exfalso;omega)
   refine call0_of (by rw[hcs];exact itoa_s w (n+5) _ _ (by omega) (by omega)) ?_
   repeat' (first|(simp (disch:=first|omega|assumption|(refine @id ((_:Bool)=_) ?_;exact id (by with_unfolding_all rfl))|(exact Or.inl rfl)|(exact Or.inl trivial)|(exact okL_map _ (fun _=>rfl) _)|(simp only[VVlen]<;>omega)|fail) only[VV0,VV1,VV2,VV3,VV4,VV5,VV6,VV7,VV8,VV9,mkFnV,vargs,slotsL,opdsA,Nat.reduceEqDiff,Nat.reduceLT,Nat.reduceAdd,Nat.reduceBEq,Int.reduceAdd,Int.reduceSub,Int.reduceLT,Int.reduceLE,Int.reduceEq,Int.reduceNeg,↓reduceIte,reduceCtorEq,scL,scD,expand,List.replicate,e1,b1,b2,b3,b4,b5,b6,b7,b8,b9,h1,h2,h3,h4])|(refine gC_drawW ?_)|(refine gI_dec (fun _=>?_) (fun _=>?_))|(refine gG_dec (fun _=>?_) (fun _=>?_))|(refine gPG_dec (fun _=>?_) (fun _=>?_))|(refine gI_var (fun _=>?_) (fun _=>?_))|(refine gG_var (fun _=>?_) (fun _=>?_))|(refine gPG_var (fun _=>?_) (fun _=>?_)))
   refine call0_of (by rw[hcs];exact itoa_s w (n+5) _ _ (by omega) (by omega)) ?_
   repeat' (first|(simp (disch:=first|omega|assumption|(refine @id ((_:Bool)=_) ?_;exact id (by with_unfolding_all rfl))|(exact Or.inl rfl)|(exact Or.inl trivial)|(exact okL_map _ (fun _=>rfl) _)|(simp only[VVlen]<;>omega)|fail) only[VV0,VV1,VV2,VV3,VV4,VV5,VV6,VV7,VV8,VV9,mkFnV,vargs,slotsL,opdsA,Nat.reduceEqDiff,Nat.reduceLT,Nat.reduceAdd,Nat.reduceBEq,Int.reduceAdd,Int.reduceSub,Int.reduceLT,Int.reduceLE,Int.reduceEq,Int.reduceNeg,↓reduceIte,reduceCtorEq,scL,scD,expand,List.replicate,e2,hcat,b1,b2,b3,b4,b5,b6,b7,b8,b9,h1,h2,h3,h4])|(refine gC_drawW ?_)|(refine gI_dec (fun _=>?_) (fun _=>?_))|(refine gG_dec (fun _=>?_) (fun _=>?_))|(refine gPG_dec (fun _=>?_) (fun _=>?_))|(refine gI_var (fun _=>?_) (fun _=>?_))|(refine gG_var (fun _=>?_) (fun _=>?_))|(refine gPG_var (fun _=>?_) (fun _=>?_)))
   refine writeString_w w (n+3) hcs 0 r p acc _ (by simp[aget_cons,b5,b9]) (by simp[aget_cons,b2,h1,h2,h3,h4,Ne.symm h4,c6]) hp (Nat.zero_le _) (Nat.zero_le _) h1 c5 (by omega) ?_
   repeat' (first|(simp (disch:=first|omega|assumption|(refine @id ((_:Bool)=_) ?_;exact id (by with_unfolding_all rfl))|(exact Or.inl rfl)|(exact Or.inl trivial)|(exact okL_map _ (fun _=>rfl) _)|(simp only[VVlen]<;>omega)|fail) only[VV0,VV1,VV2,VV3,VV4,VV5,VV6,VV7,VV8,VV9,mkFnV,vargs,slotsL,opdsA,Nat.reduceEqDiff,Nat.reduceLT,Nat.reduceAdd,Nat.reduceBEq,Int.reduceAdd,Int.reduceSub,Int.reduceLT,Int.reduceLE,Int.reduceEq,Int.reduceNeg,↓reduceIte,reduceCtorEq,scL,scD,expand,List.replicate,b1,b2,b3,b4,b5,b6,b7,b8,b9,h1,h2,h3,h4,c1,c2,c3,c4,c5])|(refine gC_drawW ?_)|(refine gI_dec (fun _=>?_) (fun _=>?_))|(refine gG_dec (fun _=>?_) (fun _=>?_))|(refine gPG_dec (fun _=>?_) (fun _=>?_))|(refine gI_var (fun _=>?_) (fun _=>?_))|(refine gG_var (fun _=>?_) (fun _=>?_))|(refine gPG_var (fun _=>?_) (fun _=>?_)))
   refine ⟨Nat.zero_le _,trivial,_,weak_keep [4,nx+1,2,1,0] (by simp;omega) (by simp;omega) (by omega),?_⟩
   refine hq2 _ ⟨nx+1,nx+1+1,.ptr 0 0,acc++XB,by omega,.inr rfl,?_,?_⟩
   ·rw[hrr,txt_snoc,if_pos hte,hX,← hXB,ByteArray.data_append,Array.toList_append,ha,hte]
   ·simp[idR,renH,aget_cons,renO,recO,vrenL,vren,b1,b3,b4,b5,c2,c3,c4,c5,ByteArray.size_append,Ne.symm b3,Ne.symm b1,codeOf,c7,c12]
  ·have hte:txt (runsP l f) ≠ []:=fun h=>hz (by rw[hasz,h];rfl)
   have d1:¬ (nx+1=nx+1+1):=by omega
   have d2:¬ (1=nx+1+1):=by omega
   have d3:¬ (4=nx+1+1):=by omega
   have d4:¬ (2=nx+1+1):=by omega
   have d5:¬ (0=nx+1+1):=by omega
   have d6:¬ (nx+1=0):=by omega
   repeat' (first|(simp (disch:=first|omega|assumption|(refine @id ((_:Bool)=_) ?_;exact id (by with_unfolding_all rfl))|(exact Or.inl rfl)|(exact Or.inl trivial)|(exact okL_map _ (fun _=>rfl) _)|(simp only[VVlen]<;>omega)|fail) only[VV0,VV1,VV2,VV3,VV4,VV5,VV6,VV7,VV8,VV9,mkFnV,vargs,slotsL,opdsA,Nat.reduceEqDiff,Nat.reduceLT,Nat.reduceAdd,Nat.reduceBEq,Int.reduceAdd,Int.reduceSub,Int.reduceLT,Int.reduceLE,Int.reduceEq,Int.reduceNeg,↓reduceIte,reduceCtorEq,scL,scD,expand,List.replicate,b1,b2,b3,b4,b5,b6,b7,b8,b9,h1,h2,h3,h4])|(refine gC_drawW ?_)|(refine gI_dec (fun _=>?_) (fun _=>?_))|(refine gG_dec (fun _=>?_) (fun _=>?_))|(refine gPG_dec (fun _=>?_) (fun _=>?_))|(refine gI_var (fun _=>?_) (fun _=>?_))|(refine gG_var (fun _=>?_) (fun _=>?_))|(refine gPG_var (fun _=>?_) (fun _=>?_)))
   all_goals try (exfalso;omega)
   refine writeString_w w (n+3) hcs 0 r p acc _ (by simp[aget_cons,b5,b9]) (by simp[aget_cons,b2,h1,h2,h3,h4,Ne.symm h4,c6]) hp (Nat.zero_le _) (Nat.zero_le _) h1 c5 (by omega) ?_
   repeat' (first|(simp (disch:=first|omega|assumption|(refine @id ((_:Bool)=_) ?_;exact id (by with_unfolding_all rfl))|(exact Or.inl rfl)|(exact Or.inl trivial)|(exact okL_map _ (fun _=>rfl) _)|(simp only[VVlen]<;>omega)|fail) only[VV0,VV1,VV2,VV3,VV4,VV5,VV6,VV7,VV8,VV9,mkFnV,vargs,slotsL,opdsA,Nat.reduceEqDiff,Nat.reduceLT,Nat.reduceAdd,Nat.reduceBEq,Int.reduceAdd,Int.reduceSub,Int.reduceLT,Int.reduceLE,Int.reduceEq,Int.reduceNeg,↓reduceIte,reduceCtorEq,scL,scD,expand,List.replicate,b1,b2,b3,b4,b5,b6,b7,b8,b9,h1,h2,h3,h4,c1,c2,c3,c4,c5,c6,c7,c8,c9,c10,c11])|(refine gC_drawW ?_)|(refine gI_dec (fun _=>?_) (fun _=>?_))|(refine gG_dec (fun _=>?_) (fun _=>?_))|(refine gPG_dec (fun _=>?_) (fun _=>?_))|(refine gI_var (fun _=>?_) (fun _=>?_))|(refine gG_var (fun _=>?_) (fun _=>?_))|(refine gPG_var (fun _=>?_) (fun _=>?_)))
   refine call0_of (by rw[hcs];exact itoa_s w (n+5) _ _ (by omega) (by omega)) ?_
   repeat' (first|(simp (disch:=first|omega|assumption|(refine @id ((_:Bool)=_) ?_;exact id (by with_unfolding_all rfl))|(exact Or.inl rfl)|(exact Or.inl trivial)|(exact okL_map _ (fun _=>rfl) _)|(simp only[VVlen]<;>omega)|fail) only[VV0,VV1,VV2,VV3,VV4,VV5,VV6,VV7,VV8,VV9,mkFnV,vargs,slotsL,opdsA,Nat.reduceEqDiff,Nat.reduceLT,Nat.reduceAdd,Nat.reduceBEq,Int.reduceAdd,Int.reduceSub,Int.reduceLT,Int.reduceLE,Int.reduceEq,Int.reduceNeg,↓reduceIte,reduceCtorEq,scL,scD,expand,List.replicate,e1,b1,b2,b3,b4,b5,b6,b7,b8,b9,h1,h2,h3,h4,c1,c2,c3,c4,c5,c6,c7,c8,c9,c10,c11])|(refine gC_drawW ?_)|(refine gI_dec (fun _=>?_) (fun _=>?_))|(refine gG_dec (fun _=>?_) (fun _=>?_))|(refine gPG_dec (fun _=>?_) (fun _=>?_))|(refine gI_var (fun _=>?_) (fun _=>?_))|(refine gG_var (fun _=>?_) (fun _=>?_))|(refine gPG_var (fun _=>?_) (fun _=>?_)))
   refine call0_of (by rw[hcs];exact itoa_s w (n+5) _ _ (by omega) (by omega)) ?_
   repeat' (first|(simp (disch:=first|omega|assumption|(refine @id ((_:Bool)=_) ?_;exact id (by with_unfolding_all rfl))|(exact Or.inl rfl)|(exact Or.inl trivial)|(exact okL_map _ (fun _=>rfl) _)|(simp only[VVlen]<;>omega)|fail) only[VV0,VV1,VV2,VV3,VV4,VV5,VV6,VV7,VV8,VV9,mkFnV,vargs,slotsL,opdsA,Nat.reduceEqDiff,Nat.reduceLT,Nat.reduceAdd,Nat.reduceBEq,Int.reduceAdd,Int.reduceSub,Int.reduceLT,Int.reduceLE,Int.reduceEq,Int.reduceNeg,↓reduceIte,reduceCtorEq,scL,scD,expand,List.replicate,e2,hcat,b1,b2,b3,b4,b5,b6,b7,b8,b9,h1,h2,h3,h4,c1,c2,c3,c4,c5,c6,c7,c8,c9,c10,c11])|(refine gC_drawW ?_)|(refine gI_dec (fun _=>?_) (fun _=>?_))|(refine gG_dec (fun _=>?_) (fun _=>?_))|(refine gPG_dec (fun _=>?_) (fun _=>?_))|(refine gI_var (fun _=>?_) (fun _=>?_))|(refine gG_var (fun _=>?_) (fun _=>?_))|(refine gPG_var (fun _=>?_) (fun _=>?_)))
   refine writeString_w w (n+3) hcs 0 (nx+1) (.ptr 0 0) (acc++⟨#[32]⟩) _ (by simp[aget_cons,c7,b5,ByteArray.size_append]) (by simp[aget_cons]) (.inr rfl) (Nat.zero_le _) (Nat.zero_le _) d6 d5 (by rw[ByteArray.size_append];omega) ?_
   repeat' (first|(simp (disch:=first|omega|assumption|(refine @id ((_:Bool)=_) ?_;exact id (by with_unfolding_all rfl))|(exact Or.inl rfl)|(exact Or.inl trivial)|(exact okL_map _ (fun _=>rfl) _)|(simp only[VVlen]<;>omega)|fail) only[VV0,VV1,VV2,VV3,VV4,VV5,VV6,VV7,VV8,VV9,mkFnV,vargs,slotsL,opdsA,Nat.reduceEqDiff,Nat.reduceLT,Nat.reduceAdd,Nat.reduceBEq,Int.reduceAdd,Int.reduceSub,Int.reduceLT,Int.reduceLE,Int.reduceEq,Int.reduceNeg,↓reduceIte,reduceCtorEq,scL,scD,expand,List.replicate,b1,b2,b3,b4,b5,b6,b7,b8,b9,h1,h2,h3,h4,c1,c2,c3,c4,c5,c6,c7,c8,c9,c10,c11,d1,d2,d3,d4,d5,d6,c13,c14,c15,c16])|(refine gC_drawW ?_)|(refine gI_dec (fun _=>?_) (fun _=>?_))|(refine gG_dec (fun _=>?_) (fun _=>?_))|(refine gPG_dec (fun _=>?_) (fun _=>?_))|(refine gI_var (fun _=>?_) (fun _=>?_))|(refine gG_var (fun _=>?_) (fun _=>?_))|(refine gPG_var (fun _=>?_) (fun _=>?_)))
   refine ⟨Nat.zero_le _,trivial,_,weak_keep [4,nx+1+1,2,1,0] (by simp;omega) (by simp;omega) (by omega),?_⟩
   refine hq2 _ ⟨nx+1+1,nx+1+1+1,.ptr 0 0,acc++⟨#[32]⟩++XB,by omega,.inr rfl,?_,?_⟩
   ·rw[hrr,txt_snoc,if_neg hte,hX,← hXB,ByteArray.data_append,Array.toList_append,ByteArray.data_append,Array.toList_append,ha]
   ·simp[idR,renH,aget_cons,renO,recO,vrenL,vren,b1,b3,b4,b5,c2,c3,c4,c5,ByteArray.size_append,Ne.symm b3,Ne.symm b1,codeOf,c7,c9,c10,c11,c12]
 ·rintro fr st ⟨r,nx,p,acc,⟨h1,h2,h3,h4,h5,h6⟩,hp,ha,rfl⟩
  refine ⟨fun i h=>(by cases h),Nat.zero_le _,0,.normal,rfl,rfl,?_⟩
  have b6:¬ (4=r):=fun h=>h4 h.symm
  have b9:¬ (0=r):=fun h=>h1 h.symm
  repeat' (first|(simp (disch:=first|omega|assumption|(refine @id ((_:Bool)=_) ?_;exact id (by with_unfolding_all rfl))|(exact Or.inl rfl)|(exact Or.inl trivial)|(exact okL_map _ (fun _=>rfl) _)|(simp only[VVlen]<;>omega)|fail) only[VV0,VV1,VV2,VV3,VV4,VV5,VV6,VV7,VV8,VV9,mkFnV,vargs,slotsL,opdsA,Nat.reduceEqDiff,Nat.reduceLT,Nat.reduceAdd,Nat.reduceBEq,Int.reduceAdd,Int.reduceSub,Int.reduceLT,Int.reduceLE,Int.reduceEq,Int.reduceNeg,↓reduceIte,reduceCtorEq,scL,scD,expand,List.replicate,b6,b9,h1,h2,h3,h4])|(refine gC_drawW ?_)|(refine gI_dec (fun _=>?_) (fun _=>?_))|(refine gG_dec (fun _=>?_) (fun _=>?_))|(refine gPG_dec (fun _=>?_) (fun _=>?_))|(refine gI_var (fun _=>?_) (fun _=>?_))|(refine gG_var (fun _=>?_) (fun _=>?_))|(refine gPG_var (fun _=>?_) (fun _=>?_)))
  have hbn:=txt_len (runsP l l.length) (fun q hq=>⟨by have:=runsP_cnt l l.length q hq;omega,by obtain ⟨j,hj,e⟩:=runsP_col l l.length q hq;have:=hcol j (by omega);omega⟩)
  have hrl:=runsP_len l l.length
  have hasz:acc.size=(txt (runsP l l.length)).length:=by rw[← ha];simp
  have hacc:acc=⟨(txt (runsP l l.length)).toArray⟩:=by
   apply ByteArray.ext;apply Array.ext';rw[ha]
  refine string_w w (n+5) hC 0 r p acc (by simp[aget_cons,b9]) (by simp[aget_cons]) (Nat.zero_le _) (Nat.zero_le _) (by omega) fun st' hst=>?_
  rw[hacc]
  exact weak_flat rfl hn hst
 ·refine ⟨3,5,.sc (.pointer none),⟨#[]⟩,by decide,.inl rfl,rfl,?_⟩
  rfl
end
end Go.Proofs.YtgglaaldlegckaaDoor
namespace Go.Proofs.YtgglaaldlegckaaDoor
open Go Go.Itp
set_option maxRecDepth 100000
set_option maxHeartbeats 1000000
set_option linter.unusedSimpArgs false
theorem runC_f0 (R:List (Int × Int)) (k:Nat) (hk:k<R.length):dload (runC R) (k*2) none=some (.sc (.int .i64 R[k]!.1)):=by
 have:=dload_flat1 (fun p:Int × Int=> [iD p.1,iD p.2]) 2 R (fun _=>rfl) k 0 hk (by decide)
 unfold runC
 rw[← Nat.add_zero (k*2),this]
 rfl
theorem runC_f1 (R:List (Int × Int)) (k:Nat) (hk:k<R.length):dload (runC R) (k*2+1) none=some (.sc (.int .i64 R[k]!.2)):=by
 have:=dload_flat1 (fun p:Int × Int=> [iD p.1,iD p.2]) 2 R (fun _=>rfl) k 1 hk (by decide)
 unfold runC
 rw[this]
 rfl
theorem txt_take (R:List (Int × Int)) (k:Nat) (hk:k<R.length):txt (R.take (k+1))=(if txt (R.take k)= [] then [] else txt (R.take k)++ [32])++txt1 R[k]! :=by
 rw[List.take_succ_eq_append_getElem hk,txt_snoc,getElem!_pos R k hk]
section
variable (w:World) (n:Nat)
theorem decimal_i (z:Int) (h0:0≤z) (h1:z≤1000000000000):VSpec (EN w (n+1)) 38 [.sc (.int .i64 z)] (strV (Lib.itoa z)) ⟨[],0,0⟩:=by
 obtain ⟨x,rfl⟩:=Int.eq_ofNat_of_zero_le h0
 have:=decimal_p w n x (by omega)
 rw[← Lib.itoa_nonneg] at this
 exact this
theorem rtext_p (s:Nat) (l:List Int) (hl:l.length≤140737488351232):VSpec (EN w (n+3)) 13 [.sl s l.length (l.map iD)] (.tup [strV (textF l).1,.sc (.int .i64 (textF l).2)]) ⟨[],0,0⟩:=by
 refine vspec_flat rfl rfl (fun _ _=>rfl) (Nat.le_of_ble_eq_true rfl) (oldVals w) rfl fun C hC hn=>?_
 repeat' (first|(simp (disch:=first|omega|assumption|(refine @id ((_:Bool)=_) ?_;exact id (by with_unfolding_all rfl))|(exact Or.inl rfl)|(exact Or.inl trivial)|(exact okL_map _ (fun _=>rfl) _)|(simp only[VVlen]<;>omega)|fail) only[VV0,VV1,VV2,VV3,VV4,VV5,VV6,VV7,VV8,VV9,mkFnV,vargs,slotsL,opdsA,Nat.reduceEqDiff,Nat.reduceLT,Nat.reduceAdd,Nat.reduceBEq,Int.reduceAdd,Int.reduceSub,Int.reduceLT,Int.reduceLE,Int.reduceEq,Int.reduceNeg,↓reduceIte,reduceCtorEq,scL,scD,expand,List.replicate,c13])|(refine gC_drawW ?_)|(refine gI_dec (fun _=>?_) (fun _=>?_))|(refine gG_dec (fun _=>?_) (fun _=>?_))|(refine gPG_dec (fun _=>?_) (fun _=>?_))|(refine gI_var (fun _=>?_) (fun _=>?_))|(refine gG_var (fun _=>?_) (fun _=>?_))|(refine gPG_var (fun _=>?_) (fun _=>?_)))
 refine callV_of (by rw[hC];exact rruns_p w n s l hl) rfl rfl rfl ?_
 by_cases h0:chk l=0
 case neg=>
  have e:textF l=([],chk l):=if_neg h0
  have e2:runsF l=([],chk l):=if_neg h0
  rw[e,e2]
  repeat' (first|(simp (disch:=first|omega|assumption|(refine @id ((_:Bool)=_) ?_;exact id (by with_unfolding_all rfl))|(exact Or.inl rfl)|(exact Or.inl trivial)|(exact okL_map _ (fun _=>rfl) _)|(simp only[VVlen]<;>omega)|fail) only[VV0,VV1,VV2,VV3,VV4,VV5,VV6,VV7,VV8,VV9,mkFnV,vargs,slotsL,opdsA,Nat.reduceEqDiff,Nat.reduceLT,Nat.reduceAdd,Nat.reduceBEq,Int.reduceAdd,Int.reduceSub,Int.reduceLT,Int.reduceLE,Int.reduceEq,Int.reduceNeg,↓reduceIte,reduceCtorEq,scL,scD,expand,List.replicate,vsh,shH,shO,vshL,fzSL,fzS])|(refine gC_drawW ?_)|(refine gI_dec (fun _=>?_) (fun _=>?_))|(refine gG_dec (fun _=>?_) (fun _=>?_))|(refine gPG_dec (fun _=>?_) (fun _=>?_))|(refine gI_var (fun _=>?_) (fun _=>?_))|(refine gG_var (fun _=>?_) (fun _=>?_))|(refine gPG_var (fun _=>?_) (fun _=>?_)))
  all_goals try (exfalso;omega)
  exact weak_flat rfl hn rfl
 obtain ⟨hl4,hcol⟩:=chk_facts h0
 have e:textF l=(txt (runsP l l.length),0):=if_pos h0
 have e2:runsF l=(runsP l l.length,0):=if_pos h0
 rw[e,e2]
 have hrl:=runsP_len l l.length
 have hb:∀ p ∈ runsP l l.length,(0≤p.1∧p.1≤5000)∧0≤p.2∧p.2≤5000:=fun q hq=>⟨by have:=runsP_cnt l l.length q hq;omega,by obtain ⟨j,hj,e⟩:=runsP_col l l.length q hq;have:=hcol j (by omega);omega⟩
 generalize runsP l l.length=R at*
 repeat' (first|(simp (disch:=first|omega|assumption|(refine @id ((_:Bool)=_) ?_;exact id (by with_unfolding_all rfl))|(exact Or.inl rfl)|(exact Or.inl trivial)|(exact okL_map _ (fun _=>rfl) _)|(simp only[VVlen]<;>omega)|fail) only[VV0,VV1,VV2,VV3,VV4,VV5,VV6,VV7,VV8,VV9,mkFnV,vargs,slotsL,opdsA,Nat.reduceEqDiff,Nat.reduceLT,Nat.reduceAdd,Nat.reduceBEq,Int.reduceAdd,Int.reduceSub,Int.reduceLT,Int.reduceLE,Int.reduceEq,Int.reduceNeg,↓reduceIte,reduceCtorEq,scL,scD,expand,List.replicate,vsh,shH,shO,vshL,fzSL,fzS])|(refine gC_drawW ?_)|(refine gI_dec (fun _=>?_) (fun _=>?_))|(refine gG_dec (fun _=>?_) (fun _=>?_))|(refine gPG_dec (fun _=>?_) (fun _=>?_))|(refine gI_var (fun _=>?_) (fun _=>?_))|(refine gG_var (fun _=>?_) (fun _=>?_))|(refine gPG_var (fun _=>?_) (fun _=>?_)))
 refine g_while (fun m fr st=>∃ k:Nat,m=R.length - k∧k≤R.length∧fr= [(4,.sl 3 R.length (runC R)),(6,strV (txt (R.take k))),(7,.sc (.int .i64 k))]∧st=⟨[],0,0⟩) R.length ?_ ⟨_,_,.refl _ _,0,?_⟩ ?_
 ·rw[hC,callP_rounds];unfold many;omega
 ·exact ⟨by omega,by omega,rfl,rfl⟩
 ·rintro m fr st ⟨k,rfl,hk,rfl,rfl⟩
  by_cases hlt:k<R.length
  case neg=>
   have:k=R.length:=by omega
   subst this
   rw[List.take_length]
   repeat' (first|(simp (disch:=first|omega|assumption|(refine @id ((_:Bool)=_) ?_;exact id (by with_unfolding_all rfl))|(exact Or.inl rfl)|(exact Or.inl trivial)|(exact okL_map _ (fun _=>rfl) _)|(simp only[VVlen]<;>omega)|fail) only[VV0,VV1,VV2,VV3,VV4,VV5,VV6,VV7,VV8,VV9,mkFnV,vargs,slotsL,opdsA,Nat.reduceEqDiff,Nat.reduceLT,Nat.reduceAdd,Nat.reduceBEq,Int.reduceAdd,Int.reduceSub,Int.reduceLT,Int.reduceLE,Int.reduceEq,Int.reduceNeg,↓reduceIte,reduceCtorEq,scL,scD,expand,List.replicate,c13l0])|(refine gC_drawW ?_)|(refine gI_dec (fun _=>?_) (fun _=>?_))|(refine gG_dec (fun _=>?_) (fun _=>?_))|(refine gPG_dec (fun _=>?_) (fun _=>?_))|(refine gI_var (fun _=>?_) (fun _=>?_))|(refine gG_var (fun _=>?_) (fun _=>?_))|(refine gPG_var (fun _=>?_) (fun _=>?_)))
   all_goals try (exfalso;omega)
   exact weak_flat rfl hn rfl
  obtain ⟨⟨a1,a2⟩,a3,a4⟩:=hb R[k]! (by rw[getElem!_pos R k hlt];exact List.getElem_mem hlt)
  have k1:=Lib.itoa_length_le R[k]!.1 (by omega) (by omega)
  have k2:=Lib.itoa_length_le R[k]!.2 (by omega) (by omega)
  have hT:=txt_len (R.take k) (fun p hp=>hb p (List.mem_of_mem_take hp))
  have htl:(R.take k).length≤4000:=by rw[List.length_take];omega
  have hnil:txt (R.take k)= []↔k=0:=by rw[txt_nil_iff,List.take_eq_nil_iff];constructor<;>intro h;exact h.elim id (fun h=>by rw[h] at hlt;simp at hlt);exact .inl h
  have hstep:=txt_take R k hlt
  generalize txt (R.take k)=T at*
  unfold txt1 at hstep
  have e3:∀ (st:VSt),VSpecO C.E 38 st [.sc (.int .i64 R[k]!.1)] (strV (Lib.itoa R[k]!.1)):=fun st=>(decimal_i w (n+1) _ a1 (by omega)).of hC rfl st rfl
  have e4:∀ (st:VSt),VSpecO C.E 38 st [.sc (.int .i64 R[k]!.2)] (strV (Lib.itoa R[k]!.2)):=fun st=>(decimal_i w (n+1) _ a3 (by omega)).of hC rfl st rfl
  have f0:=runC_f0 R k hlt
  have f1:=runC_f1 R k hlt
  generalize R[k]!.1=A at*
  generalize R[k]!.2=B at*
  by_cases hz:k=0
  ·have hT0:T= []:=hnil.2 hz
   subst hz
   subst hT0
   rw[if_pos rfl] at hstep
   repeat' (first|(simp (disch:=first|omega|assumption|(refine @id ((_:Bool)=_) ?_;exact id (by with_unfolding_all rfl))|(exact Or.inl rfl)|(exact Or.inl trivial)|(exact okL_map _ (fun _=>rfl) _)|(simp only[VVlen]<;>omega)|fail) only[VV0,VV1,VV2,VV3,VV4,VV5,VV6,VV7,VV8,VV9,mkFnV,vargs,slotsL,opdsA,Nat.reduceEqDiff,Nat.reduceLT,Nat.reduceAdd,Nat.reduceBEq,Int.reduceAdd,Int.reduceSub,Int.reduceLT,Int.reduceLE,Int.reduceEq,Int.reduceNeg,↓reduceIte,reduceCtorEq,scL,scD,expand,List.replicate,c13l0,cat_l,f0,f1])|(refine gC_drawW ?_)|(refine gI_dec (fun _=>?_) (fun _=>?_))|(refine gG_dec (fun _=>?_) (fun _=>?_))|(refine gPG_dec (fun _=>?_) (fun _=>?_))|(refine gI_var (fun _=>?_) (fun _=>?_))|(refine gG_var (fun _=>?_) (fun _=>?_))|(refine gPG_var (fun _=>?_) (fun _=>?_)))
   all_goals try (exfalso;omega)
   refine call0_of (e3 _) ?_
   repeat' (first|(simp (disch:=first|omega|assumption|(refine @id ((_:Bool)=_) ?_;exact id (by with_unfolding_all rfl))|(exact Or.inl rfl)|(exact Or.inl trivial)|(exact okL_map _ (fun _=>rfl) _)|(simp only[VVlen]<;>omega)|fail) only[VV0,VV1,VV2,VV3,VV4,VV5,VV6,VV7,VV8,VV9,mkFnV,vargs,slotsL,opdsA,Nat.reduceEqDiff,Nat.reduceLT,Nat.reduceAdd,Nat.reduceBEq,Int.reduceAdd,Int.reduceSub,Int.reduceLT,Int.reduceLE,Int.reduceEq,Int.reduceNeg,↓reduceIte,reduceCtorEq,scL,scD,expand,List.replicate,cat_l,f0,f1])|(refine gC_drawW ?_)|(refine gI_dec (fun _=>?_) (fun _=>?_))|(refine gG_dec (fun _=>?_) (fun _=>?_))|(refine gPG_dec (fun _=>?_) (fun _=>?_))|(refine gI_var (fun _=>?_) (fun _=>?_))|(refine gG_var (fun _=>?_) (fun _=>?_))|(refine gPG_var (fun _=>?_) (fun _=>?_)))
   refine call0_of (e4 _) ?_
   repeat' (first|(simp (disch:=first|omega|assumption|(refine @id ((_:Bool)=_) ?_;exact id (by with_unfolding_all rfl))|(exact Or.inl rfl)|(exact Or.inl trivial)|(exact okL_map _ (fun _=>rfl) _)|(simp only[VVlen]<;>omega)|fail) only[VV0,VV1,VV2,VV3,VV4,VV5,VV6,VV7,VV8,VV9,mkFnV,vargs,slotsL,opdsA,Nat.reduceEqDiff,Nat.reduceLT,Nat.reduceAdd,Nat.reduceBEq,Int.reduceAdd,Int.reduceSub,Int.reduceLT,Int.reduceLE,Int.reduceEq,Int.reduceNeg,↓reduceIte,reduceCtorEq,scL,scD,expand,List.replicate,cat_l,f0,f1])|(refine gC_drawW ?_)|(refine gI_dec (fun _=>?_) (fun _=>?_))|(refine gG_dec (fun _=>?_) (fun _=>?_))|(refine gPG_dec (fun _=>?_) (fun _=>?_))|(refine gI_var (fun _=>?_) (fun _=>?_))|(refine gG_var (fun _=>?_) (fun _=>?_))|(refine gPG_var (fun _=>?_) (fun _=>?_)))
   refine ⟨_,_,_,by omega,.refl _ _,1,rfl,hlt,?_,rfl⟩
   rw[hstep];simp
  ·have hT0:T ≠ []:=fun h=>hz (hnil.1 h)
   rw[if_neg hT0] at hstep
   repeat' (first|(simp (disch:=first|omega|assumption|(refine @id ((_:Bool)=_) ?_;exact id (by with_unfolding_all rfl))|(exact Or.inl rfl)|(exact Or.inl trivial)|(exact okL_map _ (fun _=>rfl) _)|(simp only[VVlen]<;>omega)|fail) only[VV0,VV1,VV2,VV3,VV4,VV5,VV6,VV7,VV8,VV9,mkFnV,vargs,slotsL,opdsA,Nat.reduceEqDiff,Nat.reduceLT,Nat.reduceAdd,Nat.reduceBEq,Int.reduceAdd,Int.reduceSub,Int.reduceLT,Int.reduceLE,Int.reduceEq,Int.reduceNeg,↓reduceIte,reduceCtorEq,scL,scD,expand,List.replicate,c13l0,cat_l,f0,f1])|(refine gC_drawW ?_)|(refine gI_dec (fun _=>?_) (fun _=>?_))|(refine gG_dec (fun _=>?_) (fun _=>?_))|(refine gPG_dec (fun _=>?_) (fun _=>?_))|(refine gI_var (fun _=>?_) (fun _=>?_))|(refine gG_var (fun _=>?_) (fun _=>?_))|(refine gPG_var (fun _=>?_) (fun _=>?_)))
   all_goals try (exfalso;omega)
   refine call0_of (e3 _) ?_
   repeat' (first|(simp (disch:=first|omega|assumption|(refine @id ((_:Bool)=_) ?_;exact id (by with_unfolding_all rfl))|(exact Or.inl rfl)|(exact Or.inl trivial)|(exact okL_map _ (fun _=>rfl) _)|(simp only[VVlen]<;>omega)|fail) only[VV0,VV1,VV2,VV3,VV4,VV5,VV6,VV7,VV8,VV9,mkFnV,vargs,slotsL,opdsA,Nat.reduceEqDiff,Nat.reduceLT,Nat.reduceAdd,Nat.reduceBEq,Int.reduceAdd,Int.reduceSub,Int.reduceLT,Int.reduceLE,Int.reduceEq,Int.reduceNeg,↓reduceIte,reduceCtorEq,scL,scD,expand,List.replicate,cat_l,f0,f1])|(refine gC_drawW ?_)|(refine gI_dec (fun _=>?_) (fun _=>?_))|(refine gG_dec (fun _=>?_) (fun _=>?_))|(refine gPG_dec (fun _=>?_) (fun _=>?_))|(refine gI_var (fun _=>?_) (fun _=>?_))|(refine gG_var (fun _=>?_) (fun _=>?_))|(refine gPG_var (fun _=>?_) (fun _=>?_)))
   refine call0_of (e4 _) ?_
   repeat' (first|(simp (disch:=first|omega|assumption|(refine @id ((_:Bool)=_) ?_;exact id (by with_unfolding_all rfl))|(exact Or.inl rfl)|(exact Or.inl trivial)|(exact okL_map _ (fun _=>rfl) _)|(simp only[VVlen]<;>omega)|fail) only[VV0,VV1,VV2,VV3,VV4,VV5,VV6,VV7,VV8,VV9,mkFnV,vargs,slotsL,opdsA,Nat.reduceEqDiff,Nat.reduceLT,Nat.reduceAdd,Nat.reduceBEq,Int.reduceAdd,Int.reduceSub,Int.reduceLT,Int.reduceLE,Int.reduceEq,Int.reduceNeg,↓reduceIte,reduceCtorEq,scL,scD,expand,List.replicate,cat_l,f0,f1])|(refine gC_drawW ?_)|(refine gI_dec (fun _=>?_) (fun _=>?_))|(refine gG_dec (fun _=>?_) (fun _=>?_))|(refine gPG_dec (fun _=>?_) (fun _=>?_))|(refine gI_var (fun _=>?_) (fun _=>?_))|(refine gG_var (fun _=>?_) (fun _=>?_))|(refine gPG_var (fun _=>?_) (fun _=>?_)))
   refine ⟨_,_,_,by omega,.refl _ _,k+1,rfl,hlt,?_,rfl⟩
   rw[hstep];simp
end
end Go.Proofs.YtgglaaldlegckaaDoor
