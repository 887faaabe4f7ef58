/- What is proved: the law WarpReads returns true for every input. Conditions: none beyond the card's own.
   Texts: C22A, R22A, S22D, H22A, D22a, E22a, O22a, O22b, O22c, O22d, O22e, O22f, O22g, O22h, O22i, O22j, O22k, O22l, E22b, E22c, E22d, E22e, E22f.
-/
import Derived.Test.YtgglaaldlegckaaDoorPart4
import Derived.Test.YtgglaaldlegckaaDoorProg
import Derived.KernelRfl
import Derived.Shelf.Strconv.Atoi
import Derived.Shelf.Strconv.Itoa0
import Derived.Shelf.Strconv.Itoa1
import Derived.Shelf.LaysM
import Derived.Shelf.Strconv.Itoa2
import Derived.Shelf.Strconv.Itoa3
import Derived.Shelf.Strconv.AtoiErrFast
import Derived.Shelf.Strconv.ParseIntEmpty
import Derived.Shelf.Strconv.AtoiFail
import Derived.Shelf.Strconv.Clone
import Derived.Shelf.Strconv.SyntaxError
import Derived.Shelf.LaysC
import Derived.Shelf.Strconv.ToError
import Derived.Shelf.Strconv.Lower
import Derived.Shelf.Strconv.ParseUint10
import Derived.Shelf.Strconv.ParseUint10Empty
import Derived.Shelf.Strconv.ParseUint10Any
import Derived.Shelf.Strconv.ParseInt10
import Derived.Shelf.Strconv.AtoiLong
import Derived.Shelf.Strconv.AtoiInnerAll
import Derived.Shelf.Strconv.RangeError
import Derived.Shelf.Strconv.ToErrorRange
import Derived.Shelf.Strconv.AtoiAll
import Derived.Shelf.Strconv.ErrVarAll
import Derived.Shelf.Strings.Search1
import Derived.Shelf.Strings.Search2
import Derived.Shelf.Strings.Search3
import Derived.Shelf.Strings.Cut
import Derived.Shelf.Strings.Shaped
import Derived.Shelf.Bits.Mul64
import Derived.Shelf.Unicode.DecodeSlow
import Derived.Lib.ItoaLen
/- The seat's functions as the interpreter runs them: written by a program out of the loaded form, and shown equal to it below. -/
namespace Go.Proofs.YtgglaaldlegckaaDoor
open Go Go.Itp
set_option maxRecDepth 100000
/- raddle/raddlelaw22.WarpReads -/
def c6:AFun:=⟨
 .seq (.ops [⟨(some 4),none,.mov (.const (.bool false))⟩] [0,1])
 (.seq (.seq (.ops [⟨(some 13),none,.mov (.tmp 0)⟩,
   ⟨(some 14),none,.len false (.tmp 13)⟩,
   ⟨(some 15),none,.bin .gtr (.tmp 14) (.const (.int .i64 40))⟩,
   ⟨(some 16),none,.mov (.tmp 15)⟩,
   ⟨(some 17),(some (16,false)),.mov (.tmp 1)⟩,
   ⟨(some 18),(some (16,false)),.len true (.tmp 17)⟩,
   ⟨(some 19),(some (16,false)),.bin .gtr (.tmp 18) (.const (.int .i64 200))⟩,
   ⟨(some 20),none,.pick (.tmp 16) (.const (.bool true)) (.tmp 19)⟩] [0,1,20])
 (.cond (.tmp 20)
  (.seq (.ops [⟨(some 4),none,.mov (.const (.bool true))⟩] [4])
  (.ret))
  (.skip)))
 (.seq (.ops [⟨(some 22),none,.mov (.tmp 0)⟩,
   ⟨(some 23),none,.callF 28 [(.tmp 22)]⟩,
   ⟨(some 21),none,.mov (.tmp 23)⟩,
   ⟨(some 24),none,.ext (.tmp 21) 0⟩,
   ⟨(some 25),none,.ext (.tmp 21) 1⟩,
   ⟨(some 5),none,.mov (.tmp 24)⟩,
   ⟨(some 6),none,.mov (.tmp 25)⟩] [0,1,5,6])
 (.seq (.ops [⟨(some 27),none,.mov (.tmp 0)⟩,
   ⟨(some 28),none,.callF 29 [(.tmp 27)]⟩,
   ⟨(some 26),none,.mov (.tmp 28)⟩,
   ⟨(some 29),none,.ext (.tmp 26) 0⟩,
   ⟨(some 30),none,.ext (.tmp 26) 1⟩,
   ⟨(some 7),none,.mov (.tmp 29)⟩,
   ⟨(some 8),none,.mov (.tmp 30)⟩] [1,5,6,7,8])
 (.seq (.ops [⟨(some 32),none,.mov (.tmp 1)⟩,
   ⟨(some 33),none,.callF 30 [(.tmp 32)]⟩,
   ⟨(some 31),none,.mov (.tmp 33)⟩,
   ⟨(some 34),none,.ext (.tmp 31) 0⟩,
   ⟨(some 35),none,.ext (.tmp 31) 1⟩,
   ⟨(some 9),none,.mov (.tmp 34)⟩,
   ⟨(some 10),none,.mov (.tmp 35)⟩] [1,5,6,7,8,9,10])
 (.seq (.ops [⟨(some 37),none,.mov (.tmp 1)⟩,
   ⟨(some 38),none,.callF 31 [(.tmp 37)]⟩,
   ⟨(some 36),none,.mov (.tmp 38)⟩,
   ⟨(some 39),none,.ext (.tmp 36) 0⟩,
   ⟨(some 40),none,.ext (.tmp 36) 1⟩,
   ⟨(some 11),none,.mov (.tmp 39)⟩,
   ⟨(some 12),none,.mov (.tmp 40)⟩] [5,6,7,8,9,10,11,12])
 (.seq (.ops [⟨(some 41),none,.mov (.tmp 5)⟩,
   ⟨(some 42),none,.mov (.tmp 7)⟩,
   ⟨(some 43),none,.callF 21 [(.tmp 41),(.tmp 42)]⟩,
   ⟨(some 44),none,.mov (.tmp 43)⟩,
   ⟨(some 45),(some (44,true)),.mov (.tmp 6)⟩,
   ⟨(some 46),(some (44,true)),.mov (.tmp 8)⟩,
   ⟨(some 47),(some (44,true)),.bin .eql (.tmp 45) (.tmp 46)⟩,
   ⟨(some 48),none,.pick (.tmp 44) (.tmp 47) (.const (.bool false))⟩,
   ⟨(some 49),none,.mov (.tmp 48)⟩,
   ⟨(some 50),(some (49,true)),.mov (.tmp 9)⟩,
   ⟨(some 51),(some (49,true)),.mov (.tmp 11)⟩,
   ⟨(some 52),(some (49,true)),.callF 21 [(.tmp 50),(.tmp 51)]⟩,
   ⟨(some 53),none,.pick (.tmp 49) (.tmp 52) (.const (.bool false))⟩,
   ⟨(some 54),none,.mov (.tmp 53)⟩,
   ⟨(some 55),(some (54,true)),.mov (.tmp 10)⟩,
   ⟨(some 56),(some (54,true)),.mov (.tmp 12)⟩,
   ⟨(some 57),(some (54,true)),.bin .eql (.tmp 55) (.tmp 56)⟩,
   ⟨(some 58),none,.pick (.tmp 54) (.tmp 57) (.const (.bool false))⟩,
   ⟨(some 4),none,.mov (.tmp 58)⟩] [4])
 (.ret))))))),
 59,[(4,none)],true⟩
theorem ok6:FunOK Tryd.prog 6 c6:=⟨⟨Tryd.f6,_,c6.code,Tryd.func6,rfl,by kernel_rfl,rfl,by kernel_rfl,by kernel_rfl⟩⟩
/- raddle/warp.Text -/
def c12:AFun:=⟨
 .seq (.ops [⟨(some 2),none,.mov (.const (.string ⟨#[]⟩))⟩,
   ⟨(some 3),none,.mov (.const (.int .i64 0))⟩] [0,2,3])
 (.seq (.seq (.ops [⟨(some 8),none,.mov (.tmp 0)⟩,
   ⟨(some 9),none,.callF 14 [(.tmp 8)]⟩,
   ⟨(some 4),none,.mov (.tmp 9)⟩] [0,2,3,4])
 (.seq (.ops [⟨(some 10),none,.mov (.tmp 4)⟩,
   ⟨(some 11),none,.bin .neq (.tmp 10) (.const (.int .i64 0))⟩] [0,2,3,4,11])
 (.cond (.tmp 11)
  (.seq (.ops [⟨(some 12),none,.mov (.tmp 4)⟩,
    ⟨(some 2),none,.mov (.const (.string ⟨#[]⟩))⟩,
    ⟨(some 3),none,.mov (.tmp 12)⟩] [2,3])
  (.ret))
  (.skip))))
 (.seq (.ops [⟨(some 5),none,.alloc 66 [(1,(.pointer none)),(1,(.slice none 0 0))]⟩] [0,2,3,5])
 (.seq (.ops [⟨(some 13),none,.mkFn 34 [(.tmp 5)] []⟩,
   ⟨(some 6),none,.alloc 67 [(1,.nilFunc)]⟩,
   ⟨none,none,.store 1 (.tmp 6) (.tmp 13)⟩] [0,2,3,5,6])
 (.seq (.seq (.ops [⟨(some 14),none,.mov (.tmp 0)⟩,
   ⟨(some 15),none,.callF 33 [(.tmp 14)]⟩] [2,3,5,6,15])
 (.block 0
  (.rangeF (.tmp 15) [16] [2,3,5,6]
   (.ops [⟨(some 7),none,.alloc 58 [(2,(.int .i64 0))]⟩,
     ⟨none,none,.store 2 (.tmp 7) (.tmp 16)⟩] [5,6,7])
   (.block 1
    (.seq (.seq (.ops [⟨(some 17),none,.callF 35 [(.tmp 5)]⟩,
      ⟨(some 18),none,.bin .gtr (.tmp 17) (.const (.int .i64 0))⟩] [6,7,18])
    (.cond (.tmp 18)
     (.ops [⟨(some 19),none,.load none (.tmp 6)⟩,
       ⟨(some 20),none,.callV (.tmp 19) [(.const (.string ⟨#[32]⟩))]⟩] [6,7])
     (.skip)))
    (.draw [⟨(some 21),none,.load none (.tmp 6)⟩,
      ⟨(some 22),none,.fldA 0 (.tmp 7)⟩,
      ⟨(some 23),none,.load none (.tmp 22)⟩,
      ⟨(some 24),none,.callF 36 [(.tmp 23)]⟩,
      ⟨(some 25),none,.bin .add (.tmp 24) (.const (.string ⟨#[120]⟩))⟩,
      ⟨(some 26),none,.fldA 1 (.tmp 7)⟩,
      ⟨(some 27),none,.load none (.tmp 26)⟩,
      ⟨(some 28),none,.callF 36 [(.tmp 27)]⟩,
      ⟨(some 29),none,.bin .add (.tmp 25) (.tmp 28)⟩] [⟨(some 30),none,.callV (.tmp 21) [(.tmp 29)]⟩] [[],[],[],[],[],[false,false,false,false,false],[true,false,false,false,false,false],[],[]] []))))))
 (.seq (.ops [⟨(some 31),none,.callF 37 [(.tmp 5)]⟩,
   ⟨(some 2),none,.mov (.tmp 31)⟩,
   ⟨(some 3),none,.mov (.const (.int .i64 0))⟩] [2,3])
 (.ret)))))),
 32,[(2,none),(3,none)],true⟩
theorem ok12:FunOK Tryd.prog 12 c12:=⟨⟨Tryd.f12,_,c12.code,Tryd.func12,rfl,by kernel_rfl,rfl,by kernel_rfl,by kernel_rfl⟩⟩
/- raddle/warp.Check -/
def c14:AFun:=⟨
 .seq (.ops [⟨(some 2),none,.mov (.const (.int .i64 0))⟩] [0])
 (.seq (.seq (.ops [⟨(some 3),none,.mov (.tmp 0)⟩,
   ⟨(some 4),none,.len false (.tmp 3)⟩,
   ⟨(some 5),none,.bin .gtr (.tmp 4) (.const (.int .i64 4000))⟩] [0,5])
 (.cond (.tmp 5)
  (.seq (.ops [⟨(some 2),none,.mov (.const (.int .i64 4))⟩] [2])
  (.ret))
  (.skip)))
 (.seq (.seq (.ops [⟨(some 6),none,.mov (.tmp 0)⟩,
   ⟨(some 7),none,.callF 39 [(.tmp 6),(.func 40)]⟩] [7])
 (.cond (.tmp 7)
  (.seq (.ops [⟨(some 2),none,.mov (.const (.int .i64 8))⟩] [2])
  (.ret))
  (.skip)))
 (.seq (.ops [⟨(some 2),none,.mov (.const (.int .i64 0))⟩] [2])
 (.ret)))),
 8,[(2,none)],true⟩
theorem ok14:FunOK Tryd.prog 14 c14:=⟨⟨Tryd.f14,_,c14.code,Tryd.func14,rfl,by kernel_rfl,rfl,by kernel_rfl,by kernel_rfl⟩⟩
/- raddle/raddleref21.Same -/
def c21l0:AC:=
 .seq (.seq (.ops [⟨(some 11),none,.mov (.tmp 5)⟩,
     ⟨(some 12),none,.mov (.tmp 0)⟩,
     ⟨(some 13),none,.len false (.tmp 12)⟩,
     ⟨(some 14),none,.bin .lss (.tmp 11) (.tmp 13)⟩] [0,1,5,14])
   (.cond (.tmp 14)
    (.skip)
    (.exit 0)))
   (.seq (.block 1
    (.seq (.draw [⟨(some 17),none,.mov (.tmp 0)⟩,
      ⟨(some 18),none,.mov (.tmp 5)⟩,
      ⟨(some 19),none,.idxS 1 (.tmp 17) (.tmp 18)⟩,
      ⟨(some 20),none,.load none (.tmp 19)⟩,
      ⟨(some 21),none,.mov (.tmp 1)⟩,
      ⟨(some 22),none,.mov (.tmp 5)⟩,
      ⟨(some 23),none,.idxS 1 (.tmp 21) (.tmp 22)⟩,
      ⟨(some 24),none,.load none (.tmp 23)⟩] [⟨(some 25),none,.bin .neq (.tmp 20) (.tmp 24)⟩] [[],[],[],[],[],[],[],[]] [0,1,5,25])
    (.cond (.tmp 25)
     (.seq (.ops [⟨(some 4),none,.mov (.const (.bool false))⟩] [4])
     (.ret))
     (.skip))))
   (.ops [⟨(some 15),none,.mov (.tmp 5)⟩,
     ⟨(some 16),none,.bin .add (.tmp 15) (.const (.int .i64 1))⟩,
     ⟨(some 5),none,.mov (.tmp 16)⟩] [0,1,5]))
def c21:AFun:=⟨
 .seq (.ops [⟨(some 4),none,.mov (.const (.bool false))⟩] [0,1])
 (.seq (.seq (.ops [⟨(some 6),none,.mov (.tmp 0)⟩,
   ⟨(some 7),none,.len false (.tmp 6)⟩,
   ⟨(some 8),none,.mov (.tmp 1)⟩,
   ⟨(some 9),none,.len false (.tmp 8)⟩,
   ⟨(some 10),none,.bin .neq (.tmp 7) (.tmp 9)⟩] [0,1,10])
 (.cond (.tmp 10)
  (.seq (.ops [⟨(some 4),none,.mov (.const (.bool false))⟩] [4])
  (.ret))
  (.skip)))
 (.seq (.seq (.ops [⟨(some 5),none,.mov (.const (.int .i64 0))⟩] [0,1,5])
 (.block 0
  (.loop [0,1,5]
   c21l0)))
 (.seq (.ops [⟨(some 4),none,.mov (.const (.bool true))⟩] [4])
 (.ret)))),
 26,[(4,none)],true⟩
theorem ok21:FunOK Tryd.prog 21 c21:=⟨⟨Tryd.f21,_,c21.code,Tryd.func21,rfl,by kernel_rfl,rfl,by kernel_rfl,by kernel_rfl⟩⟩
/- raddle/warp.Expand -/
def c28l0:AC:=
 .seq (.ops [⟨(some 33),none,.bin .lss (.tmp 32) (.tmp 31)⟩] [6,30,31,32,33])
   (.seq (.cond (.tmp 33)
    (.skip)
    (.exit 2))
   (.seq (.block 3
    (.seq (.ops [⟨(some 34),none,.idxS 2 (.tmp 30) (.tmp 32)⟩,
      ⟨(some 35),none,.load (some 2) (.tmp 34)⟩,
      ⟨(some 8),none,.alloc 58 [(2,(.int .i64 0))]⟩,
      ⟨none,none,.store 2 (.tmp 8) (.tmp 35)⟩] [6,8,30,31,32])
    (.seq (.seq (.ops [⟨(some 36),none,.fldA 0 (.tmp 8)⟩,
      ⟨(some 37),none,.load none (.tmp 36)⟩,
      ⟨(some 38),none,.mov (.tmp 6)⟩,
      ⟨(some 39),none,.len false (.tmp 38)⟩,
      ⟨(some 40),none,.bin .sub (.const (.int .i64 4000)) (.tmp 39)⟩,
      ⟨(some 41),none,.bin .gtr (.tmp 37) (.tmp 40)⟩] [6,8,30,31,32,41])
    (.cond (.tmp 41)
     (.seq (.ops [⟨(some 2),none,.mov (.const (.slice none 0 0))⟩,
       ⟨(some 3),none,.mov (.const (.int .i64 4))⟩] [2,3])
     (.ret))
     (.skip)))
    (.ops [⟨(some 42),none,.mov (.tmp 6)⟩,
      ⟨(some 43),none,.fldA 1 (.tmp 8)⟩,
      ⟨(some 44),none,.load none (.tmp 43)⟩,
      ⟨(some 45),none,.mkRow 3 1 1 [(.int .i64 0)] [(0,1,(.tmp 44))]⟩,
      ⟨(some 46),none,.fldA 0 (.tmp 8)⟩,
      ⟨(some 47),none,.load none (.tmp 46)⟩,
      ⟨(some 48),none,.callF 46 [(.tmp 45),(.tmp 47)]⟩,
      ⟨(some 49),none,.app 3 1 8 (.tmp 42) (.tmp 48)⟩,
      ⟨(some 6),none,.mov (.tmp 49)⟩] [6,30,31,32]))))
   (.ops [⟨(some 50),none,.bin .add (.tmp 32) (.const (.int .i64 1))⟩,
     ⟨(some 32),none,.mov (.tmp 50)⟩] [6,30,31,32])))
def c28l1:AC:=
 .seq (.ops [⟨(some 12),none,.bin .lss (.tmp 11) (.tmp 10)⟩] [0,9,10,11,12])
   (.seq (.cond (.tmp 12)
    (.skip)
    (.exit 0))
   (.seq (.block 1
    (.seq (.ops [⟨(some 13),none,.idxS 2 (.tmp 9) (.tmp 11)⟩,
      ⟨(some 14),none,.load (some 2) (.tmp 13)⟩,
      ⟨(some 5),none,.alloc 58 [(2,(.int .i64 0))]⟩,
      ⟨none,none,.store 2 (.tmp 5) (.tmp 14)⟩] [0,5,9,10,11])
    (.seq (.ops [⟨(some 15),none,.fldA 0 (.tmp 5)⟩,
      ⟨(some 16),none,.load none (.tmp 15)⟩,
      ⟨(some 17),none,.bin .lss (.tmp 16) (.const (.int .i64 1))⟩,
      ⟨(some 18),none,.mov (.tmp 17)⟩,
      ⟨(some 19),(some (18,false)),.fldA 0 (.tmp 5)⟩,
      ⟨(some 20),(some (18,false)),.load none (.tmp 19)⟩,
      ⟨(some 21),(some (18,false)),.bin .gtr (.tmp 20) (.const (.int .i64 4000))⟩,
      ⟨(some 22),none,.pick (.tmp 18) (.const (.bool true)) (.tmp 21)⟩,
      ⟨(some 23),none,.mov (.tmp 22)⟩,
      ⟨(some 24),(some (23,false)),.fldA 1 (.tmp 5)⟩,
      ⟨(some 25),(some (23,false)),.load none (.tmp 24)⟩,
      ⟨(some 26),(some (23,false)),.callF 41 [(.tmp 25)]⟩,
      ⟨(some 27),(some (23,false)),.un .not (.tmp 26)⟩,
      ⟨(some 28),none,.pick (.tmp 23) (.const (.bool true)) (.tmp 27)⟩] [0,9,10,11,28])
    (.cond (.tmp 28)
     (.seq (.ops [⟨(some 2),none,.mov (.const (.slice none 0 0))⟩,
       ⟨(some 3),none,.mov (.const (.int .i64 8))⟩] [2,3])
     (.ret))
     (.skip)))))
   (.ops [⟨(some 29),none,.bin .add (.tmp 11) (.const (.int .i64 1))⟩,
     ⟨(some 11),none,.mov (.tmp 29)⟩] [0,9,10,11])))
def c28:AFun:=⟨
 .seq (.ops [⟨(some 2),none,.mov (.const (.slice none 0 0))⟩,
   ⟨(some 3),none,.mov (.const (.int .i64 0))⟩] [0])
 (.seq (.seq (.ops [⟨(some 9),none,.mov (.tmp 0)⟩,
   ⟨(some 10),none,.len false (.tmp 9)⟩,
   ⟨(some 11),none,.mov (.const (.int .i64 0))⟩] [0,9,10,11])
 (.block 0
  (.loop [0,9,10,11]
   c28l1)))
 (.seq (.ops [⟨(some 6),none,.mov (.const (.slice none 0 0))⟩] [0,6])
 (.seq (.seq (.ops [⟨(some 30),none,.mov (.tmp 0)⟩,
   ⟨(some 31),none,.len false (.tmp 30)⟩,
   ⟨(some 32),none,.mov (.const (.int .i64 0))⟩] [6,30,31,32])
 (.block 2
  (.loop [6,30,31,32]
   c28l0)))
 (.seq (.ops [⟨(some 51),none,.mov (.tmp 6)⟩,
   ⟨(some 2),none,.mov (.tmp 51)⟩,
   ⟨(some 3),none,.mov (.const (.int .i64 0))⟩] [2,3])
 (.ret))))),
 52,[(2,none),(3,none)],true⟩
theorem ok28:FunOK Tryd.prog 28 c28:=⟨⟨Tryd.f28,_,c28.code,Tryd.func28,rfl,by kernel_rfl,rfl,by kernel_rfl,by kernel_rfl⟩⟩
/- raddle/raddleref22.Expand -/
def c29l0:AC:=
 .seq (.seq (.ops [⟨(some 61),none,.mov (.tmp 8)⟩,
        ⟨(some 62),none,.mov (.tmp 0)⟩,
        ⟨(some 63),none,.mov (.tmp 7)⟩,
        ⟨(some 64),none,.idxS 2 (.tmp 62) (.tmp 63)⟩,
        ⟨(some 65),none,.fldA 0 (.tmp 64)⟩,
        ⟨(some 66),none,.load none (.tmp 65)⟩,
        ⟨(some 67),none,.bin .lss (.tmp 61) (.tmp 66)⟩] [0,6,7,8,67])
      (.cond (.tmp 67)
       (.skip)
       (.exit 4)))
      (.seq (.block 5
       (.ops [⟨(some 70),none,.mov (.tmp 6)⟩,
         ⟨(some 71),none,.mov (.tmp 0)⟩,
         ⟨(some 72),none,.mov (.tmp 7)⟩,
         ⟨(some 73),none,.idxS 2 (.tmp 71) (.tmp 72)⟩,
         ⟨(some 74),none,.fldA 1 (.tmp 73)⟩,
         ⟨(some 75),none,.load none (.tmp 74)⟩,
         ⟨(some 76),none,.mkRow 3 1 1 [(.int .i64 0)] [(0,1,(.tmp 75))]⟩,
         ⟨(some 77),none,.app 3 1 8 (.tmp 70) (.tmp 76)⟩,
         ⟨(some 6),none,.mov (.tmp 77)⟩] [0,6,7,8]))
      (.ops [⟨(some 68),none,.mov (.tmp 8)⟩,
        ⟨(some 69),none,.bin .add (.tmp 68) (.const (.int .i64 1))⟩,
        ⟨(some 8),none,.mov (.tmp 69)⟩] [0,6,7,8]))
def c29l1:AC:=
 .seq (.seq (.ops [⟨(some 55),none,.mov (.tmp 7)⟩,
     ⟨(some 56),none,.mov (.tmp 0)⟩,
     ⟨(some 57),none,.len false (.tmp 56)⟩,
     ⟨(some 58),none,.bin .lss (.tmp 55) (.tmp 57)⟩] [0,6,7,58])
   (.cond (.tmp 58)
    (.skip)
    (.exit 2)))
   (.seq (.block 3
    (.seq (.ops [⟨(some 8),none,.mov (.const (.int .i64 0))⟩] [0,6,7,8])
    (.block 4
     (.loop [0,6,7,8]
      c29l0))))
   (.ops [⟨(some 59),none,.mov (.tmp 7)⟩,
     ⟨(some 60),none,.bin .add (.tmp 59) (.const (.int .i64 1))⟩,
     ⟨(some 7),none,.mov (.tmp 60)⟩] [0,6,7]))
def c29l2:AC:=
 .seq (.seq (.ops [⟨(some 9),none,.mov (.tmp 5)⟩,
     ⟨(some 10),none,.mov (.tmp 0)⟩,
     ⟨(some 11),none,.len false (.tmp 10)⟩,
     ⟨(some 12),none,.bin .lss (.tmp 9) (.tmp 11)⟩] [0,4,5,12])
   (.cond (.tmp 12)
    (.skip)
    (.exit 0)))
   (.seq (.block 1
    (.seq (.seq (.ops [⟨(some 15),none,.mov (.tmp 0)⟩,
      ⟨(some 16),none,.mov (.tmp 5)⟩,
      ⟨(some 17),none,.idxS 2 (.tmp 15) (.tmp 16)⟩,
      ⟨(some 18),none,.fldA 0 (.tmp 17)⟩,
      ⟨(some 19),none,.load none (.tmp 18)⟩,
      ⟨(some 20),none,.bin .lss (.tmp 19) (.const (.int .i64 1))⟩,
      ⟨(some 21),none,.mov (.tmp 20)⟩,
      ⟨(some 22),(some (21,false)),.mov (.tmp 0)⟩,
      ⟨(some 23),(some (21,false)),.mov (.tmp 5)⟩,
      ⟨(some 24),(some (21,false)),.idxS 2 (.tmp 22) (.tmp 23)⟩,
      ⟨(some 25),(some (21,false)),.fldA 0 (.tmp 24)⟩,
      ⟨(some 26),(some (21,false)),.load none (.tmp 25)⟩,
      ⟨(some 27),(some (21,false)),.bin .gtr (.tmp 26) (.const (.int .i64 4000))⟩,
      ⟨(some 28),none,.pick (.tmp 21) (.const (.bool true)) (.tmp 27)⟩,
      ⟨(some 29),none,.mov (.tmp 28)⟩,
      ⟨(some 30),(some (29,false)),.mov (.tmp 0)⟩,
      ⟨(some 31),(some (29,false)),.mov (.tmp 5)⟩,
      ⟨(some 32),(some (29,false)),.idxS 2 (.tmp 30) (.tmp 31)⟩,
      ⟨(some 33),(some (29,false)),.fldA 1 (.tmp 32)⟩,
      ⟨(some 34),(some (29,false)),.load none (.tmp 33)⟩,
      ⟨(some 35),(some (29,false)),.bin .lss (.tmp 34) (.const (.int .i64 0))⟩,
      ⟨(some 36),none,.pick (.tmp 29) (.const (.bool true)) (.tmp 35)⟩,
      ⟨(some 37),none,.mov (.tmp 36)⟩,
      ⟨(some 38),(some (37,false)),.mov (.tmp 0)⟩,
      ⟨(some 39),(some (37,false)),.mov (.tmp 5)⟩,
      ⟨(some 40),(some (37,false)),.idxS 2 (.tmp 38) (.tmp 39)⟩,
      ⟨(some 41),(some (37,false)),.fldA 1 (.tmp 40)⟩,
      ⟨(some 42),(some (37,false)),.load none (.tmp 41)⟩,
      ⟨(some 43),(some (37,false)),.bin .gtr (.tmp 42) (.const (.int .i64 15))⟩,
      ⟨(some 44),none,.pick (.tmp 37) (.const (.bool true)) (.tmp 43)⟩] [0,4,5,44])
    (.cond (.tmp 44)
     (.seq (.ops [⟨(some 2),none,.mov (.const (.slice none 0 0))⟩,
       ⟨(some 3),none,.mov (.const (.int .i64 8))⟩] [2,3])
     (.ret))
     (.skip)))
    (.ops [⟨(some 45),none,.mov (.tmp 4)⟩,
      ⟨(some 46),none,.mov (.tmp 0)⟩,
      ⟨(some 47),none,.mov (.tmp 5)⟩,
      ⟨(some 48),none,.idxS 2 (.tmp 46) (.tmp 47)⟩,
      ⟨(some 49),none,.fldA 0 (.tmp 48)⟩,
      ⟨(some 50),none,.load none (.tmp 49)⟩,
      ⟨(some 51),none,.bin .add (.tmp 45) (.tmp 50)⟩,
      ⟨(some 52),none,.mm false (.tmp 51) (.const (.int .i64 4001))⟩,
      ⟨(some 4),none,.mov (.tmp 52)⟩] [0,4,5])))
   (.ops [⟨(some 13),none,.mov (.tmp 5)⟩,
     ⟨(some 14),none,.bin .add (.tmp 13) (.const (.int .i64 1))⟩,
     ⟨(some 5),none,.mov (.tmp 14)⟩] [0,4,5]))
def c29:AFun:=⟨
 .seq (.ops [⟨(some 2),none,.mov (.const (.slice none 0 0))⟩,
   ⟨(some 3),none,.mov (.const (.int .i64 0))⟩] [0])
 (.seq (.ops [⟨(some 4),none,.mov (.const (.int .i64 0))⟩] [0,4])
 (.seq (.seq (.ops [⟨(some 5),none,.mov (.const (.int .i64 0))⟩] [0,4,5])
 (.block 0
  (.loop [0,4,5]
   c29l2)))
 (.seq (.seq (.ops [⟨(some 53),none,.mov (.tmp 4)⟩,
   ⟨(some 54),none,.bin .gtr (.tmp 53) (.const (.int .i64 4000))⟩] [0,54])
 (.cond (.tmp 54)
  (.seq (.ops [⟨(some 2),none,.mov (.const (.slice none 0 0))⟩,
    ⟨(some 3),none,.mov (.const (.int .i64 4))⟩] [2,3])
  (.ret))
  (.skip)))
 (.seq (.ops [⟨(some 6),none,.mov (.const (.slice none 0 0))⟩] [0,6])
 (.seq (.seq (.ops [⟨(some 7),none,.mov (.const (.int .i64 0))⟩] [0,6,7])
 (.block 2
  (.loop [0,6,7]
   c29l1)))
 (.seq (.ops [⟨(some 78),none,.mov (.tmp 6)⟩,
   ⟨(some 2),none,.mov (.tmp 78)⟩,
   ⟨(some 3),none,.mov (.const (.int .i64 0))⟩] [2,3])
 (.ret))))))),
 79,[(2,none),(3,none)],true⟩
theorem ok29:FunOK Tryd.prog 29 c29:=⟨⟨Tryd.f29,_,c29.code,Tryd.func29,rfl,by kernel_rfl,rfl,by kernel_rfl,by kernel_rfl⟩⟩
/- raddle/warp.Parse -/
def c30:AFun:=⟨
 .seq (.ops [⟨(some 2),none,.alloc 22 [(1,(.slice none 0 0))]⟩,
   ⟨(some 3),none,.alloc 25 [(1,(.int .i64 0))]⟩] [0,2,3])
 (.seq (.seq (.ops [⟨(some 17),none,.mov (.tmp 0)⟩,
   ⟨(some 18),none,.bin .eql (.tmp 17) (.const (.string ⟨#[]⟩))⟩] [0,2,3,18])
 (.cond (.tmp 18)
  (.seq (.ops [⟨none,none,.store 1 (.tmp 2) (.const (.slice none 0 0))⟩,
    ⟨none,none,.store 1 (.tmp 3) (.const (.int .i64 0))⟩] [2,3])
  (.ret))
  (.skip)))
 (.seq (.ops [⟨(some 4),none,.alloc 24 [(1,(.slice none 0 0))]⟩] [0,2,3,4])
 (.seq (.seq (.ops [⟨(some 19),none,.mov (.tmp 0)⟩,
   ⟨(some 20),none,.callF 47 [(.tmp 19),(.const (.string ⟨#[32]⟩))]⟩] [0,2,3,4,20])
 (.block 0
  (.rangeF (.tmp 20) [21] [0,2,3,4]
   (.ops [⟨(some 5),none,.mov (.tmp 21)⟩] [2,3,4,5])
   (.block 1
    (.seq (.ops [⟨(some 23),none,.mov (.tmp 5)⟩,
      ⟨(some 24),none,.callF 48 [(.tmp 23),(.const (.string ⟨#[120]⟩))]⟩,
      ⟨(some 22),none,.mov (.tmp 24)⟩,
      ⟨(some 25),none,.ext (.tmp 22) 0⟩,
      ⟨(some 26),none,.ext (.tmp 22) 1⟩,
      ⟨(some 27),none,.ext (.tmp 22) 2⟩,
      ⟨(some 6),none,.mov (.tmp 25)⟩,
      ⟨(some 7),none,.mov (.tmp 26)⟩,
      ⟨(some 8),none,.mov (.tmp 27)⟩] [2,3,4,6,7,8])
    (.seq (.ops [⟨(some 29),none,.mov (.tmp 6)⟩,
      ⟨(some 30),none,.callF 49 [(.tmp 29)]⟩,
      ⟨(some 28),none,.mov (.tmp 30)⟩,
      ⟨(some 31),none,.ext (.tmp 28) 0⟩,
      ⟨(some 32),none,.ext (.tmp 28) 1⟩,
      ⟨(some 9),none,.mov (.tmp 31)⟩,
      ⟨(some 10),none,.mov (.tmp 32)⟩] [2,3,4,7,8,9,10])
    (.seq (.ops [⟨(some 34),none,.mov (.tmp 7)⟩,
      ⟨(some 35),none,.callF 49 [(.tmp 34)]⟩,
      ⟨(some 33),none,.mov (.tmp 35)⟩,
      ⟨(some 36),none,.ext (.tmp 33) 0⟩,
      ⟨(some 37),none,.ext (.tmp 33) 1⟩,
      ⟨(some 11),none,.mov (.tmp 36)⟩,
      ⟨(some 12),none,.mov (.tmp 37)⟩] [2,3,4,8,9,10,11,12])
    (.seq (.seq (.ops [⟨(some 38),none,.mov (.tmp 8)⟩,
      ⟨(some 39),none,.un .not (.tmp 38)⟩,
      ⟨(some 40),none,.mov (.tmp 39)⟩,
      ⟨(some 41),(some (40,false)),.mov (.tmp 10)⟩,
      ⟨(some 42),(some (40,false)),.eqIf true true [2,3,5,6,12,21,25,97,105,108,115,155,156,158,159] (.tmp 41) (.const .nilIface)⟩,
      ⟨(some 43),none,.pick (.tmp 40) (.const (.bool true)) (.tmp 42)⟩,
      ⟨(some 44),none,.mov (.tmp 43)⟩,
      ⟨(some 45),(some (44,false)),.mov (.tmp 12)⟩,
      ⟨(some 46),(some (44,false)),.eqIf true true [2,3,5,6,12,21,25,97,105,108,115,155,156,158,159] (.tmp 45) (.const .nilIface)⟩,
      ⟨(some 47),none,.pick (.tmp 44) (.const (.bool true)) (.tmp 46)⟩] [2,3,4,9,11,47])
    (.cond (.tmp 47)
     (.seq (.ops [⟨none,none,.store 1 (.tmp 2) (.const (.slice none 0 0))⟩,
       ⟨none,none,.store 1 (.tmp 3) (.const (.int .i64 12))⟩] [])
     (.ret))
     (.skip)))
    (.ops [⟨(some 48),none,.load none (.tmp 4)⟩,
      ⟨(some 49),none,.mov (.tmp 9)⟩,
      ⟨(some 50),none,.mov (.tmp 11)⟩,
      ⟨(some 51),none,.build [(.int .i64 0),(.int .i64 0)] [(0,1,(.tmp 49)),(1,1,(.tmp 50))]⟩,
      ⟨(some 52),none,.mkRow 58 2 1 [(.int .i64 0),(.int .i64 0)] [(0,2,(.tmp 51))]⟩,
      ⟨(some 53),none,.app 58 2 16 (.tmp 48) (.tmp 52)⟩,
      ⟨none,none,.store 1 (.tmp 4) (.tmp 53)⟩] [])))))))))
 (.seq (.ops [⟨(some 55),none,.load none (.tmp 4)⟩,
   ⟨(some 56),none,.callF 28 [(.tmp 55)]⟩,
   ⟨(some 54),none,.mov (.tmp 56)⟩,
   ⟨(some 57),none,.ext (.tmp 54) 0⟩,
   ⟨(some 58),none,.ext (.tmp 54) 1⟩,
   ⟨(some 13),none,.mov (.tmp 57)⟩,
   ⟨(some 14),none,.mov (.tmp 58)⟩] [0,2,3,13,14])
 (.seq (.seq (.ops [⟨(some 59),none,.mov (.tmp 14)⟩,
   ⟨(some 60),none,.bin .neq (.tmp 59) (.const (.int .i64 0))⟩] [0,2,3,13,60])
 (.cond (.tmp 60)
  (.seq (.ops [⟨none,none,.store 1 (.tmp 2) (.const (.slice none 0 0))⟩,
    ⟨none,none,.store 1 (.tmp 3) (.const (.int .i64 12))⟩] [2,3])
  (.ret))
  (.skip)))
 (.seq (.seq (.ops [⟨(some 62),none,.mov (.tmp 13)⟩,
   ⟨(some 63),none,.callF 12 [(.tmp 62)]⟩,
   ⟨(some 61),none,.mov (.tmp 63)⟩,
   ⟨(some 64),none,.ext (.tmp 61) 0⟩,
   ⟨(some 65),none,.ext (.tmp 61) 1⟩,
   ⟨(some 15),none,.mov (.tmp 64)⟩,
   ⟨(some 16),none,.mov (.tmp 65)⟩] [0,2,3,13,15])
 (.seq (.ops [⟨(some 66),none,.mov (.tmp 15)⟩,
   ⟨(some 67),none,.mov (.tmp 0)⟩,
   ⟨(some 68),none,.bin .neq (.tmp 66) (.tmp 67)⟩] [2,3,13,68])
 (.cond (.tmp 68)
  (.seq (.ops [⟨none,none,.store 1 (.tmp 2) (.const (.slice none 0 0))⟩,
    ⟨none,none,.store 1 (.tmp 3) (.const (.int .i64 12))⟩] [2,3])
  (.ret))
  (.skip))))
 (.seq (.ops [⟨(some 69),none,.mov (.tmp 13)⟩,
   ⟨none,none,.store 1 (.tmp 2) (.tmp 69)⟩,
   ⟨none,none,.store 1 (.tmp 3) (.const (.int .i64 0))⟩] [2,3])
 (.ret)))))))),
 70,[(2,(some none)),(3,(some none))],true⟩
theorem ok30:FunOK Tryd.prog 30 c30:=⟨⟨Tryd.f30,_,c30.code,Tryd.func30,rfl,by kernel_rfl,rfl,by kernel_rfl,by kernel_rfl⟩⟩
/- raddle/raddleref22.Parse -/
def c31l0:AC:=
 .seq (.seq (.ops [⟨(some 32),none,.mov (.tmp 7)⟩,
        ⟨(some 33),none,.mov (.tmp 6)⟩,
        ⟨(some 34),none,.bin .lss (.tmp 32) (.tmp 33)⟩,
        ⟨(some 35),none,.mov (.tmp 34)⟩,
        ⟨(some 36),(some (35,true)),.mov (.tmp 0)⟩,
        ⟨(some 37),(some (35,true)),.mov (.tmp 7)⟩,
        ⟨(some 38),(some (35,true)),.idxStr (.tmp 36) (.tmp 37)⟩,
        ⟨(some 39),(some (35,true)),.bin .neq (.tmp 38) (.const (.int .u8 120))⟩,
        ⟨(some 40),none,.pick (.tmp 35) (.tmp 39) (.const (.bool false))⟩] [0,4,5,6,7,40])
      (.cond (.tmp 40)
       (.skip)
       (.exit 4)))
      (.block 5
       (.ops [⟨(some 41),none,.mov (.tmp 7)⟩,
         ⟨(some 42),none,.bin .add (.tmp 41) (.const (.int .i64 1))⟩,
         ⟨(some 7),none,.mov (.tmp 42)⟩] [0,4,5,6,7]))
def c31l1:AC:=
 .seq (.seq (.ops [⟨(some 20),none,.mov (.tmp 6)⟩,
        ⟨(some 21),none,.mov (.tmp 0)⟩,
        ⟨(some 22),none,.len true (.tmp 21)⟩,
        ⟨(some 23),none,.bin .lss (.tmp 20) (.tmp 22)⟩,
        ⟨(some 24),none,.mov (.tmp 23)⟩,
        ⟨(some 25),(some (24,true)),.mov (.tmp 0)⟩,
        ⟨(some 26),(some (24,true)),.mov (.tmp 6)⟩,
        ⟨(some 27),(some (24,true)),.idxStr (.tmp 25) (.tmp 26)⟩,
        ⟨(some 28),(some (24,true)),.bin .neq (.tmp 27) (.const (.int .u8 32))⟩,
        ⟨(some 29),none,.pick (.tmp 24) (.tmp 28) (.const (.bool false))⟩] [0,4,5,6,7,29])
      (.cond (.tmp 29)
       (.skip)
       (.exit 2)))
      (.block 3
       (.ops [⟨(some 30),none,.mov (.tmp 6)⟩,
         ⟨(some 31),none,.bin .add (.tmp 30) (.const (.int .i64 1))⟩,
         ⟨(some 6),none,.mov (.tmp 31)⟩] [0,4,5,6,7]))
def c31l2:AC:=
 .seq (.seq (.ops [⟨(some 14),none,.mov (.tmp 5)⟩,
     ⟨(some 15),none,.mov (.tmp 0)⟩,
     ⟨(some 16),none,.len true (.tmp 15)⟩,
     ⟨(some 17),none,.bin .lss (.tmp 14) (.tmp 16)⟩] [0,4,5,17])
   (.cond (.tmp 17)
    (.skip)
    (.exit 0)))
   (.block 1
    (.seq (.ops [⟨(some 18),none,.mov (.tmp 5)⟩,
      ⟨(some 19),none,.mov (.tmp 5)⟩,
      ⟨(some 6),none,.mov (.tmp 18)⟩,
      ⟨(some 7),none,.mov (.tmp 19)⟩] [0,4,5,6,7])
    (.seq (.block 2
     (.loop [0,4,5,6,7]
      c31l1))
    (.seq (.block 4
     (.loop [0,4,5,6,7]
      c31l0))
    (.seq (.seq (.ops [⟨(some 43),none,.mov (.tmp 7)⟩,
      ⟨(some 44),none,.mov (.tmp 6)⟩,
      ⟨(some 45),none,.bin .geq (.tmp 43) (.tmp 44)⟩,
      ⟨(some 46),none,.mov (.tmp 45)⟩,
      ⟨(some 47),(some (46,false)),.mov (.tmp 6)⟩,
      ⟨(some 48),(some (46,false)),.mov (.tmp 0)⟩,
      ⟨(some 49),(some (46,false)),.len true (.tmp 48)⟩,
      ⟨(some 50),(some (46,false)),.bin .sub (.tmp 49) (.const (.int .i64 1))⟩,
      ⟨(some 51),(some (46,false)),.bin .eql (.tmp 47) (.tmp 50)⟩,
      ⟨(some 52),none,.pick (.tmp 46) (.const (.bool true)) (.tmp 51)⟩] [0,4,5,6,7,52])
    (.cond (.tmp 52)
     (.seq (.ops [⟨(some 2),none,.mov (.const (.slice none 0 0))⟩,
       ⟨(some 3),none,.mov (.const (.int .i64 12))⟩] [2,3])
     (.ret))
     (.skip)))
    (.seq (.ops [⟨(some 54),none,.mov (.tmp 0)⟩,
      ⟨(some 55),none,.mov (.tmp 5)⟩,
      ⟨(some 56),none,.mov (.tmp 7)⟩,
      ⟨(some 57),none,.slcS (.tmp 54) (some (.tmp 55)) (some (.tmp 56))⟩,
      ⟨(some 58),none,.callF 50 [(.tmp 57)]⟩,
      ⟨(some 53),none,.mov (.tmp 58)⟩,
      ⟨(some 59),none,.ext (.tmp 53) 0⟩,
      ⟨(some 60),none,.ext (.tmp 53) 1⟩,
      ⟨(some 8),none,.mov (.tmp 59)⟩,
      ⟨(some 9),none,.mov (.tmp 60)⟩] [0,4,6,7,8,9])
    (.seq (.ops [⟨(some 62),none,.mov (.tmp 0)⟩,
      ⟨(some 63),none,.mov (.tmp 7)⟩,
      ⟨(some 64),none,.bin .add (.tmp 63) (.const (.int .i64 1))⟩,
      ⟨(some 65),none,.mov (.tmp 6)⟩,
      ⟨(some 66),none,.slcS (.tmp 62) (some (.tmp 64)) (some (.tmp 65))⟩,
      ⟨(some 67),none,.callF 50 [(.tmp 66)]⟩,
      ⟨(some 61),none,.mov (.tmp 67)⟩,
      ⟨(some 68),none,.ext (.tmp 61) 0⟩,
      ⟨(some 69),none,.ext (.tmp 61) 1⟩,
      ⟨(some 10),none,.mov (.tmp 68)⟩,
      ⟨(some 11),none,.mov (.tmp 69)⟩] [0,4,6,8,9,10,11])
    (.seq (.seq (.ops [⟨(some 70),none,.mov (.tmp 9)⟩,
      ⟨(some 71),none,.un .not (.tmp 70)⟩,
      ⟨(some 72),none,.mov (.tmp 71)⟩,
      ⟨(some 73),(some (72,false)),.mov (.tmp 11)⟩,
      ⟨(some 74),(some (72,false)),.un .not (.tmp 73)⟩,
      ⟨(some 75),none,.pick (.tmp 72) (.const (.bool true)) (.tmp 74)⟩,
      ⟨(some 76),none,.mov (.tmp 75)⟩,
      ⟨(some 77),(some (76,false)),.mov (.tmp 8)⟩,
      ⟨(some 78),(some (76,false)),.bin .lss (.tmp 77) (.const (.int .i64 1))⟩,
      ⟨(some 79),none,.pick (.tmp 76) (.const (.bool true)) (.tmp 78)⟩,
      ⟨(some 80),none,.mov (.tmp 79)⟩,
      ⟨(some 81),(some (80,false)),.mov (.tmp 8)⟩,
      ⟨(some 82),(some (80,false)),.bin .gtr (.tmp 81) (.const (.int .i64 4000))⟩,
      ⟨(some 83),none,.pick (.tmp 80) (.const (.bool true)) (.tmp 82)⟩,
      ⟨(some 84),none,.mov (.tmp 83)⟩,
      ⟨(some 85),(some (84,false)),.mov (.tmp 10)⟩,
      ⟨(some 86),(some (84,false)),.bin .lss (.tmp 85) (.const (.int .i64 0))⟩,
      ⟨(some 87),none,.pick (.tmp 84) (.const (.bool true)) (.tmp 86)⟩,
      ⟨(some 88),none,.mov (.tmp 87)⟩,
      ⟨(some 89),(some (88,false)),.mov (.tmp 10)⟩,
      ⟨(some 90),(some (88,false)),.bin .gtr (.tmp 89) (.const (.int .i64 15))⟩,
      ⟨(some 91),none,.pick (.tmp 88) (.const (.bool true)) (.tmp 90)⟩,
      ⟨(some 92),none,.mov (.tmp 91)⟩,
      ⟨(some 93),(some (92,false)),.mov (.tmp 4)⟩,
      ⟨(some 94),(some (92,false)),.len false (.tmp 93)⟩,
      ⟨(some 95),(some (92,false)),.bin .gtr (.tmp 94) (.const (.int .i64 0))⟩,
      ⟨(some 96),(some (92,false)),.mov (.tmp 95)⟩,
      ⟨(some 97),(some (96,true)),.mov (.tmp 4)⟩,
      ⟨(some 98),(some (96,true)),.mov (.tmp 4)⟩,
      ⟨(some 99),(some (96,true)),.len false (.tmp 98)⟩,
      ⟨(some 100),(some (96,true)),.bin .sub (.tmp 99) (.const (.int .i64 1))⟩,
      ⟨(some 101),(some (96,true)),.idxS 2 (.tmp 97) (.tmp 100)⟩,
      ⟨(some 102),(some (96,true)),.fldA 1 (.tmp 101)⟩,
      ⟨(some 103),(some (96,true)),.load none (.tmp 102)⟩,
      ⟨(some 104),(some (96,true)),.mov (.tmp 10)⟩,
      ⟨(some 105),(some (96,true)),.bin .eql (.tmp 103) (.tmp 104)⟩,
      ⟨(some 106),(some (92,false)),.pick (.tmp 96) (.tmp 105) (.const (.bool false))⟩,
      ⟨(some 107),none,.pick (.tmp 92) (.const (.bool true)) (.tmp 106)⟩] [0,4,6,8,10,107])
    (.cond (.tmp 107)
     (.seq (.ops [⟨(some 2),none,.mov (.const (.slice none 0 0))⟩,
       ⟨(some 3),none,.mov (.const (.int .i64 12))⟩] [2,3])
     (.ret))
     (.skip)))
    (.seq (.ops [⟨(some 108),none,.mov (.tmp 4)⟩,
      ⟨(some 109),none,.mov (.tmp 8)⟩,
      ⟨(some 110),none,.mov (.tmp 10)⟩,
      ⟨(some 111),none,.build [(.int .i64 0),(.int .i64 0)] [(0,1,(.tmp 109)),(1,1,(.tmp 110))]⟩,
      ⟨(some 112),none,.mkRow 58 2 1 [(.int .i64 0),(.int .i64 0)] [(0,2,(.tmp 111))]⟩,
      ⟨(some 113),none,.app 58 2 16 (.tmp 108) (.tmp 112)⟩,
      ⟨(some 4),none,.mov (.tmp 113)⟩] [0,4,6])
    (.ops [⟨(some 114),none,.mov (.tmp 6)⟩,
      ⟨(some 115),none,.bin .add (.tmp 114) (.const (.int .i64 1))⟩,
      ⟨(some 5),none,.mov (.tmp 115)⟩] [0,4,5]))))))))))
def c31:AFun:=⟨
 .seq (.ops [⟨(some 2),none,.mov (.const (.slice none 0 0))⟩,
   ⟨(some 3),none,.mov (.const (.int .i64 0))⟩] [0])
 (.seq (.ops [⟨(some 4),none,.mov (.const (.slice none 0 0))⟩] [0,4])
 (.seq (.seq (.ops [⟨(some 5),none,.mov (.const (.int .i64 0))⟩] [0,4,5])
 (.block 0
  (.loop [0,4,5]
   c31l2)))
 (.seq (.ops [⟨(some 117),none,.mov (.tmp 4)⟩,
   ⟨(some 118),none,.callF 29 [(.tmp 117)]⟩,
   ⟨(some 116),none,.mov (.tmp 118)⟩,
   ⟨(some 119),none,.ext (.tmp 116) 0⟩,
   ⟨(some 120),none,.ext (.tmp 116) 1⟩,
   ⟨(some 12),none,.mov (.tmp 119)⟩,
   ⟨(some 13),none,.mov (.tmp 120)⟩] [12,13])
 (.seq (.seq (.ops [⟨(some 121),none,.mov (.tmp 13)⟩,
   ⟨(some 122),none,.bin .neq (.tmp 121) (.const (.int .i64 0))⟩] [12,122])
 (.cond (.tmp 122)
  (.seq (.ops [⟨(some 2),none,.mov (.const (.slice none 0 0))⟩,
    ⟨(some 3),none,.mov (.const (.int .i64 12))⟩] [2,3])
  (.ret))
  (.skip)))
 (.seq (.ops [⟨(some 123),none,.mov (.tmp 12)⟩,
   ⟨(some 2),none,.mov (.tmp 123)⟩,
   ⟨(some 3),none,.mov (.const (.int .i64 0))⟩] [2,3])
 (.ret)))))),
 124,[(2,none),(3,none)],true⟩
theorem ok31:FunOK Tryd.prog 31 c31:=⟨⟨Tryd.f31,_,c31.code,Tryd.func31,rfl,by kernel_rfl,rfl,by kernel_rfl,by kernel_rfl⟩⟩
/- raddle/warp.runs -/
def c33:AFun:=⟨
 .seq (.ops [⟨(some 1),none,.box 22 (.tmp 0)⟩,
   ⟨(some 2),none,.mov (.const .nilFunc)⟩] [1])
 (.seq (.ops [⟨(some 3),none,.mkFn 52 [] [(.tmp 1)]⟩,
   ⟨(some 2),none,.mov (.tmp 3)⟩] [2])
 (.ret)),
 4,[(2,none)],true⟩
theorem ok33:FunOK Tryd.prog 33 c33:=⟨⟨Tryd.f33,_,c33.code,Tryd.func33,rfl,by kernel_rfl,rfl,by kernel_rfl,by kernel_rfl⟩⟩
/- (*strings.Builder).WriteString -/
def c34:AFun:=⟨
 .seq (.ops [⟨(some 4),none,.mov (.const (.int .i64 0))⟩,
   ⟨(some 5),none,.mov (.const .nilIface)⟩] [0,1])
 (.seq (.ops [⟨(some 6),none,.mov (.tmp 0)⟩,
   ⟨(some 7),none,.callF 53 [(.tmp 6)]⟩] [0,1])
 (.seq (.ops [⟨(some 8),none,.mov (.tmp 0)⟩,
   ⟨(some 9),none,.mov (.tmp 0)⟩,
   ⟨(some 10),none,.nilChk (.tmp 9)⟩,
   ⟨(some 11),none,.fldA 1 (.tmp 10)⟩,
   ⟨(some 12),none,.load none (.tmp 11)⟩,
   ⟨(some 13),none,.mov (.tmp 1)⟩,
   ⟨(some 14),none,.app 5 1 1 (.tmp 12) (.tmp 13)⟩,
   ⟨(some 15),none,.nilChk (.tmp 8)⟩,
   ⟨(some 16),none,.fldA 1 (.tmp 15)⟩,
   ⟨none,none,.store 1 (.tmp 16) (.tmp 14)⟩] [1])
 (.seq (.ops [⟨(some 17),none,.mov (.tmp 1)⟩,
   ⟨(some 18),none,.len true (.tmp 17)⟩,
   ⟨(some 4),none,.mov (.tmp 18)⟩,
   ⟨(some 5),none,.mov (.const .nilIface)⟩] [4,5])
 (.ret)))),
 19,[(4,none),(5,none)],false⟩
theorem ok34:FunOK Tryd.prog 34 c34:=⟨⟨Tryd.f34,_,c34.code,Tryd.func34,rfl,by kernel_rfl,rfl,by kernel_rfl,by kernel_rfl⟩⟩
/- (*strings.Builder).Len -/
def c35:AFun:=⟨
 .seq (.ops [⟨(some 2),none,.mov (.const (.int .i64 0))⟩] [0])
 (.seq (.ops [⟨(some 3),none,.mov (.tmp 0)⟩,
   ⟨(some 4),none,.nilChk (.tmp 3)⟩,
   ⟨(some 5),none,.fldA 1 (.tmp 4)⟩,
   ⟨(some 6),none,.load none (.tmp 5)⟩,
   ⟨(some 7),none,.len false (.tmp 6)⟩,
   ⟨(some 2),none,.mov (.tmp 7)⟩] [2])
 (.ret)),
 8,[(2,none)],true⟩
theorem ok35:FunOK Tryd.prog 35 c35:=⟨⟨Tryd.f35,_,c35.code,Tryd.func35,rfl,by kernel_rfl,rfl,by kernel_rfl,by kernel_rfl⟩⟩
/- (*strings.Builder).String -/
def c37:AFun:=⟨
 .seq (.ops [⟨(some 2),none,.mov (.const (.string ⟨#[]⟩))⟩] [0])
 (.seq (.draw [⟨(some 3),none,.mov (.tmp 0)⟩,
   ⟨(some 4),none,.nilChk (.tmp 3)⟩,
   ⟨(some 5),none,.fldA 1 (.tmp 4)⟩,
   ⟨(some 6),none,.load none (.tmp 5)⟩,
   ⟨(some 7),none,.sdata (.tmp 6)⟩,
   ⟨(some 8),none,.mov (.tmp 0)⟩,
   ⟨(some 9),none,.nilChk (.tmp 8)⟩,
   ⟨(some 10),none,.fldA 1 (.tmp 9)⟩,
   ⟨(some 11),none,.load none (.tmp 10)⟩,
   ⟨(some 12),none,.len false (.tmp 11)⟩] [⟨(some 13),none,.ustr 5 (.tmp 7) (.tmp 12)⟩,
   ⟨(some 2),none,.mov (.tmp 13)⟩] [[],[],[],[],[],[],[],[],[],[]] [2])
 (.ret)),
 14,[(2,none)],false⟩
theorem ok37:FunOK Tryd.prog 37 c37:=⟨⟨Tryd.f37,_,c37.code,Tryd.func37,rfl,by kernel_rfl,rfl,by kernel_rfl,by kernel_rfl⟩⟩
/- raddle/raddleref02.Decimal -/
def c38l0:AC:=
 .seq (.seq (.ops [⟨(some 4),none,.mov (.tmp 0)⟩,
     ⟨(some 5),none,.bin .gtr (.tmp 4) (.const (.int .i64 9))⟩] [0,3,5])
   (.cond (.tmp 5)
    (.skip)
    (.exit 0)))
   (.block 1
    (.seq (.ops [⟨(some 6),none,.mov (.tmp 0)⟩,
      ⟨(some 7),none,.bin .rem (.tmp 6) (.const (.int .i64 10))⟩,
      ⟨(some 8),none,.bin .add (.const (.int .i64 48)) (.tmp 7)⟩,
      ⟨(some 9),none,.convI .u8 (.tmp 8)⟩,
      ⟨(some 10),none,.mkRow 5 1 1 [(.int .u8 0)] [(0,1,(.tmp 9))]⟩,
      ⟨(some 11),none,.b2s (.tmp 10)⟩,
      ⟨(some 12),none,.mov (.tmp 3)⟩,
      ⟨(some 13),none,.bin .add (.tmp 11) (.tmp 12)⟩,
      ⟨(some 3),none,.mov (.tmp 13)⟩] [0,3])
    (.ops [⟨(some 14),none,.mov (.tmp 0)⟩,
      ⟨(some 15),none,.bin .quo (.tmp 14) (.const (.int .i64 10))⟩,
      ⟨(some 0),none,.mov (.tmp 15)⟩] [0,3])))
def c38:AFun:=⟨
 .seq (.ops [⟨(some 2),none,.mov (.const (.string ⟨#[]⟩))⟩] [0])
 (.seq (.ops [⟨(some 3),none,.mov (.const (.string ⟨#[]⟩))⟩] [0,3])
 (.seq (.block 0
  (.loop [0,3]
   c38l0))
 (.seq (.ops [⟨(some 16),none,.mov (.tmp 0)⟩,
   ⟨(some 17),none,.bin .add (.const (.int .i64 48)) (.tmp 16)⟩,
   ⟨(some 18),none,.convI .u8 (.tmp 17)⟩,
   ⟨(some 19),none,.mkRow 5 1 1 [(.int .u8 0)] [(0,1,(.tmp 18))]⟩,
   ⟨(some 20),none,.b2s (.tmp 19)⟩,
   ⟨(some 21),none,.mov (.tmp 3)⟩,
   ⟨(some 22),none,.bin .add (.tmp 20) (.tmp 21)⟩,
   ⟨(some 2),none,.mov (.tmp 22)⟩] [2])
 (.ret)))),
 23,[(2,none)],true⟩
theorem ok38:FunOK Tryd.prog 38 c38:=⟨⟨Tryd.f38,_,c38.code,Tryd.func38,rfl,by kernel_rfl,rfl,by kernel_rfl,by kernel_rfl⟩⟩
/- slices.ContainsFunc[[]int,int] -/
def c39:AFun:=⟨
 .seq (.ops [⟨(some 4),none,.mov (.const (.bool false))⟩] [0,1])
 (.seq (.ops [⟨(some 5),none,.mov (.tmp 0)⟩,
   ⟨(some 6),none,.mov (.tmp 1)⟩,
   ⟨(some 7),none,.callF 55 [(.tmp 5),(.tmp 6)]⟩,
   ⟨(some 8),none,.bin .geq (.tmp 7) (.const (.int .i64 0))⟩,
   ⟨(some 4),none,.mov (.tmp 8)⟩] [4])
 (.ret)),
 9,[(4,none)],true⟩
theorem ok39:FunOK Tryd.prog 39 c39:=⟨⟨Tryd.f39,_,c39.code,Tryd.func39,rfl,by kernel_rfl,rfl,by kernel_rfl,by kernel_rfl⟩⟩
/- raddle/warp.Check$1 -/
def c40:AFun:=⟨
 .seq (.ops [⟨(some 2),none,.mov (.const (.bool false))⟩] [0])
 (.seq (.ops [⟨(some 3),none,.mov (.tmp 0)⟩,
   ⟨(some 4),none,.callF 41 [(.tmp 3)]⟩,
   ⟨(some 5),none,.un .not (.tmp 4)⟩,
   ⟨(some 2),none,.mov (.tmp 5)⟩] [2])
 (.ret)),
 6,[(2,none)],true⟩
theorem ok40:FunOK Tryd.prog 40 c40:=⟨⟨Tryd.f40,_,c40.code,Tryd.func40,rfl,by kernel_rfl,rfl,by kernel_rfl,by kernel_rfl⟩⟩
/- raddle/warp.colour -/
def c41:AFun:=⟨
 .seq (.ops [⟨(some 2),none,.mov (.const (.bool false))⟩] [0])
 (.seq (.ops [⟨(some 3),none,.mov (.tmp 0)⟩,
   ⟨(some 4),none,.bin .geq (.tmp 3) (.const (.int .i64 0))⟩,
   ⟨(some 5),none,.mov (.tmp 4)⟩,
   ⟨(some 6),(some (5,true)),.mov (.tmp 0)⟩,
   ⟨(some 7),(some (5,true)),.bin .leq (.tmp 6) (.const (.int .i64 15))⟩,
   ⟨(some 8),none,.pick (.tmp 5) (.tmp 7) (.const (.bool false))⟩,
   ⟨(some 2),none,.mov (.tmp 8)⟩] [2])
 (.ret)),
 9,[(2,none)],true⟩
theorem ok41:FunOK Tryd.prog 41 c41:=⟨⟨Tryd.f41,_,c41.code,Tryd.func41,rfl,by kernel_rfl,rfl,by kernel_rfl,by kernel_rfl⟩⟩
/- slices.Repeat[[]int,int] (2 operations that the interpreter lacks) -/
def c46l0:AC:=
 .seq (.seq (.ops [⟨(some 34),none,.mov (.tmp 8)⟩,
     ⟨(some 35),none,.mov (.tmp 7)⟩,
     ⟨(some 36),none,.len false (.tmp 35)⟩,
     ⟨(some 37),none,.bin .lss (.tmp 34) (.tmp 36)⟩] [7,8,37])
   (.cond (.tmp 37)
    (.skip)
    (.exit 0)))
   (.block 1
    (.drawW [⟨⟨(some 38),none,.mov (.tmp 8)⟩,[],none⟩,
      ⟨⟨(some 39),none,.mov (.tmp 7)⟩,[0],none⟩,
      ⟨⟨(some 40),none,.mov (.tmp 8)⟩,[0,1],none⟩,
      ⟨⟨(some 41),none,.slc 1 (.tmp 39) (some (.tmp 40)) none none⟩,[0],none⟩,
      ⟨⟨(some 42),none,.mov (.tmp 7)⟩,[0,1,2,3],none⟩,
      ⟨⟨(some 43),none,.mov (.tmp 8)⟩,[0,1,2,3,4],none⟩,
      ⟨⟨(some 44),none,.slc 1 (.tmp 42) none (some (.tmp 43)) none⟩,[0,1,2,3],none⟩,
      ⟨⟨(some 45),none,.copy 1 (.tmp 41) (.tmp 44)⟩,[0],none⟩] [⟨(some 46),none,.bin .add (.tmp 38) (.tmp 45)⟩,
      ⟨(some 8),none,.mov (.tmp 46)⟩] [7,8]))
def c46:AFun:=⟨
 .seq (.ops [⟨(some 4),none,.mov (.const (.slice none 0 0))⟩] [0,1])
 (.seq (.seq (.ops [⟨(some 9),none,.mov (.tmp 1)⟩,
   ⟨(some 10),none,.bin .lss (.tmp 9) (.const (.int .i64 0))⟩] [0,1,10])
 (.cond (.tmp 10)
  (.ops [⟨(some 11),none,.mkIf 9 (.const (.string ⟨#[99,97,110,110,111,116,32,98,101,32,110,101,103,97,116,105,118,101]⟩))⟩,
    ⟨none,none,.bad⟩] [0,1])
  (.skip)))
 (.seq (.ops [⟨(some 13),none,.mov (.tmp 0)⟩,
   ⟨(some 14),none,.len false (.tmp 13)⟩,
   ⟨(some 15),none,.convI .u64 (.tmp 14)⟩,
   ⟨(some 16),none,.mov (.tmp 1)⟩,
   ⟨(some 17),none,.convI .u64 (.tmp 16)⟩,
   ⟨(some 18),none,.callF 56 [(.tmp 15),(.tmp 17)]⟩,
   ⟨(some 12),none,.mov (.tmp 18)⟩,
   ⟨(some 19),none,.ext (.tmp 12) 0⟩,
   ⟨(some 20),none,.ext (.tmp 12) 1⟩,
   ⟨(some 5),none,.mov (.tmp 19)⟩,
   ⟨(some 6),none,.mov (.tmp 20)⟩] [0,5,6])
 (.seq (.seq (.ops [⟨(some 21),none,.mov (.tmp 5)⟩,
   ⟨(some 22),none,.bin .gtr (.tmp 21) (.const (.int .u64 0))⟩,
   ⟨(some 23),none,.mov (.tmp 22)⟩,
   ⟨(some 24),(some (23,false)),.mov (.tmp 6)⟩,
   ⟨(some 25),(some (23,false)),.bin .gtr (.tmp 24) (.const (.int .u64 9223372036854775807))⟩,
   ⟨(some 26),none,.pick (.tmp 23) (.const (.bool true)) (.tmp 25)⟩] [0,6,26])
 (.cond (.tmp 26)
  (.ops [⟨(some 27),none,.mkIf 9 (.const (.string ⟨#[116,104,101,32,114,101,115,117,108,116,32,111,102,32,40,108,101,110,40,120,41,32,42,32,99,111,117,110,116,41,32,111,118,101,114,102,108,111,119,115]⟩))⟩,
    ⟨none,none,.bad⟩] [0,6])
  (.skip)))
 (.seq (.ops [⟨(some 28),none,.mov (.tmp 6)⟩,
   ⟨(some 29),none,.convI .i64 (.tmp 28)⟩,
   ⟨(some 30),none,.mkSlice 3 1 8 [(.int .i64 0)] (.tmp 29) (.tmp 29)⟩,
   ⟨(some 7),none,.mov (.tmp 30)⟩] [0,7])
 (.seq (.ops [⟨(some 31),none,.mov (.tmp 7)⟩,
   ⟨(some 32),none,.mov (.tmp 0)⟩,
   ⟨(some 33),none,.copy 1 (.tmp 31) (.tmp 32)⟩,
   ⟨(some 8),none,.mov (.tmp 33)⟩] [7,8])
 (.seq (.block 0
  (.loop [7,8]
   c46l0))
 (.seq (.ops [⟨(some 47),none,.mov (.tmp 7)⟩,
   ⟨(some 4),none,.mov (.tmp 47)⟩] [4])
 (.ret)))))))),
 48,[(4,none)],true⟩
theorem ok46:FunOK Tryd.prog 46 c46:=⟨⟨Tryd.f46,_,c46.code,Tryd.func46,rfl,by kernel_rfl,rfl,by kernel_rfl,by kernel_rfl⟩⟩
/- strings.SplitSeq -/
def c47:AFun:=⟨
 .seq (.ops [⟨(some 4),none,.mov (.const .nilFunc)⟩] [0,1])
 (.seq (.ops [⟨(some 5),none,.mov (.tmp 0)⟩,
   ⟨(some 6),none,.mov (.tmp 1)⟩,
   ⟨(some 7),none,.callF 57 [(.tmp 5),(.tmp 6),(.const (.int .i64 0))]⟩,
   ⟨(some 4),none,.mov (.tmp 7)⟩] [4])
 (.ret)),
 8,[(4,none)],true⟩
theorem ok47:FunOK Tryd.prog 47 c47:=⟨⟨Tryd.f47,_,c47.code,Tryd.func47,rfl,by kernel_rfl,rfl,by kernel_rfl,by kernel_rfl⟩⟩
/- strings.Cut -/
def c48:AFun:=⟨
 .seq (.ops [⟨(some 4),none,.mov (.const (.string ⟨#[]⟩))⟩,
   ⟨(some 5),none,.mov (.const (.string ⟨#[]⟩))⟩,
   ⟨(some 6),none,.mov (.const (.bool false))⟩] [0,1])
 (.seq (.ops [⟨(some 7),none,.mov (.tmp 0)⟩,
   ⟨(some 8),none,.mov (.tmp 1)⟩,
   ⟨(some 9),none,.callF 58 [(.tmp 7),(.tmp 8)]⟩,
   ⟨(some 10),none,.ext (.tmp 9) 0⟩,
   ⟨(some 11),none,.ext (.tmp 9) 1⟩,
   ⟨(some 12),none,.ext (.tmp 9) 2⟩,
   ⟨(some 4),none,.mov (.tmp 10)⟩,
   ⟨(some 5),none,.mov (.tmp 11)⟩,
   ⟨(some 6),none,.mov (.tmp 12)⟩] [4,5,6])
 (.ret)),
 13,[(4,none),(5,none),(6,none)],true⟩
theorem ok48:FunOK Tryd.prog 48 c48:=⟨⟨Tryd.f48,_,c48.code,Tryd.func48,rfl,by kernel_rfl,rfl,by kernel_rfl,by kernel_rfl⟩⟩
/- raddle/raddleref18.Number -/
def c50l0:AC:=
 .seq (.seq (.ops [⟨(some 6),none,.mov (.tmp 5)⟩,
     ⟨(some 7),none,.mov (.tmp 0)⟩,
     ⟨(some 8),none,.len true (.tmp 7)⟩,
     ⟨(some 9),none,.bin .lss (.tmp 6) (.tmp 8)⟩] [0,4,5,9])
   (.cond (.tmp 9)
    (.skip)
    (.exit 0)))
   (.seq (.block 1
    (.seq (.seq (.ops [⟨(some 12),none,.mov (.tmp 0)⟩,
      ⟨(some 13),none,.mov (.tmp 5)⟩,
      ⟨(some 14),none,.idxStr (.tmp 12) (.tmp 13)⟩,
      ⟨(some 15),none,.bin .lss (.tmp 14) (.const (.int .u8 48))⟩,
      ⟨(some 16),none,.mov (.tmp 15)⟩,
      ⟨(some 17),(some (16,false)),.mov (.tmp 0)⟩,
      ⟨(some 18),(some (16,false)),.mov (.tmp 5)⟩,
      ⟨(some 19),(some (16,false)),.idxStr (.tmp 17) (.tmp 18)⟩,
      ⟨(some 20),(some (16,false)),.bin .gtr (.tmp 19) (.const (.int .u8 57))⟩,
      ⟨(some 21),none,.pick (.tmp 16) (.const (.bool true)) (.tmp 20)⟩,
      ⟨(some 22),none,.mov (.tmp 21)⟩,
      ⟨(some 23),(some (22,false)),.mov (.tmp 5)⟩,
      ⟨(some 24),(some (22,false)),.bin .gtr (.tmp 23) (.const (.int .i64 8))⟩,
      ⟨(some 25),none,.pick (.tmp 22) (.const (.bool true)) (.tmp 24)⟩] [0,4,5,25])
    (.cond (.tmp 25)
     (.seq (.ops [⟨(some 2),none,.mov (.const (.int .i64 0))⟩,
       ⟨(some 3),none,.mov (.const (.bool false))⟩] [2,3])
     (.ret))
     (.skip)))
    (.ops [⟨(some 26),none,.mov (.tmp 4)⟩,
      ⟨(some 27),none,.bin .mul (.const (.int .i64 10)) (.tmp 26)⟩,
      ⟨(some 28),none,.mov (.tmp 0)⟩,
      ⟨(some 29),none,.mov (.tmp 5)⟩,
      ⟨(some 30),none,.idxStr (.tmp 28) (.tmp 29)⟩,
      ⟨(some 31),none,.bin .sub (.tmp 30) (.const (.int .u8 48))⟩,
      ⟨(some 32),none,.convI .i64 (.tmp 31)⟩,
      ⟨(some 33),none,.bin .add (.tmp 27) (.tmp 32)⟩,
      ⟨(some 4),none,.mov (.tmp 33)⟩] [0,4,5])))
   (.ops [⟨(some 10),none,.mov (.tmp 5)⟩,
     ⟨(some 11),none,.bin .add (.tmp 10) (.const (.int .i64 1))⟩,
     ⟨(some 5),none,.mov (.tmp 11)⟩] [0,4,5]))
def c50:AFun:=⟨
 .seq (.ops [⟨(some 2),none,.mov (.const (.int .i64 0))⟩,
   ⟨(some 3),none,.mov (.const (.bool false))⟩] [0])
 (.seq (.ops [⟨(some 4),none,.mov (.const (.int .i64 0))⟩] [0,4])
 (.seq (.seq (.ops [⟨(some 5),none,.mov (.const (.int .i64 0))⟩] [0,4,5])
 (.block 0
  (.loop [0,4,5]
   c50l0)))
 (.seq (.ops [⟨(some 34),none,.mov (.tmp 4)⟩,
   ⟨(some 35),none,.mov (.tmp 0)⟩,
   ⟨(some 36),none,.len true (.tmp 35)⟩,
   ⟨(some 37),none,.bin .gtr (.tmp 36) (.const (.int .i64 0))⟩,
   ⟨(some 38),none,.mov (.tmp 37)⟩,
   ⟨(some 39),(some (38,true)),.mov (.tmp 4)⟩,
   ⟨(some 40),(some (38,true)),.callF 38 [(.tmp 39)]⟩,
   ⟨(some 41),(some (38,true)),.mov (.tmp 0)⟩,
   ⟨(some 42),(some (38,true)),.bin .eql (.tmp 40) (.tmp 41)⟩,
   ⟨(some 43),none,.pick (.tmp 38) (.tmp 42) (.const (.bool false))⟩,
   ⟨(some 2),none,.mov (.tmp 34)⟩,
   ⟨(some 3),none,.mov (.tmp 43)⟩] [2,3])
 (.ret)))),
 44,[(2,none),(3,none)],true⟩
theorem ok50:FunOK Tryd.prog 50 c50:=⟨⟨Tryd.f50,_,c50.code,Tryd.func50,rfl,by kernel_rfl,rfl,by kernel_rfl,by kernel_rfl⟩⟩
/- raddle/warp.runs$1 -/
def c52l0:AC:=
 .seq (.seq (.draw [⟨(some 11),none,.mov (.tmp 4)⟩,
        ⟨(some 12),none,.load none (.tmp 1)⟩,
        ⟨(some 13),none,.len false (.tmp 12)⟩,
        ⟨(some 14),none,.bin .lss (.tmp 11) (.tmp 13)⟩,
        ⟨(some 15),none,.mov (.tmp 14)⟩,
        ⟨(some 16),(some (15,true)),.load none (.tmp 1)⟩,
        ⟨(some 17),(some (15,true)),.mov (.tmp 4)⟩,
        ⟨(some 18),(some (15,true)),.idxS 1 (.tmp 16) (.tmp 17)⟩,
        ⟨(some 19),(some (15,true)),.load none (.tmp 18)⟩,
        ⟨(some 20),(some (15,true)),.load none (.tmp 1)⟩,
        ⟨(some 21),(some (15,true)),.mov (.tmp 3)⟩,
        ⟨(some 22),(some (15,true)),.idxS 1 (.tmp 20) (.tmp 21)⟩,
        ⟨(some 23),(some (15,true)),.load none (.tmp 22)⟩] [⟨(some 24),(some (15,true)),.bin .eql (.tmp 19) (.tmp 23)⟩,
        ⟨(some 25),none,.pick (.tmp 15) (.tmp 24) (.const (.bool false))⟩] [[],[],[],[],[],[],[],[],[],[],[],[],[]] [0,1,3,4,25])
      (.cond (.tmp 25)
       (.skip)
       (.exit 2)))
      (.block 3
       (.ops [⟨(some 26),none,.mov (.tmp 4)⟩,
         ⟨(some 27),none,.bin .add (.tmp 26) (.const (.int .i64 1))⟩,
         ⟨(some 4),none,.mov (.tmp 27)⟩] [0,1,3,4]))
def c52l1:AC:=
 .seq (.seq (.ops [⟨(some 5),none,.mov (.tmp 3)⟩,
     ⟨(some 6),none,.load none (.tmp 1)⟩,
     ⟨(some 7),none,.len false (.tmp 6)⟩,
     ⟨(some 8),none,.bin .lss (.tmp 5) (.tmp 7)⟩] [0,1,3,8])
   (.cond (.tmp 8)
    (.skip)
    (.exit 0)))
   (.block 1
    (.seq (.ops [⟨(some 9),none,.mov (.tmp 3)⟩,
      ⟨(some 10),none,.bin .add (.tmp 9) (.const (.int .i64 1))⟩,
      ⟨(some 4),none,.mov (.tmp 10)⟩] [0,1,3,4])
    (.seq (.block 2
     (.loop [0,1,3,4]
      c52l0))
    (.seq (.seq (.ops [⟨(some 28),none,.mov (.tmp 0)⟩,
      ⟨(some 29),none,.mov (.tmp 4)⟩,
      ⟨(some 30),none,.mov (.tmp 3)⟩,
      ⟨(some 31),none,.bin .sub (.tmp 29) (.tmp 30)⟩,
      ⟨(some 32),none,.load none (.tmp 1)⟩,
      ⟨(some 33),none,.mov (.tmp 3)⟩,
      ⟨(some 34),none,.idxS 1 (.tmp 32) (.tmp 33)⟩,
      ⟨(some 35),none,.load none (.tmp 34)⟩,
      ⟨(some 36),none,.build [(.int .i64 0),(.int .i64 0)] [(0,1,(.tmp 31)),(1,1,(.tmp 35))]⟩,
      ⟨(some 37),none,.callV (.tmp 28) [(.tmp 36)]⟩,
      ⟨(some 38),none,.un .not (.tmp 37)⟩] [0,1,4,38])
    (.cond (.tmp 38)
     (.ret)
     (.skip)))
    (.ops [⟨(some 39),none,.mov (.tmp 4)⟩,
      ⟨(some 3),none,.mov (.tmp 39)⟩] [0,1,3])))))
def c52:AFun:=⟨
 .seq (.ops [⟨(some 3),none,.mov (.const (.int .i64 0))⟩] [0,1,3])
 (.block 0
  (.loop [0,1,3]
   c52l1)),
 40,[],false⟩
theorem ok52:FunOK Tryd.prog 52 c52:=⟨⟨Tryd.f52,_,c52.code,Tryd.func52,rfl,by kernel_rfl,rfl,by kernel_rfl,by kernel_rfl⟩⟩
/- (*strings.Builder).copyCheck (1 operations that the interpreter lacks) -/
def c53:AFun:=⟨
 .seq (.ops [⟨(some 2),none,.mov (.tmp 0)⟩,
   ⟨(some 3),none,.nilChk (.tmp 2)⟩,
   ⟨(some 4),none,.fldA 0 (.tmp 3)⟩,
   ⟨(some 5),none,.load none (.tmp 4)⟩,
   ⟨(some 6),none,.eqNil 0 false (.tmp 5) (.const (.pointer none))⟩] [0,6])
 (.cond (.tmp 6)
  (.ops [⟨(some 7),none,.mov (.tmp 0)⟩,
    ⟨(some 8),none,.mov (.tmp 0)⟩,
    ⟨(some 9),none,.toUns (.tmp 8)⟩,
    ⟨(some 10),none,.callF 61 [(.tmp 9)]⟩,
    ⟨(some 11),none,.fromUns 66 2 (.tmp 10)⟩,
    ⟨(some 12),none,.nilChk (.tmp 7)⟩,
    ⟨(some 13),none,.fldA 0 (.tmp 12)⟩,
    ⟨none,none,.store 1 (.tmp 13) (.tmp 11)⟩] [])
  (.seq (.ops [⟨(some 14),none,.mov (.tmp 0)⟩,
    ⟨(some 15),none,.nilChk (.tmp 14)⟩,
    ⟨(some 16),none,.fldA 0 (.tmp 15)⟩,
    ⟨(some 17),none,.load none (.tmp 16)⟩,
    ⟨(some 18),none,.mov (.tmp 0)⟩,
    ⟨(some 19),none,.eqPtr true (.tmp 17) (.tmp 18)⟩] [19])
  (.cond (.tmp 19)
   (.bad)
   (.skip)))),
 20,[],false⟩
theorem ok53:FunOK Tryd.prog 53 c53:=⟨⟨Tryd.f53,_,c53.code,Tryd.func53,rfl,by kernel_rfl,rfl,by kernel_rfl,by kernel_rfl⟩⟩
/- slices.IndexFunc[[]int,int] -/
def c55l0:AC:=
 .seq (.ops [⟨(some 9),none,.bin .lss (.tmp 8) (.tmp 7)⟩] [0,1,7,8,9])
   (.seq (.cond (.tmp 9)
    (.skip)
    (.exit 0))
   (.seq (.block 1
    (.seq (.ops [⟨(some 10),none,.mov (.tmp 8)⟩,
      ⟨(some 5),none,.mov (.tmp 10)⟩] [0,1,5,7,8])
    (.seq (.ops [⟨(some 11),none,.mov (.tmp 1)⟩,
      ⟨(some 12),none,.mov (.tmp 0)⟩,
      ⟨(some 13),none,.mov (.tmp 5)⟩,
      ⟨(some 14),none,.idxS 1 (.tmp 12) (.tmp 13)⟩,
      ⟨(some 15),none,.load none (.tmp 14)⟩,
      ⟨(some 16),none,.callV (.tmp 11) [(.tmp 15)]⟩] [0,1,5,7,8,16])
    (.cond (.tmp 16)
     (.seq (.ops [⟨(some 17),none,.mov (.tmp 5)⟩,
       ⟨(some 4),none,.mov (.tmp 17)⟩] [4])
     (.ret))
     (.skip)))))
   (.ops [⟨(some 18),none,.bin .add (.tmp 8) (.const (.int .i64 1))⟩,
     ⟨(some 8),none,.mov (.tmp 18)⟩] [0,1,7,8])))
def c55:AFun:=⟨
 .seq (.ops [⟨(some 4),none,.mov (.const (.int .i64 0))⟩] [0,1])
 (.seq (.seq (.ops [⟨(some 6),none,.mov (.tmp 0)⟩,
   ⟨(some 7),none,.len false (.tmp 6)⟩,
   ⟨(some 8),none,.mov (.const (.int .i64 0))⟩] [0,1,7,8])
 (.block 0
  (.loop [0,1,7,8]
   c55l0)))
 (.seq (.ops [⟨(some 4),none,.mov (.const (.int .i64 (-1)))⟩] [4])
 (.ret))),
 19,[(4,none)],true⟩
theorem ok55:FunOK Tryd.prog 55 c55:=⟨⟨Tryd.f55,_,c55.code,Tryd.func55,rfl,by kernel_rfl,rfl,by kernel_rfl,by kernel_rfl⟩⟩
/- math/bits.Mul -/
def c56:AFun:=⟨
 .seq (.ops [⟨(some 4),none,.mov (.const (.int .u64 0))⟩,
   ⟨(some 5),none,.mov (.const (.int .u64 0))⟩] [0,1])
 (.seq (.cond (.const (.bool false))
  (.seq (.ops [⟨(some 11),none,.mov (.tmp 0)⟩,
    ⟨(some 12),none,.convI .u32 (.tmp 11)⟩,
    ⟨(some 13),none,.mov (.tmp 1)⟩,
    ⟨(some 14),none,.convI .u32 (.tmp 13)⟩,
    ⟨(some 15),none,.callF 63 [(.tmp 12),(.tmp 14)]⟩,
    ⟨(some 10),none,.mov (.tmp 15)⟩,
    ⟨(some 16),none,.ext (.tmp 10) 0⟩,
    ⟨(some 17),none,.ext (.tmp 10) 1⟩,
    ⟨(some 6),none,.mov (.tmp 16)⟩,
    ⟨(some 7),none,.mov (.tmp 17)⟩] [6,7])
  (.seq (.ops [⟨(some 18),none,.mov (.tmp 6)⟩,
    ⟨(some 19),none,.convI .u64 (.tmp 18)⟩,
    ⟨(some 20),none,.mov (.tmp 7)⟩,
    ⟨(some 21),none,.convI .u64 (.tmp 20)⟩,
    ⟨(some 4),none,.mov (.tmp 19)⟩,
    ⟨(some 5),none,.mov (.tmp 21)⟩] [4,5])
  (.ret)))
  (.skip))
 (.seq (.ops [⟨(some 23),none,.mov (.tmp 0)⟩,
   ⟨(some 24),none,.mov (.tmp 1)⟩,
   ⟨(some 25),none,.callF 64 [(.tmp 23),(.tmp 24)]⟩,
   ⟨(some 22),none,.mov (.tmp 25)⟩,
   ⟨(some 26),none,.ext (.tmp 22) 0⟩,
   ⟨(some 27),none,.ext (.tmp 22) 1⟩,
   ⟨(some 8),none,.mov (.tmp 26)⟩,
   ⟨(some 9),none,.mov (.tmp 27)⟩] [8,9])
 (.seq (.ops [⟨(some 28),none,.mov (.tmp 8)⟩,
   ⟨(some 29),none,.mov (.tmp 9)⟩,
   ⟨(some 4),none,.mov (.tmp 28)⟩,
   ⟨(some 5),none,.mov (.tmp 29)⟩] [4,5])
 (.ret)))),
 30,[(4,none),(5,none)],true⟩
theorem ok56:FunOK Tryd.prog 56 c56:=⟨⟨Tryd.f56,_,c56.code,Tryd.func56,rfl,by kernel_rfl,rfl,by kernel_rfl,by kernel_rfl⟩⟩
/- strings.splitSeq -/
def c57:AFun:=⟨
 .seq (.ops [⟨(some 3),none,.box 9 (.tmp 0)⟩,
   ⟨(some 4),none,.box 9 (.tmp 1)⟩,
   ⟨(some 5),none,.box 3 (.tmp 2)⟩,
   ⟨(some 6),none,.mov (.const .nilFunc)⟩] [3,4,5])
 (.seq (.ops [⟨(some 7),none,.mkFn 65 [] [(.tmp 4),(.tmp 3),(.tmp 5)]⟩,
   ⟨(some 6),none,.mov (.tmp 7)⟩] [6])
 (.ret)),
 8,[(6,none)],true⟩
theorem ok57:FunOK Tryd.prog 57 c57:=⟨⟨Tryd.f57,_,c57.code,Tryd.func57,rfl,by kernel_rfl,rfl,by kernel_rfl,by kernel_rfl⟩⟩
/- internal/stringslite.Cut -/
def c58:AFun:=⟨
 .seq (.ops [⟨(some 4),none,.mov (.const (.string ⟨#[]⟩))⟩,
   ⟨(some 5),none,.mov (.const (.string ⟨#[]⟩))⟩,
   ⟨(some 6),none,.mov (.const (.bool false))⟩] [0,1])
 (.seq (.seq (.ops [⟨(some 8),none,.mov (.tmp 0)⟩,
   ⟨(some 9),none,.mov (.tmp 1)⟩,
   ⟨(some 10),none,.callF 68 [(.tmp 8),(.tmp 9)]⟩,
   ⟨(some 7),none,.mov (.tmp 10)⟩] [0,1,7])
 (.seq (.ops [⟨(some 11),none,.mov (.tmp 7)⟩,
   ⟨(some 12),none,.bin .geq (.tmp 11) (.const (.int .i64 0))⟩] [0,1,7,12])
 (.cond (.tmp 12)
  (.seq (.draw [⟨(some 13),none,.mov (.tmp 0)⟩,
    ⟨(some 14),none,.mov (.tmp 7)⟩,
    ⟨(some 15),none,.slcS (.tmp 13) none (some (.tmp 14))⟩,
    ⟨(some 16),none,.mov (.tmp 0)⟩,
    ⟨(some 17),none,.mov (.tmp 7)⟩,
    ⟨(some 18),none,.mov (.tmp 1)⟩,
    ⟨(some 19),none,.len true (.tmp 18)⟩,
    ⟨(some 20),none,.bin .add (.tmp 17) (.tmp 19)⟩,
    ⟨(some 21),none,.slcS (.tmp 16) (some (.tmp 20)) none⟩,
    ⟨(some 4),none,.mov (.tmp 15)⟩] [⟨(some 5),none,.mov (.tmp 21)⟩,
    ⟨(some 6),none,.mov (.const (.bool true))⟩] [[],[],[],[],[],[],[],[],[],[]] [4,5,6])
  (.ret))
  (.skip))))
 (.seq (.ops [⟨(some 22),none,.mov (.tmp 0)⟩,
   ⟨(some 4),none,.mov (.tmp 22)⟩,
   ⟨(some 5),none,.mov (.const (.string ⟨#[]⟩))⟩,
   ⟨(some 6),none,.mov (.const (.bool false))⟩] [4,5,6])
 (.ret))),
 23,[(4,none),(5,none),(6,none)],true⟩
theorem ok58:FunOK Tryd.prog 58 c58:=⟨⟨Tryd.f58,_,c58.code,Tryd.func58,rfl,by kernel_rfl,rfl,by kernel_rfl,by kernel_rfl⟩⟩
/- math/bits.Mul32 -/
def c63:AFun:=⟨
 .seq (.ops [⟨(some 4),none,.mov (.const (.int .u32 0))⟩,
   ⟨(some 5),none,.mov (.const (.int .u32 0))⟩] [0,1])
 (.seq (.ops [⟨(some 7),none,.mov (.tmp 0)⟩,
   ⟨(some 8),none,.convI .u64 (.tmp 7)⟩,
   ⟨(some 9),none,.mov (.tmp 1)⟩,
   ⟨(some 10),none,.convI .u64 (.tmp 9)⟩,
   ⟨(some 11),none,.bin .mul (.tmp 8) (.tmp 10)⟩,
   ⟨(some 6),none,.mov (.tmp 11)⟩] [6])
 (.seq (.ops [⟨(some 12),none,.mov (.tmp 6)⟩,
   ⟨(some 13),none,.bin .shr (.tmp 12) (.const (.int .u64 32))⟩,
   ⟨(some 14),none,.convI .u32 (.tmp 13)⟩,
   ⟨(some 15),none,.mov (.tmp 6)⟩,
   ⟨(some 16),none,.convI .u32 (.tmp 15)⟩,
   ⟨(some 4),none,.mov (.tmp 14)⟩,
   ⟨(some 5),none,.mov (.tmp 16)⟩] [4,5])
 (.ret))),
 17,[(4,none),(5,none)],true⟩
theorem ok63:FunOK Tryd.prog 63 c63:=⟨⟨Tryd.f63,_,c63.code,Tryd.func63,rfl,by kernel_rfl,rfl,by kernel_rfl,by kernel_rfl⟩⟩
/- math/bits.Mul64 -/
def c64:AFun:=⟨
 .seq (.ops [⟨(some 4),none,.mov (.const (.int .u64 0))⟩,
   ⟨(some 5),none,.mov (.const (.int .u64 0))⟩] [0,1])
 (.seq (.ops [⟨(some 14),none,.mov (.tmp 0)⟩,
   ⟨(some 15),none,.bin .and (.tmp 14) (.const (.int .u64 4294967295))⟩,
   ⟨(some 6),none,.mov (.tmp 15)⟩] [0,1,6])
 (.seq (.ops [⟨(some 16),none,.mov (.tmp 0)⟩,
   ⟨(some 17),none,.bin .shr (.tmp 16) (.const (.int .u64 32))⟩,
   ⟨(some 7),none,.mov (.tmp 17)⟩] [0,1,6,7])
 (.seq (.ops [⟨(some 18),none,.mov (.tmp 1)⟩,
   ⟨(some 19),none,.bin .and (.tmp 18) (.const (.int .u64 4294967295))⟩,
   ⟨(some 8),none,.mov (.tmp 19)⟩] [0,1,6,7,8])
 (.seq (.ops [⟨(some 20),none,.mov (.tmp 1)⟩,
   ⟨(some 21),none,.bin .shr (.tmp 20) (.const (.int .u64 32))⟩,
   ⟨(some 9),none,.mov (.tmp 21)⟩] [0,1,6,7,8,9])
 (.seq (.ops [⟨(some 22),none,.mov (.tmp 6)⟩,
   ⟨(some 23),none,.mov (.tmp 8)⟩,
   ⟨(some 24),none,.bin .mul (.tmp 22) (.tmp 23)⟩,
   ⟨(some 10),none,.mov (.tmp 24)⟩] [0,1,6,7,8,9,10])
 (.seq (.ops [⟨(some 25),none,.mov (.tmp 7)⟩,
   ⟨(some 26),none,.mov (.tmp 8)⟩,
   ⟨(some 27),none,.bin .mul (.tmp 25) (.tmp 26)⟩,
   ⟨(some 28),none,.mov (.tmp 10)⟩,
   ⟨(some 29),none,.bin .shr (.tmp 28) (.const (.int .u64 32))⟩,
   ⟨(some 30),none,.bin .add (.tmp 27) (.tmp 29)⟩,
   ⟨(some 11),none,.mov (.tmp 30)⟩] [0,1,6,7,9,11])
 (.seq (.ops [⟨(some 31),none,.mov (.tmp 11)⟩,
   ⟨(some 32),none,.bin .and (.tmp 31) (.const (.int .u64 4294967295))⟩,
   ⟨(some 12),none,.mov (.tmp 32)⟩] [0,1,6,7,9,11,12])
 (.seq (.ops [⟨(some 33),none,.mov (.tmp 11)⟩,
   ⟨(some 34),none,.bin .shr (.tmp 33) (.const (.int .u64 32))⟩,
   ⟨(some 13),none,.mov (.tmp 34)⟩] [0,1,6,7,9,12,13])
 (.seq (.ops [⟨(some 35),none,.mov (.tmp 12)⟩,
   ⟨(some 36),none,.mov (.tmp 6)⟩,
   ⟨(some 37),none,.mov (.tmp 9)⟩,
   ⟨(some 38),none,.bin .mul (.tmp 36) (.tmp 37)⟩,
   ⟨(some 39),none,.bin .add (.tmp 35) (.tmp 38)⟩,
   ⟨(some 12),none,.mov (.tmp 39)⟩] [0,1,7,9,12,13])
 (.seq (.ops [⟨(some 40),none,.mov (.tmp 7)⟩,
   ⟨(some 41),none,.mov (.tmp 9)⟩,
   ⟨(some 42),none,.bin .mul (.tmp 40) (.tmp 41)⟩,
   ⟨(some 43),none,.mov (.tmp 13)⟩,
   ⟨(some 44),none,.bin .add (.tmp 42) (.tmp 43)⟩,
   ⟨(some 45),none,.mov (.tmp 12)⟩,
   ⟨(some 46),none,.bin .shr (.tmp 45) (.const (.int .u64 32))⟩,
   ⟨(some 47),none,.bin .add (.tmp 44) (.tmp 46)⟩,
   ⟨(some 4),none,.mov (.tmp 47)⟩] [0,1,4])
 (.seq (.ops [⟨(some 48),none,.mov (.tmp 0)⟩,
   ⟨(some 49),none,.mov (.tmp 1)⟩,
   ⟨(some 50),none,.bin .mul (.tmp 48) (.tmp 49)⟩,
   ⟨(some 5),none,.mov (.tmp 50)⟩] [4,5])
 (.ret)))))))))))),
 51,[(4,none),(5,none)],true⟩
theorem ok64:FunOK Tryd.prog 64 c64:=⟨⟨Tryd.f64,_,c64.code,Tryd.func64,rfl,by kernel_rfl,rfl,by kernel_rfl,by kernel_rfl⟩⟩
/- strings.splitSeq$1 -/
def c65l0:AC:=
 .block 3
    (.seq (.ops [⟨(some 29),none,.load none (.tmp 2)⟩,
      ⟨(some 30),none,.load none (.tmp 1)⟩,
      ⟨(some 31),none,.callF 67 [(.tmp 29),(.tmp 30)]⟩,
      ⟨(some 7),none,.mov (.tmp 31)⟩] [0,1,2,3,7])
    (.seq (.seq (.ops [⟨(some 32),none,.mov (.tmp 7)⟩,
      ⟨(some 33),none,.bin .lss (.tmp 32) (.const (.int .i64 0))⟩] [0,1,2,3,7,33])
    (.cond (.tmp 33)
     (.exit 2)
     (.skip)))
    (.seq (.ops [⟨(some 34),none,.load none (.tmp 2)⟩,
      ⟨(some 35),none,.mov (.tmp 7)⟩,
      ⟨(some 36),none,.load none (.tmp 3)⟩,
      ⟨(some 37),none,.bin .add (.tmp 35) (.tmp 36)⟩,
      ⟨(some 38),none,.slcS (.tmp 34) none (some (.tmp 37))⟩,
      ⟨(some 8),none,.mov (.tmp 38)⟩] [0,1,2,3,7,8])
    (.seq (.seq (.ops [⟨(some 39),none,.mov (.tmp 0)⟩,
      ⟨(some 40),none,.mov (.tmp 8)⟩,
      ⟨(some 41),none,.callV (.tmp 39) [(.tmp 40)]⟩,
      ⟨(some 42),none,.un .not (.tmp 41)⟩] [0,1,2,3,7,42])
    (.cond (.tmp 42)
     (.ret)
     (.skip)))
    (.ops [⟨(some 43),none,.load none (.tmp 2)⟩,
      ⟨(some 44),none,.mov (.tmp 7)⟩,
      ⟨(some 45),none,.load none (.tmp 1)⟩,
      ⟨(some 46),none,.len true (.tmp 45)⟩,
      ⟨(some 47),none,.bin .add (.tmp 44) (.tmp 46)⟩,
      ⟨(some 48),none,.slcS (.tmp 43) (some (.tmp 47)) none⟩,
      ⟨none,none,.store 1 (.tmp 2) (.tmp 48)⟩] [0,1,2,3])))))
def c65l1:AC:=
 .seq (.seq (.ops [⟨(some 12),none,.load none (.tmp 2)⟩,
      ⟨(some 13),none,.len true (.tmp 12)⟩,
      ⟨(some 14),none,.bin .gtr (.tmp 13) (.const (.int .i64 0))⟩] [0,2,14])
    (.cond (.tmp 14)
     (.skip)
     (.exit 0)))
    (.block 1
     (.seq (.ops [⟨(some 16),none,.load none (.tmp 2)⟩,
       ⟨(some 17),none,.callF 66 [(.tmp 16)]⟩,
       ⟨(some 15),none,.mov (.tmp 17)⟩,
       ⟨(some 18),none,.ext (.tmp 15) 0⟩,
       ⟨(some 19),none,.ext (.tmp 15) 1⟩,
       ⟨(some 5),none,.mov (.tmp 18)⟩,
       ⟨(some 6),none,.mov (.tmp 19)⟩] [0,2,6])
     (.seq (.seq (.ops [⟨(some 20),none,.mov (.tmp 0)⟩,
       ⟨(some 21),none,.load none (.tmp 2)⟩,
       ⟨(some 22),none,.mov (.tmp 6)⟩,
       ⟨(some 23),none,.slcS (.tmp 21) none (some (.tmp 22))⟩,
       ⟨(some 24),none,.callV (.tmp 20) [(.tmp 23)]⟩,
       ⟨(some 25),none,.un .not (.tmp 24)⟩] [0,2,6,25])
     (.cond (.tmp 25)
      (.ret)
      (.skip)))
     (.ops [⟨(some 26),none,.load none (.tmp 2)⟩,
       ⟨(some 27),none,.mov (.tmp 6)⟩,
       ⟨(some 28),none,.slcS (.tmp 26) (some (.tmp 27)) none⟩,
       ⟨none,none,.store 1 (.tmp 2) (.tmp 28)⟩] [0,2]))))
def c65:AFun:=⟨
 .seq (.seq (.ops [⟨(some 9),none,.load none (.tmp 1)⟩,
   ⟨(some 10),none,.len true (.tmp 9)⟩,
   ⟨(some 11),none,.bin .eql (.tmp 10) (.const (.int .i64 0))⟩] [0,1,2,3,11])
 (.cond (.tmp 11)
  (.seq (.block 0
   (.loop [0,2]
    c65l1))
  (.ret))
  (.skip)))
 (.seq (.block 2
  (.loop [0,1,2,3]
   c65l0))
 (.ops [⟨(some 49),none,.mov (.tmp 0)⟩,
   ⟨(some 50),none,.load none (.tmp 2)⟩,
   ⟨(some 51),none,.callV (.tmp 49) [(.tmp 50)]⟩] [])),
 52,[],false⟩
theorem ok65:FunOK Tryd.prog 65 c65:=⟨⟨Tryd.f65,_,c65.code,Tryd.func65,rfl,by kernel_rfl,rfl,by kernel_rfl,by kernel_rfl⟩⟩
/- unicode/utf8.DecodeRuneInString -/
def c66:AFun:=⟨
 .seq (.ops [⟨(some 2),none,.mov (.const (.int .i32 0))⟩,
   ⟨(some 3),none,.mov (.const (.int .i64 0))⟩] [0])
 (.seq (.seq (.ops [⟨(some 4),none,.mov (.tmp 0)⟩,
   ⟨(some 5),none,.bin .neq (.tmp 4) (.const (.string ⟨#[]⟩))⟩,
   ⟨(some 6),none,.mov (.tmp 5)⟩,
   ⟨(some 7),(some (6,true)),.mov (.tmp 0)⟩,
   ⟨(some 8),(some (6,true)),.idxStr (.tmp 7) (.const (.int .i64 0))⟩,
   ⟨(some 9),(some (6,true)),.bin .lss (.tmp 8) (.const (.int .u8 128))⟩,
   ⟨(some 10),none,.pick (.tmp 6) (.tmp 9) (.const (.bool false))⟩] [0,10])
 (.cond (.tmp 10)
  (.seq (.ops [⟨(some 11),none,.mov (.tmp 0)⟩,
    ⟨(some 12),none,.idxStr (.tmp 11) (.const (.int .i64 0))⟩,
    ⟨(some 13),none,.convI .i32 (.tmp 12)⟩,
    ⟨(some 2),none,.mov (.tmp 13)⟩,
    ⟨(some 3),none,.mov (.const (.int .i64 1))⟩] [2,3])
  (.ret))
  (.ops [⟨(some 15),none,.mov (.tmp 0)⟩,
    ⟨(some 16),none,.callF 78 [(.tmp 15)]⟩,
    ⟨(some 14),none,.mov (.tmp 16)⟩,
    ⟨(some 17),none,.ext (.tmp 14) 0⟩,
    ⟨(some 18),none,.ext (.tmp 14) 1⟩,
    ⟨(some 2),none,.mov (.tmp 17)⟩,
    ⟨(some 3),none,.mov (.tmp 18)⟩] [2,3])))
 (.ret)),
 19,[(2,none),(3,none)],true⟩
theorem ok66:FunOK Tryd.prog 66 c66:=⟨⟨Tryd.f66,_,c66.code,Tryd.func66,rfl,by kernel_rfl,rfl,by kernel_rfl,by kernel_rfl⟩⟩
/- strings.Index -/
def c67:AFun:=⟨
 .seq (.ops [⟨(some 4),none,.mov (.const (.int .i64 0))⟩] [0,1])
 (.seq (.ops [⟨(some 5),none,.mov (.tmp 0)⟩,
   ⟨(some 6),none,.mov (.tmp 1)⟩,
   ⟨(some 7),none,.callF 68 [(.tmp 5),(.tmp 6)]⟩,
   ⟨(some 4),none,.mov (.tmp 7)⟩] [4])
 (.ret)),
 8,[(4,none)],true⟩
theorem ok67:FunOK Tryd.prog 67 c67:=⟨⟨Tryd.f67,_,c67.code,Tryd.func67,rfl,by kernel_rfl,rfl,by kernel_rfl,by kernel_rfl⟩⟩
/- internal/stringslite.Index -/
def c68l0:AC:=
 .seq (.seq (.ops [⟨(some 57),none,.mov (.tmp 8)⟩,
     ⟨(some 58),none,.mov (.tmp 9)⟩,
     ⟨(some 59),none,.bin .lss (.tmp 57) (.tmp 58)⟩] [0,1,5,6,7,8,9,10,59])
   (.cond (.tmp 59)
    (.skip)
    (.exit 1)))
   (.block 2
    (.seq (.seq (.ops [⟨(some 60),none,.mov (.tmp 0)⟩,
      ⟨(some 61),none,.mov (.tmp 8)⟩,
      ⟨(some 62),none,.idxStr (.tmp 60) (.tmp 61)⟩,
      ⟨(some 63),none,.mov (.tmp 6)⟩,
      ⟨(some 64),none,.bin .neq (.tmp 62) (.tmp 63)⟩] [0,1,5,6,7,8,9,10,64])
    (.cond (.tmp 64)
     (.seq (.ops [⟨(some 65),none,.mov (.tmp 0)⟩,
       ⟨(some 66),none,.mov (.tmp 8)⟩,
       ⟨(some 67),none,.bin .add (.tmp 66) (.const (.int .i64 1))⟩,
       ⟨(some 68),none,.mov (.tmp 9)⟩,
       ⟨(some 69),none,.slcS (.tmp 65) (some (.tmp 67)) (some (.tmp 68))⟩,
       ⟨(some 70),none,.mov (.tmp 6)⟩,
       ⟨(some 71),none,.callF 79 [(.tmp 69),(.tmp 70)]⟩,
       ⟨(some 11),none,.mov (.tmp 71)⟩] [0,1,5,6,7,8,9,10,11])
     (.seq (.seq (.ops [⟨(some 72),none,.mov (.tmp 11)⟩,
       ⟨(some 73),none,.bin .lss (.tmp 72) (.const (.int .i64 0))⟩] [0,1,5,6,7,8,9,10,11,73])
     (.cond (.tmp 73)
      (.seq (.ops [⟨(some 4),none,.mov (.const (.int .i64 (-1)))⟩] [4])
      (.ret))
      (.skip)))
     (.ops [⟨(some 74),none,.mov (.tmp 8)⟩,
       ⟨(some 75),none,.mov (.tmp 11)⟩,
       ⟨(some 76),none,.bin .add (.tmp 75) (.const (.int .i64 1))⟩,
       ⟨(some 77),none,.bin .add (.tmp 74) (.tmp 76)⟩,
       ⟨(some 8),none,.mov (.tmp 77)⟩] [0,1,5,6,7,8,9,10])))
     (.skip)))
    (.seq (.seq (.ops [⟨(some 78),none,.mov (.tmp 0)⟩,
      ⟨(some 79),none,.mov (.tmp 8)⟩,
      ⟨(some 80),none,.bin .add (.tmp 79) (.const (.int .i64 1))⟩,
      ⟨(some 81),none,.idxStr (.tmp 78) (.tmp 80)⟩,
      ⟨(some 82),none,.mov (.tmp 7)⟩,
      ⟨(some 83),none,.bin .eql (.tmp 81) (.tmp 82)⟩,
      ⟨(some 84),none,.mov (.tmp 83)⟩,
      ⟨(some 85),(some (84,true)),.mov (.tmp 0)⟩,
      ⟨(some 86),(some (84,true)),.mov (.tmp 8)⟩,
      ⟨(some 87),(some (84,true)),.mov (.tmp 8)⟩,
      ⟨(some 88),(some (84,true)),.mov (.tmp 5)⟩,
      ⟨(some 89),(some (84,true)),.bin .add (.tmp 87) (.tmp 88)⟩,
      ⟨(some 90),(some (84,true)),.slcS (.tmp 85) (some (.tmp 86)) (some (.tmp 89))⟩,
      ⟨(some 91),(some (84,true)),.mov (.tmp 1)⟩,
      ⟨(some 92),(some (84,true)),.bin .eql (.tmp 90) (.tmp 91)⟩,
      ⟨(some 93),none,.pick (.tmp 84) (.tmp 92) (.const (.bool false))⟩] [0,1,5,6,7,8,9,10,93])
    (.cond (.tmp 93)
     (.seq (.ops [⟨(some 94),none,.mov (.tmp 8)⟩,
       ⟨(some 4),none,.mov (.tmp 94)⟩] [4])
     (.ret))
     (.skip)))
    (.seq (.ops [⟨(some 95),none,.mov (.tmp 8)⟩,
      ⟨(some 96),none,.bin .add (.tmp 95) (.const (.int .i64 1))⟩,
      ⟨(some 8),none,.mov (.tmp 96)⟩] [0,1,5,6,7,8,9,10])
    (.seq (.ops [⟨(some 97),none,.mov (.tmp 10)⟩,
      ⟨(some 98),none,.bin .add (.tmp 97) (.const (.int .i64 1))⟩,
      ⟨(some 10),none,.mov (.tmp 98)⟩] [0,1,5,6,7,8,9,10])
    (.seq (.ops [⟨(some 99),none,.mov (.tmp 5)⟩,
      ⟨(some 100),none,.load none (.global 0)⟩,
      ⟨(some 101),none,.bin .leq (.tmp 99) (.tmp 100)⟩,
      ⟨(some 102),none,.mov (.tmp 101)⟩,
      ⟨(some 103),(some (102,true)),.mov (.tmp 10)⟩,
      ⟨(some 104),(some (102,true)),.mov (.tmp 8)⟩,
      ⟨(some 105),(some (102,true)),.callF 81 [(.tmp 104)]⟩,
      ⟨(some 106),(some (102,true)),.bin .gtr (.tmp 103) (.tmp 105)⟩,
      ⟨(some 107),none,.pick (.tmp 102) (.tmp 106) (.const (.bool false))⟩] [0,1,5,6,7,8,9,10,107])
    (.cond (.tmp 107)
     (.seq (.ops [⟨(some 108),none,.mov (.tmp 0)⟩,
       ⟨(some 109),none,.mov (.tmp 8)⟩,
       ⟨(some 110),none,.slcS (.tmp 108) (some (.tmp 109)) none⟩,
       ⟨(some 111),none,.mov (.tmp 1)⟩,
       ⟨(some 112),none,.callF 80 [(.tmp 110),(.tmp 111)]⟩,
       ⟨(some 12),none,.mov (.tmp 112)⟩] [8,12])
     (.seq (.seq (.ops [⟨(some 113),none,.mov (.tmp 12)⟩,
       ⟨(some 114),none,.bin .geq (.tmp 113) (.const (.int .i64 0))⟩] [8,12,114])
     (.cond (.tmp 114)
      (.seq (.ops [⟨(some 115),none,.mov (.tmp 12)⟩,
        ⟨(some 116),none,.mov (.tmp 8)⟩,
        ⟨(some 117),none,.bin .add (.tmp 115) (.tmp 116)⟩,
        ⟨(some 4),none,.mov (.tmp 117)⟩] [4])
      (.ret))
      (.skip)))
     (.seq (.ops [⟨(some 4),none,.mov (.const (.int .i64 (-1)))⟩] [4])
     (.ret))))
     (.seq (.ops [⟨(some 118),none,.mov (.tmp 5)⟩,
       ⟨(some 119),none,.load none (.global 0)⟩,
       ⟨(some 120),none,.bin .gtr (.tmp 118) (.tmp 119)⟩,
       ⟨(some 121),none,.mov (.tmp 120)⟩,
       ⟨(some 122),(some (121,true)),.mov (.tmp 10)⟩,
       ⟨(some 123),(some (121,true)),.mov (.tmp 8)⟩,
       ⟨(some 124),(some (121,true)),.bin .shr (.tmp 123) (.const (.int .u64 4))⟩,
       ⟨(some 125),(some (121,true)),.bin .add (.const (.int .i64 4)) (.tmp 124)⟩,
       ⟨(some 126),(some (121,true)),.bin .geq (.tmp 122) (.tmp 125)⟩,
       ⟨(some 127),none,.pick (.tmp 121) (.tmp 126) (.const (.bool false))⟩,
       ⟨(some 128),none,.mov (.tmp 127)⟩,
       ⟨(some 129),(some (128,true)),.mov (.tmp 8)⟩,
       ⟨(some 130),(some (128,true)),.mov (.tmp 9)⟩,
       ⟨(some 131),(some (128,true)),.bin .lss (.tmp 129) (.tmp 130)⟩,
       ⟨(some 132),none,.pick (.tmp 128) (.tmp 131) (.const (.bool false))⟩] [0,1,5,6,7,8,9,10,132])
     (.cond (.tmp 132)
      (.seq (.ops [⟨(some 133),none,.mov (.tmp 0)⟩,
        ⟨(some 134),none,.mov (.tmp 8)⟩,
        ⟨(some 135),none,.slcS (.tmp 133) (some (.tmp 134)) none⟩,
        ⟨(some 136),none,.mov (.tmp 1)⟩,
        ⟨(some 137),none,.callF 82 [(.tmp 135),(.tmp 136)]⟩,
        ⟨(some 13),none,.mov (.tmp 137)⟩] [8,13])
      (.seq (.seq (.ops [⟨(some 138),none,.mov (.tmp 13)⟩,
        ⟨(some 139),none,.bin .lss (.tmp 138) (.const (.int .i64 0))⟩] [8,13,139])
      (.cond (.tmp 139)
       (.seq (.ops [⟨(some 4),none,.mov (.const (.int .i64 (-1)))⟩] [4])
       (.ret))
       (.skip)))
      (.seq (.ops [⟨(some 140),none,.mov (.tmp 8)⟩,
        ⟨(some 141),none,.mov (.tmp 13)⟩,
        ⟨(some 142),none,.bin .add (.tmp 140) (.tmp 141)⟩,
        ⟨(some 4),none,.mov (.tmp 142)⟩] [4])
      (.ret))))
      (.skip))))))))))
def c68:AFun:=⟨
 .seq (.ops [⟨(some 4),none,.mov (.const (.int .i64 0))⟩] [0,1])
 (.seq (.ops [⟨(some 14),none,.mov (.tmp 1)⟩,
   ⟨(some 15),none,.len true (.tmp 14)⟩,
   ⟨(some 5),none,.mov (.tmp 15)⟩] [0,1,5])
 (.seq (.block 0
  (.seq (.ops [⟨(some 17),none,.mov (.tmp 5)⟩,
    ⟨(some 18),none,.bin .eql (.tmp 17) (.const (.int .i64 0))⟩,
    ⟨(some 19),none,.mov (.tmp 18)⟩,
    ⟨(some 20),(some (19,false)),.mov (.tmp 1)⟩,
    ⟨(some 21),(some (19,false)),.mov (.tmp 0)⟩,
    ⟨(some 22),(some (19,false)),.bin .eql (.tmp 20) (.tmp 21)⟩,
    ⟨(some 23),none,.pick (.tmp 19) (.const (.bool true)) (.tmp 22)⟩,
    ⟨(some 16),none,.mov (.tmp 23)⟩] [0,1,5,16])
  (.cond (.tmp 16)
   (.seq (.ops [⟨(some 4),none,.mov (.const (.int .i64 0))⟩] [4])
   (.ret))
   (.seq (.ops [⟨(some 25),none,.mov (.tmp 5)⟩,
     ⟨(some 26),none,.bin .eql (.tmp 25) (.const (.int .i64 1))⟩,
     ⟨(some 24),none,.mov (.tmp 26)⟩] [0,1,5,24])
   (.cond (.tmp 24)
    (.seq (.ops [⟨(some 27),none,.mov (.tmp 0)⟩,
      ⟨(some 28),none,.mov (.tmp 1)⟩,
      ⟨(some 29),none,.idxStr (.tmp 28) (.const (.int .i64 0))⟩,
      ⟨(some 30),none,.callF 79 [(.tmp 27),(.tmp 29)]⟩,
      ⟨(some 4),none,.mov (.tmp 30)⟩] [4])
    (.ret))
    (.seq (.ops [⟨(some 32),none,.mov (.tmp 5)⟩,
      ⟨(some 33),none,.mov (.tmp 0)⟩,
      ⟨(some 34),none,.len true (.tmp 33)⟩,
      ⟨(some 35),none,.bin .geq (.tmp 32) (.tmp 34)⟩,
      ⟨(some 31),none,.mov (.tmp 35)⟩] [0,1,5,31])
    (.cond (.tmp 31)
     (.seq (.ops [⟨(some 4),none,.mov (.const (.int .i64 (-1)))⟩] [4])
     (.ret))
     (.seq (.ops [⟨(some 37),none,.mov (.tmp 5)⟩,
       ⟨(some 38),none,.load none (.global 0)⟩,
       ⟨(some 39),none,.bin .leq (.tmp 37) (.tmp 38)⟩,
       ⟨(some 40),none,.mov (.tmp 39)⟩,
       ⟨(some 41),(some (40,true)),.mov (.tmp 0)⟩,
       ⟨(some 42),(some (40,true)),.len true (.tmp 41)⟩,
       ⟨(some 43),(some (40,true)),.bin .leq (.tmp 42) (.const (.int .i64 64))⟩,
       ⟨(some 44),none,.pick (.tmp 40) (.tmp 43) (.const (.bool false))⟩,
       ⟨(some 36),none,.mov (.tmp 44)⟩] [0,1,5,36])
     (.cond (.tmp 36)
      (.seq (.ops [⟨(some 45),none,.mov (.tmp 0)⟩,
        ⟨(some 46),none,.mov (.tmp 1)⟩,
        ⟨(some 47),none,.callF 80 [(.tmp 45),(.tmp 46)]⟩,
        ⟨(some 4),none,.mov (.tmp 47)⟩] [4])
      (.ret))
      (.skip))))))))))
 (.seq (.ops [⟨(some 48),none,.mov (.tmp 1)⟩,
   ⟨(some 49),none,.idxStr (.tmp 48) (.const (.int .i64 0))⟩,
   ⟨(some 6),none,.mov (.tmp 49)⟩] [0,1,5,6])
 (.seq (.ops [⟨(some 50),none,.mov (.tmp 1)⟩,
   ⟨(some 51),none,.idxStr (.tmp 50) (.const (.int .i64 1))⟩,
   ⟨(some 7),none,.mov (.tmp 51)⟩] [0,1,5,6,7])
 (.seq (.ops [⟨(some 8),none,.mov (.const (.int .i64 0))⟩] [0,1,5,6,7,8])
 (.seq (.ops [⟨(some 52),none,.mov (.tmp 0)⟩,
   ⟨(some 53),none,.len true (.tmp 52)⟩,
   ⟨(some 54),none,.mov (.tmp 5)⟩,
   ⟨(some 55),none,.bin .sub (.tmp 53) (.tmp 54)⟩,
   ⟨(some 56),none,.bin .add (.tmp 55) (.const (.int .i64 1))⟩,
   ⟨(some 9),none,.mov (.tmp 56)⟩] [0,1,5,6,7,8,9])
 (.seq (.ops [⟨(some 10),none,.mov (.const (.int .i64 0))⟩] [0,1,5,6,7,8,9,10])
 (.seq (.block 1
  (.loop [0,1,5,6,7,8,9,10]
   c68l0))
 (.seq (.ops [⟨(some 4),none,.mov (.const (.int .i64 (-1)))⟩] [4])
 (.ret)))))))))),
 143,[(4,none)],true⟩
theorem ok68:FunOK Tryd.prog 68 c68:=⟨⟨Tryd.f68,_,c68.code,Tryd.func68,rfl,by kernel_rfl,rfl,by kernel_rfl,by kernel_rfl⟩⟩
/- unicode/utf8.decodeRuneInStringSlow -/
def c78:AFun:=⟨
 .seq (.ops [⟨(some 2),none,.mov (.const (.int .i32 0))⟩,
   ⟨(some 3),none,.mov (.const (.int .i64 0))⟩] [0])
 (.seq (.ops [⟨(some 13),none,.mov (.tmp 0)⟩,
   ⟨(some 14),none,.len true (.tmp 13)⟩,
   ⟨(some 4),none,.mov (.tmp 14)⟩] [0,4])
 (.seq (.seq (.ops [⟨(some 15),none,.mov (.tmp 4)⟩,
   ⟨(some 16),none,.bin .lss (.tmp 15) (.const (.int .i64 1))⟩] [0,4,16])
 (.cond (.tmp 16)
  (.seq (.ops [⟨(some 2),none,.mov (.const (.int .i32 65533))⟩,
    ⟨(some 3),none,.mov (.const (.int .i64 0))⟩] [2,3])
  (.ret))
  (.skip)))
 (.seq (.ops [⟨(some 17),none,.mov (.tmp 0)⟩,
   ⟨(some 18),none,.idxStr (.tmp 17) (.const (.int .i64 0))⟩,
   ⟨(some 5),none,.mov (.tmp 18)⟩] [0,4,5])
 (.seq (.ops [⟨(some 19),none,.mov (.tmp 5)⟩,
   ⟨(some 20),none,.idxA 256 1 (.global 4) (.tmp 19)⟩,
   ⟨(some 21),none,.load none (.tmp 20)⟩,
   ⟨(some 6),none,.mov (.tmp 21)⟩] [0,4,5,6])
 (.seq (.seq (.ops [⟨(some 22),none,.mov (.tmp 6)⟩,
   ⟨(some 23),none,.bin .geq (.tmp 22) (.const (.int .u8 240))⟩] [0,4,5,6,23])
 (.cond (.tmp 23)
  (.seq (.ops [⟨(some 24),none,.mov (.tmp 6)⟩,
    ⟨(some 25),none,.convI .i32 (.tmp 24)⟩,
    ⟨(some 26),none,.bin .shl (.tmp 25) (.const (.int .u64 31))⟩,
    ⟨(some 27),none,.bin .shr (.tmp 26) (.const (.int .u64 31))⟩,
    ⟨(some 7),none,.mov (.tmp 27)⟩] [0,7])
  (.seq (.ops [⟨(some 28),none,.mov (.tmp 0)⟩,
    ⟨(some 29),none,.idxStr (.tmp 28) (.const (.int .i64 0))⟩,
    ⟨(some 30),none,.convI .i32 (.tmp 29)⟩,
    ⟨(some 31),none,.mov (.tmp 7)⟩,
    ⟨(some 32),none,.bin .andNot (.tmp 30) (.tmp 31)⟩,
    ⟨(some 33),none,.mov (.tmp 7)⟩,
    ⟨(some 34),none,.bin .and (.const (.int .i32 65533)) (.tmp 33)⟩,
    ⟨(some 35),none,.bin .or (.tmp 32) (.tmp 34)⟩,
    ⟨(some 2),none,.mov (.tmp 35)⟩,
    ⟨(some 3),none,.mov (.const (.int .i64 1))⟩] [2,3])
  (.ret)))
  (.skip)))
 (.seq (.ops [⟨(some 36),none,.mov (.tmp 6)⟩,
   ⟨(some 37),none,.bin .and (.tmp 36) (.const (.int .u8 7))⟩,
   ⟨(some 38),none,.convI .i64 (.tmp 37)⟩,
   ⟨(some 8),none,.mov (.tmp 38)⟩] [0,4,5,6,8])
 (.seq (.ops [⟨(some 39),none,.mov (.tmp 6)⟩,
   ⟨(some 40),none,.bin .shr (.tmp 39) (.const (.int .u64 4))⟩,
   ⟨(some 41),none,.idxA 16 2 (.global 5) (.tmp 40)⟩,
   ⟨(some 42),none,.load (some 2) (.tmp 41)⟩,
   ⟨(some 9),none,.alloc 140 [(2,(.int .u8 0))]⟩,
   ⟨none,none,.store 2 (.tmp 9) (.tmp 42)⟩] [0,4,5,8,9])
 (.seq (.seq (.ops [⟨(some 43),none,.mov (.tmp 4)⟩,
   ⟨(some 44),none,.mov (.tmp 8)⟩,
   ⟨(some 45),none,.bin .lss (.tmp 43) (.tmp 44)⟩] [0,5,8,9,45])
 (.cond (.tmp 45)
  (.seq (.ops [⟨(some 2),none,.mov (.const (.int .i32 65533))⟩,
    ⟨(some 3),none,.mov (.const (.int .i64 1))⟩] [2,3])
  (.ret))
  (.skip)))
 (.seq (.ops [⟨(some 46),none,.mov (.tmp 0)⟩,
   ⟨(some 47),none,.idxStr (.tmp 46) (.const (.int .i64 1))⟩,
   ⟨(some 10),none,.mov (.tmp 47)⟩] [0,5,8,9,10])
 (.seq (.seq (.ops [⟨(some 48),none,.mov (.tmp 10)⟩,
   ⟨(some 49),none,.fldA 0 (.tmp 9)⟩,
   ⟨(some 50),none,.load none (.tmp 49)⟩,
   ⟨(some 51),none,.bin .lss (.tmp 48) (.tmp 50)⟩,
   ⟨(some 52),none,.mov (.tmp 51)⟩,
   ⟨(some 53),(some (52,false)),.fldA 1 (.tmp 9)⟩,
   ⟨(some 54),(some (52,false)),.load none (.tmp 53)⟩,
   ⟨(some 55),(some (52,false)),.mov (.tmp 10)⟩,
   ⟨(some 56),(some (52,false)),.bin .lss (.tmp 54) (.tmp 55)⟩,
   ⟨(some 57),none,.pick (.tmp 52) (.const (.bool true)) (.tmp 56)⟩] [0,5,8,10,57])
 (.cond (.tmp 57)
  (.seq (.ops [⟨(some 2),none,.mov (.const (.int .i32 65533))⟩,
    ⟨(some 3),none,.mov (.const (.int .i64 1))⟩] [2,3])
  (.ret))
  (.skip)))
 (.seq (.seq (.ops [⟨(some 58),none,.mov (.tmp 8)⟩,
   ⟨(some 59),none,.bin .leq (.tmp 58) (.const (.int .i64 2))⟩] [0,5,8,10,59])
 (.cond (.tmp 59)
  (.seq (.ops [⟨(some 60),none,.mov (.tmp 5)⟩,
    ⟨(some 61),none,.bin .and (.tmp 60) (.const (.int .u8 31))⟩,
    ⟨(some 62),none,.convI .i32 (.tmp 61)⟩,
    ⟨(some 63),none,.bin .shl (.tmp 62) (.const (.int .u64 6))⟩,
    ⟨(some 64),none,.mov (.tmp 10)⟩,
    ⟨(some 65),none,.bin .and (.tmp 64) (.const (.int .u8 63))⟩,
    ⟨(some 66),none,.convI .i32 (.tmp 65)⟩,
    ⟨(some 67),none,.bin .or (.tmp 63) (.tmp 66)⟩,
    ⟨(some 2),none,.mov (.tmp 67)⟩,
    ⟨(some 3),none,.mov (.const (.int .i64 2))⟩] [2,3])
  (.ret))
  (.skip)))
 (.seq (.ops [⟨(some 68),none,.mov (.tmp 0)⟩,
   ⟨(some 69),none,.idxStr (.tmp 68) (.const (.int .i64 2))⟩,
   ⟨(some 11),none,.mov (.tmp 69)⟩] [0,5,8,10,11])
 (.seq (.seq (.ops [⟨(some 70),none,.mov (.tmp 11)⟩,
   ⟨(some 71),none,.bin .lss (.tmp 70) (.const (.int .u8 128))⟩,
   ⟨(some 72),none,.mov (.tmp 71)⟩,
   ⟨(some 73),(some (72,false)),.mov (.tmp 11)⟩,
   ⟨(some 74),(some (72,false)),.bin .lss (.const (.int .u8 191)) (.tmp 73)⟩,
   ⟨(some 75),none,.pick (.tmp 72) (.const (.bool true)) (.tmp 74)⟩] [0,5,8,10,11,75])
 (.cond (.tmp 75)
  (.seq (.ops [⟨(some 2),none,.mov (.const (.int .i32 65533))⟩,
    ⟨(some 3),none,.mov (.const (.int .i64 1))⟩] [2,3])
  (.ret))
  (.skip)))
 (.seq (.seq (.ops [⟨(some 76),none,.mov (.tmp 8)⟩,
   ⟨(some 77),none,.bin .leq (.tmp 76) (.const (.int .i64 3))⟩] [0,5,10,11,77])
 (.cond (.tmp 77)
  (.seq (.ops [⟨(some 78),none,.mov (.tmp 5)⟩,
    ⟨(some 79),none,.bin .and (.tmp 78) (.const (.int .u8 15))⟩,
    ⟨(some 80),none,.convI .i32 (.tmp 79)⟩,
    ⟨(some 81),none,.bin .shl (.tmp 80) (.const (.int .u64 12))⟩,
    ⟨(some 82),none,.mov (.tmp 10)⟩,
    ⟨(some 83),none,.bin .and (.tmp 82) (.const (.int .u8 63))⟩,
    ⟨(some 84),none,.convI .i32 (.tmp 83)⟩,
    ⟨(some 85),none,.bin .shl (.tmp 84) (.const (.int .u64 6))⟩,
    ⟨(some 86),none,.bin .or (.tmp 81) (.tmp 85)⟩,
    ⟨(some 87),none,.mov (.tmp 11)⟩,
    ⟨(some 88),none,.bin .and (.tmp 87) (.const (.int .u8 63))⟩,
    ⟨(some 89),none,.convI .i32 (.tmp 88)⟩,
    ⟨(some 90),none,.bin .or (.tmp 86) (.tmp 89)⟩,
    ⟨(some 2),none,.mov (.tmp 90)⟩,
    ⟨(some 3),none,.mov (.const (.int .i64 3))⟩] [2,3])
  (.ret))
  (.skip)))
 (.seq (.ops [⟨(some 91),none,.mov (.tmp 0)⟩,
   ⟨(some 92),none,.idxStr (.tmp 91) (.const (.int .i64 3))⟩,
   ⟨(some 12),none,.mov (.tmp 92)⟩] [5,10,11,12])
 (.seq (.seq (.ops [⟨(some 93),none,.mov (.tmp 12)⟩,
   ⟨(some 94),none,.bin .lss (.tmp 93) (.const (.int .u8 128))⟩,
   ⟨(some 95),none,.mov (.tmp 94)⟩,
   ⟨(some 96),(some (95,false)),.mov (.tmp 12)⟩,
   ⟨(some 97),(some (95,false)),.bin .lss (.const (.int .u8 191)) (.tmp 96)⟩,
   ⟨(some 98),none,.pick (.tmp 95) (.const (.bool true)) (.tmp 97)⟩] [5,10,11,12,98])
 (.cond (.tmp 98)
  (.seq (.ops [⟨(some 2),none,.mov (.const (.int .i32 65533))⟩,
    ⟨(some 3),none,.mov (.const (.int .i64 1))⟩] [2,3])
  (.ret))
  (.skip)))
 (.seq (.ops [⟨(some 99),none,.mov (.tmp 5)⟩,
   ⟨(some 100),none,.bin .and (.tmp 99) (.const (.int .u8 7))⟩,
   ⟨(some 101),none,.convI .i32 (.tmp 100)⟩,
   ⟨(some 102),none,.bin .shl (.tmp 101) (.const (.int .u64 18))⟩,
   ⟨(some 103),none,.mov (.tmp 10)⟩,
   ⟨(some 104),none,.bin .and (.tmp 103) (.const (.int .u8 63))⟩,
   ⟨(some 105),none,.convI .i32 (.tmp 104)⟩,
   ⟨(some 106),none,.bin .shl (.tmp 105) (.const (.int .u64 12))⟩,
   ⟨(some 107),none,.bin .or (.tmp 102) (.tmp 106)⟩,
   ⟨(some 108),none,.mov (.tmp 11)⟩,
   ⟨(some 109),none,.bin .and (.tmp 108) (.const (.int .u8 63))⟩,
   ⟨(some 110),none,.convI .i32 (.tmp 109)⟩,
   ⟨(some 111),none,.bin .shl (.tmp 110) (.const (.int .u64 6))⟩,
   ⟨(some 112),none,.bin .or (.tmp 107) (.tmp 111)⟩,
   ⟨(some 113),none,.mov (.tmp 12)⟩,
   ⟨(some 114),none,.bin .and (.tmp 113) (.const (.int .u8 63))⟩,
   ⟨(some 115),none,.convI .i32 (.tmp 114)⟩,
   ⟨(some 116),none,.bin .or (.tmp 112) (.tmp 115)⟩,
   ⟨(some 2),none,.mov (.tmp 116)⟩,
   ⟨(some 3),none,.mov (.const (.int .i64 4))⟩] [2,3])
 (.ret)))))))))))))))))),
 117,[(2,none),(3,none)],true⟩
theorem ok78:FunOK Tryd.prog 78 c78:=⟨⟨Tryd.f78,_,c78.code,Tryd.func78,rfl,by kernel_rfl,rfl,by kernel_rfl,by kernel_rfl⟩⟩
/- internal/stringslite.IndexByte -/
def c79:AFun:=⟨
 .seq (.ops [⟨(some 4),none,.mov (.const (.int .i64 0))⟩] [0,1])
 (.seq (.ops [⟨(some 5),none,.mov (.tmp 0)⟩,
   ⟨(some 6),none,.mov (.tmp 1)⟩,
   ⟨(some 7),none,.callF 91 [(.tmp 5),(.tmp 6)]⟩,
   ⟨(some 4),none,.mov (.tmp 7)⟩] [4])
 (.ret)),
 8,[(4,none)],true⟩
theorem ok79:FunOK Tryd.prog 79 c79:=⟨⟨Tryd.f79,_,c79.code,Tryd.func79,rfl,by kernel_rfl,rfl,by kernel_rfl,by kernel_rfl⟩⟩
/- internal/bytealg.Cutover -/
def c81:AFun:=⟨
 .seq (.ops [⟨(some 2),none,.mov (.const (.int .i64 0))⟩] [0])
 (.seq (.ops [⟨(some 3),none,.mov (.tmp 0)⟩,
   ⟨(some 4),none,.bin .add (.tmp 3) (.const (.int .i64 16))⟩,
   ⟨(some 5),none,.bin .quo (.tmp 4) (.const (.int .i64 8))⟩,
   ⟨(some 2),none,.mov (.tmp 5)⟩] [2])
 (.ret)),
 6,[(2,none)],true⟩
theorem ok81:FunOK Tryd.prog 81 c81:=⟨⟨Tryd.f81,_,c81.code,Tryd.func81,rfl,by kernel_rfl,rfl,by kernel_rfl,by kernel_rfl⟩⟩
/- internal/bytealg.IndexRabinKarp[string] -/
def c82l0:AC:=
 .seq (.seq (.ops [⟨(some 41),none,.mov (.tmp 10)⟩,
     ⟨(some 42),none,.mov (.tmp 0)⟩,
     ⟨(some 43),none,.len true (.tmp 42)⟩,
     ⟨(some 44),none,.bin .lss (.tmp 41) (.tmp 43)⟩] [0,1,5,6,7,8,10,44])
   (.cond (.tmp 44)
    (.skip)
    (.exit 2)))
   (.block 3
    (.seq (.ops [⟨(some 45),none,.mov (.tmp 8)⟩,
      ⟨(some 46),none,.bin .mul (.tmp 45) (.const (.int .u32 16777619))⟩,
      ⟨(some 8),none,.mov (.tmp 46)⟩] [0,1,5,6,7,8,10])
    (.seq (.ops [⟨(some 47),none,.mov (.tmp 8)⟩,
      ⟨(some 48),none,.mov (.tmp 0)⟩,
      ⟨(some 49),none,.mov (.tmp 10)⟩,
      ⟨(some 50),none,.idxStr (.tmp 48) (.tmp 49)⟩,
      ⟨(some 51),none,.convI .u32 (.tmp 50)⟩,
      ⟨(some 52),none,.bin .add (.tmp 47) (.tmp 51)⟩,
      ⟨(some 8),none,.mov (.tmp 52)⟩] [0,1,5,6,7,8,10])
    (.seq (.ops [⟨(some 53),none,.mov (.tmp 8)⟩,
      ⟨(some 54),none,.mov (.tmp 6)⟩,
      ⟨(some 55),none,.mov (.tmp 0)⟩,
      ⟨(some 56),none,.mov (.tmp 10)⟩,
      ⟨(some 57),none,.mov (.tmp 7)⟩,
      ⟨(some 58),none,.bin .sub (.tmp 56) (.tmp 57)⟩,
      ⟨(some 59),none,.idxStr (.tmp 55) (.tmp 58)⟩,
      ⟨(some 60),none,.convI .u32 (.tmp 59)⟩,
      ⟨(some 61),none,.bin .mul (.tmp 54) (.tmp 60)⟩,
      ⟨(some 62),none,.bin .sub (.tmp 53) (.tmp 61)⟩,
      ⟨(some 8),none,.mov (.tmp 62)⟩] [0,1,5,6,7,8,10])
    (.seq (.ops [⟨(some 63),none,.mov (.tmp 10)⟩,
      ⟨(some 64),none,.bin .add (.tmp 63) (.const (.int .i64 1))⟩,
      ⟨(some 10),none,.mov (.tmp 64)⟩] [0,1,5,6,7,8,10])
    (.seq (.ops [⟨(some 65),none,.mov (.tmp 8)⟩,
      ⟨(some 66),none,.mov (.tmp 5)⟩,
      ⟨(some 67),none,.bin .eql (.tmp 65) (.tmp 66)⟩,
      ⟨(some 68),none,.mov (.tmp 67)⟩,
      ⟨(some 69),(some (68,true)),.mov (.tmp 0)⟩,
      ⟨(some 70),(some (68,true)),.mov (.tmp 10)⟩,
      ⟨(some 71),(some (68,true)),.mov (.tmp 7)⟩,
      ⟨(some 72),(some (68,true)),.bin .sub (.tmp 70) (.tmp 71)⟩,
      ⟨(some 73),(some (68,true)),.mov (.tmp 10)⟩,
      ⟨(some 74),(some (68,true)),.slcS (.tmp 69) (some (.tmp 72)) (some (.tmp 73))⟩,
      ⟨(some 75),(some (68,true)),.mov (.tmp 1)⟩,
      ⟨(some 76),(some (68,true)),.bin .eql (.tmp 74) (.tmp 75)⟩,
      ⟨(some 77),none,.pick (.tmp 68) (.tmp 76) (.const (.bool false))⟩] [0,1,5,6,7,8,10,77])
    (.cond (.tmp 77)
     (.seq (.ops [⟨(some 78),none,.mov (.tmp 10)⟩,
       ⟨(some 79),none,.mov (.tmp 7)⟩,
       ⟨(some 80),none,.bin .sub (.tmp 78) (.tmp 79)⟩,
       ⟨(some 4),none,.mov (.tmp 80)⟩] [4])
     (.ret))
     (.skip))))))))
def c82l1:AC:=
 .seq (.seq (.ops [⟨(some 18),none,.mov (.tmp 9)⟩,
     ⟨(some 19),none,.mov (.tmp 7)⟩,
     ⟨(some 20),none,.bin .lss (.tmp 18) (.tmp 19)⟩] [0,1,5,6,7,8,9,20])
   (.cond (.tmp 20)
    (.skip)
    (.exit 0)))
   (.seq (.block 1
    (.ops [⟨(some 23),none,.mov (.tmp 8)⟩,
      ⟨(some 24),none,.bin .mul (.tmp 23) (.const (.int .u32 16777619))⟩,
      ⟨(some 25),none,.mov (.tmp 0)⟩,
      ⟨(some 26),none,.mov (.tmp 9)⟩,
      ⟨(some 27),none,.idxStr (.tmp 25) (.tmp 26)⟩,
      ⟨(some 28),none,.convI .u32 (.tmp 27)⟩,
      ⟨(some 29),none,.bin .add (.tmp 24) (.tmp 28)⟩,
      ⟨(some 8),none,.mov (.tmp 29)⟩] [0,1,5,6,7,8,9]))
   (.ops [⟨(some 21),none,.mov (.tmp 9)⟩,
     ⟨(some 22),none,.bin .add (.tmp 21) (.const (.int .i64 1))⟩,
     ⟨(some 9),none,.mov (.tmp 22)⟩] [0,1,5,6,7,8,9]))
def c82:AFun:=⟨
 .seq (.ops [⟨(some 4),none,.mov (.const (.int .i64 0))⟩] [0,1])
 (.seq (.ops [⟨(some 12),none,.mov (.tmp 1)⟩,
   ⟨(some 13),none,.callF 92 [(.tmp 12)]⟩,
   ⟨(some 11),none,.mov (.tmp 13)⟩,
   ⟨(some 14),none,.ext (.tmp 11) 0⟩,
   ⟨(some 15),none,.ext (.tmp 11) 1⟩,
   ⟨(some 5),none,.mov (.tmp 14)⟩,
   ⟨(some 6),none,.mov (.tmp 15)⟩] [0,1,5,6])
 (.seq (.ops [⟨(some 16),none,.mov (.tmp 1)⟩,
   ⟨(some 17),none,.len true (.tmp 16)⟩,
   ⟨(some 7),none,.mov (.tmp 17)⟩] [0,1,5,6,7])
 (.seq (.ops [⟨(some 8),none,.mov (.const (.int .u32 0))⟩] [0,1,5,6,7,8])
 (.seq (.seq (.ops [⟨(some 9),none,.mov (.const (.int .i64 0))⟩] [0,1,5,6,7,8,9])
 (.block 0
  (.loop [0,1,5,6,7,8,9]
   c82l1)))
 (.seq (.seq (.ops [⟨(some 30),none,.mov (.tmp 8)⟩,
   ⟨(some 31),none,.mov (.tmp 5)⟩,
   ⟨(some 32),none,.bin .eql (.tmp 30) (.tmp 31)⟩,
   ⟨(some 33),none,.mov (.tmp 32)⟩,
   ⟨(some 34),(some (33,true)),.mov (.tmp 0)⟩,
   ⟨(some 35),(some (33,true)),.mov (.tmp 7)⟩,
   ⟨(some 36),(some (33,true)),.slcS (.tmp 34) none (some (.tmp 35))⟩,
   ⟨(some 37),(some (33,true)),.mov (.tmp 1)⟩,
   ⟨(some 38),(some (33,true)),.bin .eql (.tmp 36) (.tmp 37)⟩,
   ⟨(some 39),none,.pick (.tmp 33) (.tmp 38) (.const (.bool false))⟩] [0,1,5,6,7,8,39])
 (.cond (.tmp 39)
  (.seq (.ops [⟨(some 4),none,.mov (.const (.int .i64 0))⟩] [4])
  (.ret))
  (.skip)))
 (.seq (.seq (.ops [⟨(some 40),none,.mov (.tmp 7)⟩,
   ⟨(some 10),none,.mov (.tmp 40)⟩] [0,1,5,6,7,8,10])
 (.block 2
  (.loop [0,1,5,6,7,8,10]
   c82l0)))
 (.seq (.ops [⟨(some 4),none,.mov (.const (.int .i64 (-1)))⟩] [4])
 (.ret)))))))),
 81,[(4,none)],true⟩
theorem ok82:FunOK Tryd.prog 82 c82:=⟨⟨Tryd.f82,_,c82.code,Tryd.func82,rfl,by kernel_rfl,rfl,by kernel_rfl,by kernel_rfl⟩⟩
/- internal/bytealg.hashStr[string] -/
def c92l0:AC:=
 .seq (.seq (.ops [⟨(some 24),none,.mov (.tmp 8)⟩,
     ⟨(some 25),none,.bin .gtr (.tmp 24) (.const (.int .i64 0))⟩] [4,6,7,8,25])
   (.cond (.tmp 25)
    (.skip)
    (.exit 2)))
   (.seq (.block 3
    (.seq (.seq (.ops [⟨(some 28),none,.mov (.tmp 8)⟩,
      ⟨(some 29),none,.bin .and (.tmp 28) (.const (.int .i64 1))⟩,
      ⟨(some 30),none,.bin .neq (.tmp 29) (.const (.int .i64 0))⟩] [4,6,7,8,30])
    (.cond (.tmp 30)
     (.ops [⟨(some 31),none,.mov (.tmp 6)⟩,
       ⟨(some 32),none,.mov (.tmp 7)⟩,
       ⟨(some 33),none,.bin .mul (.tmp 31) (.tmp 32)⟩,
       ⟨(some 6),none,.mov (.tmp 33)⟩] [4,6,7,8])
     (.skip)))
    (.ops [⟨(some 34),none,.mov (.tmp 7)⟩,
      ⟨(some 35),none,.mov (.tmp 7)⟩,
      ⟨(some 36),none,.bin .mul (.tmp 34) (.tmp 35)⟩,
      ⟨(some 7),none,.mov (.tmp 36)⟩] [4,6,7,8])))
   (.ops [⟨(some 26),none,.mov (.tmp 8)⟩,
     ⟨(some 27),none,.bin .shr (.tmp 26) (.const (.int .u64 1))⟩,
     ⟨(some 8),none,.mov (.tmp 27)⟩] [4,6,7,8]))
def c92l1:AC:=
 .seq (.seq (.ops [⟨(some 9),none,.mov (.tmp 5)⟩,
     ⟨(some 10),none,.mov (.tmp 0)⟩,
     ⟨(some 11),none,.len true (.tmp 10)⟩,
     ⟨(some 12),none,.bin .lss (.tmp 9) (.tmp 11)⟩] [0,4,5,12])
   (.cond (.tmp 12)
    (.skip)
    (.exit 0)))
   (.seq (.block 1
    (.ops [⟨(some 15),none,.mov (.tmp 4)⟩,
      ⟨(some 16),none,.bin .mul (.tmp 15) (.const (.int .u32 16777619))⟩,
      ⟨(some 17),none,.mov (.tmp 0)⟩,
      ⟨(some 18),none,.mov (.tmp 5)⟩,
      ⟨(some 19),none,.idxStr (.tmp 17) (.tmp 18)⟩,
      ⟨(some 20),none,.convI .u32 (.tmp 19)⟩,
      ⟨(some 21),none,.bin .add (.tmp 16) (.tmp 20)⟩,
      ⟨(some 4),none,.mov (.tmp 21)⟩] [0,4,5]))
   (.ops [⟨(some 13),none,.mov (.tmp 5)⟩,
     ⟨(some 14),none,.bin .add (.tmp 13) (.const (.int .i64 1))⟩,
     ⟨(some 5),none,.mov (.tmp 14)⟩] [0,4,5]))
def c92:AFun:=⟨
 .seq (.ops [⟨(some 2),none,.mov (.const (.int .u32 0))⟩,
   ⟨(some 3),none,.mov (.const (.int .u32 0))⟩] [0])
 (.seq (.ops [⟨(some 4),none,.mov (.const (.int .u32 0))⟩] [0,4])
 (.seq (.seq (.ops [⟨(some 5),none,.mov (.const (.int .i64 0))⟩] [0,4,5])
 (.block 0
  (.loop [0,4,5]
   c92l1)))
 (.seq (.ops [⟨(some 6),none,.mov (.const (.int .u32 1))⟩,
   ⟨(some 7),none,.mov (.const (.int .u32 16777619))⟩] [0,4,6,7])
 (.seq (.seq (.ops [⟨(some 22),none,.mov (.tmp 0)⟩,
   ⟨(some 23),none,.len true (.tmp 22)⟩,
   ⟨(some 8),none,.mov (.tmp 23)⟩] [4,6,7,8])
 (.block 2
  (.loop [4,6,7,8]
   c92l0)))
 (.seq (.ops [⟨(some 37),none,.mov (.tmp 4)⟩,
   ⟨(some 38),none,.mov (.tmp 6)⟩,
   ⟨(some 2),none,.mov (.tmp 37)⟩,
   ⟨(some 3),none,.mov (.tmp 38)⟩] [2,3])
 (.ret)))))),
 39,[(2,none),(3,none)],true⟩
theorem ok92:FunOK Tryd.prog 92 c92:=⟨⟨Tryd.f92,_,c92.code,Tryd.func92,rfl,by kernel_rfl,rfl,by kernel_rfl,by kernel_rfl⟩⟩
def fns:FuncId→Option AFun
 |6=>some c6
 |12=>some c12
 |14=>some c14
 |21=>some c21
 |28=>some c28
 |29=>some c29
 |30=>some c30
 |31=>some c31
 |33=>some c33
 |34=>some c34
 |35=>some c35
 |37=>some c37
 |38=>some c38
 |39=>some c39
 |40=>some c40
 |41=>some c41
 |46=>some c46
 |47=>some c47
 |48=>some c48
 |50=>some c50
 |52=>some c52
 |53=>some c53
 |55=>some c55
 |56=>some c56
 |57=>some c57
 |58=>some c58
 |63=>some c63
 |64=>some c64
 |65=>some c65
 |66=>some c66
 |67=>some c67
 |68=>some c68
 |78=>some c78
 |79=>some c79
 |81=>some c81
 |82=>some c82
 |92=>some c92
 |_=>none
theorem fns_ok:FunsOK Tryd.prog fns:=by
 intro f af h
 unfold fns at h
 split at h
 ·cases h;exact ok6
 ·cases h;exact ok12
 ·cases h;exact ok14
 ·cases h;exact ok21
 ·cases h;exact ok28
 ·cases h;exact ok29
 ·cases h;exact ok30
 ·cases h;exact ok31
 ·cases h;exact ok33
 ·cases h;exact ok34
 ·cases h;exact ok35
 ·cases h;exact ok37
 ·cases h;exact ok38
 ·cases h;exact ok39
 ·cases h;exact ok40
 ·cases h;exact ok41
 ·cases h;exact ok46
 ·cases h;exact ok47
 ·cases h;exact ok48
 ·cases h;exact ok50
 ·cases h;exact ok52
 ·cases h;exact ok53
 ·cases h;exact ok55
 ·cases h;exact ok56
 ·cases h;exact ok57
 ·cases h;exact ok58
 ·cases h;exact ok63
 ·cases h;exact ok64
 ·cases h;exact ok65
 ·cases h;exact ok66
 ·cases h;exact ok67
 ·cases h;exact ok68
 ·cases h;exact ok78
 ·cases h;exact ok79
 ·cases h;exact ok81
 ·cases h;exact ok82
 ·cases h;exact ok92
 ·cases h
end Go.Proofs.YtgglaaldlegckaaDoor
namespace Go.Proofs.YtgglaaldlegckaaDoor
open Go Go.Itp
set_option maxRecDepth 100000
def prims0:List (FuncId × Prim × TypeId):= [(61,.same,0),(91,.indexByte,0)]
theorem prims_all:AllPrims Tryd.prog prims0:=
 ⟨⟨⟨Tryd.f61,Tryd.func61,by kernel_rfl,by kernel_rfl,by kernel_rfl,rfl⟩⟩,⟨⟨Tryd.f91,Tryd.func91,by kernel_rfl,by kernel_rfl,by kernel_rfl,rfl⟩⟩,trivial⟩
end Go.Proofs.YtgglaaldlegckaaDoor
/-
  DERIVED: THE SHELF's CONTRACTS AT THIS DUMP, IN PLAIN WORDS (tools/lay-plain.mjs out of 'TrydShelf.lean', which tools/lay-shelf.mjs wrote): THE SAME DECLARATIONS UNDER THE SAME NAMES: 'import', 'namespace', 'open', 'def', 'theorem' AND NOTHING ELSE: no command of the shelf's: FOR A HAND-IN. Each laying: the table of numbers ('.._ren') and one theorem, a field a fact of the dump's own or the kernel's comparison; each contract: ONE APPLICATION.
-/
namespace Go.Proofs
open Go.Shelf
def Tryd.laysM171_ren:Go.Shelf.Ren:=⟨fun|171=>36|243=>54|246=>62|283=>74|284=>75|285=>76|286=>77|129=>87|317=>86|318=>88|319=>89|320=>90|337=>95|338=>96|n=>n,fun|3=>3|9=>9|2=>2|4=>4|171=>121|0=>0|53=>108|37=>64|5=>5|173=>124|212=>135|51=>105|20=>20|213=>136|46=>97|232=>148|233=>149|n=>n,fun|17=>3|18=>6|19=>7|n=>n⟩
theorem Tryd.laysM171:Go.Proofs.LaysM.n171 Tryd.prog Tryd.laysM171_ren:={
 mixed:=by kernel_rfl
 f129:=Tryd.func87.trans (congrArg some (by kernel_rfl))
 f171:=Tryd.func36.trans (congrArg some (by kernel_rfl))
 f243:=Tryd.func54.trans (congrArg some (by kernel_rfl))
 f246:=Tryd.func62.trans (congrArg some (by kernel_rfl))
 f283:=Tryd.func74.trans (congrArg some (by kernel_rfl))
 f284:=Tryd.func75.trans (congrArg some (by kernel_rfl))
 f285:=Tryd.func76.trans (congrArg some (by kernel_rfl))
 f286:=Tryd.func77.trans (congrArg some (by kernel_rfl))
 f317:=Tryd.func86.trans (congrArg some (by kernel_rfl))
 f318:=Tryd.func88.trans (congrArg some (by kernel_rfl))
 f319:=Tryd.func89.trans (congrArg some (by kernel_rfl))
 f320:=Tryd.func90.trans (congrArg some (by kernel_rfl))
 f337:=Tryd.func95.trans (congrArg some (by kernel_rfl))
 f338:=Tryd.func96.trans (congrArg some (by kernel_rfl))
 t0:=Tryd.underlying0
 a0:=Tryd.isAgg0
 z0:=Tryd.sizeOf0
 v0:=Tryd.zeroValue0
 t2:=Tryd.underlying2
 a2:=Tryd.isAgg2
 z2:=Tryd.sizeOf2
 v2:=Tryd.zeroValue2
 t3:=Tryd.underlying3
 a3:=Tryd.isAgg3
 z3:=Tryd.sizeOf3
 v3:=Tryd.zeroValue3
 t4:=Tryd.underlying4
 a4:=Tryd.isAgg4
 z4:=Tryd.sizeOf4
 v4:=Tryd.zeroValue4
 t5:=Tryd.underlying5
 a5:=Tryd.isAgg5
 z5:=Tryd.sizeOf5
 v5:=Tryd.zeroValue5
 t9:=Tryd.underlying9
 a9:=Tryd.isAgg9
 z9:=Tryd.sizeOf9
 v9:=Tryd.zeroValue9
 t20:=Tryd.underlying20
 a20:=Tryd.isAgg20
 z20:=Tryd.sizeOf20
 v20:=Tryd.zeroValue20
 t37:=Tryd.underlying64
 a37:=Tryd.isAgg64
 z37:=Tryd.sizeOf64
 v37:=Tryd.zeroValue64
 t46:=Tryd.underlying97
 a46:=Tryd.isAgg97
 z46:=Tryd.sizeOf97
 v46:=Tryd.zeroValue97
 t51:=Tryd.underlying105
 a51:=Tryd.isAgg105
 z51:=Tryd.sizeOf105
 v51:=Tryd.zeroValue105
 t53:=Tryd.underlying108
 a53:=Tryd.isAgg108
 z53:=Tryd.sizeOf108
 v53:=Tryd.zeroValue108
 t171:=Tryd.underlying121
 a171:=Tryd.isAgg121
 z171:=Tryd.sizeOf121
 v171:=Tryd.zeroValue121
 t173:=Tryd.underlying124
 a173:=Tryd.isAgg124
 z173:=Tryd.sizeOf124
 v173:=Tryd.zeroValue124
 t212:=Tryd.underlying135
 a212:=Tryd.isAgg135
 z212:=Tryd.sizeOf135
 v212:=Tryd.zeroValue135
 t213:=Tryd.underlying136
 a213:=Tryd.isAgg136
 z213:=Tryd.sizeOf136
 t232:=Tryd.underlying148
 a232:=Tryd.isAgg148
 z232:=Tryd.sizeOf148
 v232:=Tryd.zeroValue148
 t233:=Tryd.underlying149
 a233:=Tryd.isAgg149
 z233:=Tryd.sizeOf149
 v233:=Tryd.zeroValue149
 g17:=by kernel_rfl
 g18:=by kernel_rfl
 g19:=by kernel_rfl
 i0:=by kernel_rfl
 i2:=by kernel_rfl
 i3:=by kernel_rfl
 i4:=by kernel_rfl
 i5:=by kernel_rfl
 i9:=by kernel_rfl
 i20:=by kernel_rfl
 i37:=by kernel_rfl
 i46:=by kernel_rfl
 i51:=by kernel_rfl
 i53:=by kernel_rfl
 i171:=by kernel_rfl
 i173:=by kernel_rfl
 i212:=by kernel_rfl
 i232:=by kernel_rfl
 i233:=by kernel_rfl
 m17:=by kernel_rfl
 m18:=by kernel_rfl
 m19:=by kernel_rfl}
open Go.RowKit Go.Sort Go.Lib in
theorem Tryd.strconv_Itoa (n:Int) (h0: -9223372036854775808≤n) (h1:n≤9223372036854775807) (w:World) (htab:Lib.TabIs Tryd.prog w "internal/strconv.uint64pow10" .u64 Lib.pow10Tab):
  Calls Tryd.prog 36 #[.int .i64 n] w fun e w'=>e= .returned (.string ⟨(Lib.itoa n).toArray⟩)∧∃ k os,w'=grow (w.drewN k) os:=Any.strconv_Itoa Tryd.laysM171 n h0 h1 w htab
def Tryd.laysC172_ren:Go.Shelf.Ren:=⟨fun|172=>49|244=>59|245=>60|247=>69|279=>70|280=>71|281=>72|282=>73|287=>83|316=>84|171=>36|205=>85|321=>93|322=>94|243=>54|246=>62|283=>74|284=>75|285=>76|286=>77|129=>87|317=>86|318=>88|319=>89|320=>90|337=>95|338=>96|n=>n,fun|9=>9|3=>3|75=>70|76=>71|4=>4|5=>5|167=>115|37=>64|0=>0|85=>116|2=>2|168=>118|53=>108|175=>128|46=>97|210=>132|127=>92|145=>146|143=>144|21=>21|171=>121|173=>124|212=>135|51=>105|20=>20|213=>136|232=>148|233=>149|80=>73|n=>n,fun|15=>1|16=>2|17=>3|18=>6|19=>7|n=>n⟩
theorem Tryd.laysC172:Go.Proofs.LaysC.n172 Tryd.prog Tryd.laysC172_ren:={
 mixed:=by kernel_rfl
 f129:=Tryd.func87.trans (congrArg some (by kernel_rfl))
 f171:=Tryd.func36.trans (congrArg some (by kernel_rfl))
 f172:=Tryd.func49.trans (congrArg some (by kernel_rfl))
 f205:=Tryd.func85.trans (congrArg some (by kernel_rfl))
 f243:=Tryd.func54.trans (congrArg some (by kernel_rfl))
 f244:=Tryd.func59.trans (congrArg some (by kernel_rfl))
 f245:=Tryd.func60.trans (congrArg some (by kernel_rfl))
 f246:=Tryd.func62.trans (congrArg some (by kernel_rfl))
 f247:=Tryd.func69.trans (congrArg some (by kernel_rfl))
 f279:=Tryd.func70.trans (congrArg some (by kernel_rfl))
 f280:=Tryd.func71.trans (congrArg some (by kernel_rfl))
 f281:=Tryd.func72.trans (congrArg some (by kernel_rfl))
 f282:=Tryd.func73.trans (congrArg some (by kernel_rfl))
 f283:=Tryd.func74.trans (congrArg some (by kernel_rfl))
 f284:=Tryd.func75.trans (congrArg some (by kernel_rfl))
 f285:=Tryd.func76.trans (congrArg some (by kernel_rfl))
 f286:=Tryd.func77.trans (congrArg some (by kernel_rfl))
 f287:=Tryd.func83.trans (congrArg some (by kernel_rfl))
 f316:=Tryd.func84.trans (congrArg some (by kernel_rfl))
 f317:=Tryd.func86.trans (congrArg some (by kernel_rfl))
 f318:=Tryd.func88.trans (congrArg some (by kernel_rfl))
 f319:=Tryd.func89.trans (congrArg some (by kernel_rfl))
 f320:=Tryd.func90.trans (congrArg some (by kernel_rfl))
 f321:=Tryd.func93.trans (congrArg some (by kernel_rfl))
 f322:=Tryd.func94.trans (congrArg some (by kernel_rfl))
 f337:=Tryd.func95.trans (congrArg some (by kernel_rfl))
 f338:=Tryd.func96.trans (congrArg some (by kernel_rfl))
 t0:=Tryd.underlying0
 a0:=Tryd.isAgg0
 z0:=Tryd.sizeOf0
 v0:=Tryd.zeroValue0
 t2:=Tryd.underlying2
 a2:=Tryd.isAgg2
 z2:=Tryd.sizeOf2
 v2:=Tryd.zeroValue2
 t3:=Tryd.underlying3
 a3:=Tryd.isAgg3
 z3:=Tryd.sizeOf3
 v3:=Tryd.zeroValue3
 t4:=Tryd.underlying4
 a4:=Tryd.isAgg4
 z4:=Tryd.sizeOf4
 v4:=Tryd.zeroValue4
 t5:=Tryd.underlying5
 a5:=Tryd.isAgg5
 z5:=Tryd.sizeOf5
 v5:=Tryd.zeroValue5
 t9:=Tryd.underlying9
 a9:=Tryd.isAgg9
 z9:=Tryd.sizeOf9
 v9:=Tryd.zeroValue9
 t20:=Tryd.underlying20
 a20:=Tryd.isAgg20
 z20:=Tryd.sizeOf20
 v20:=Tryd.zeroValue20
 t21:=Tryd.underlying21
 a21:=Tryd.isAgg21
 z21:=Tryd.sizeOf21
 v21:=Tryd.zeroValue21
 t37:=Tryd.underlying64
 a37:=Tryd.isAgg64
 z37:=Tryd.sizeOf64
 v37:=Tryd.zeroValue64
 t46:=Tryd.underlying97
 a46:=Tryd.isAgg97
 z46:=Tryd.sizeOf97
 v46:=Tryd.zeroValue97
 t51:=Tryd.underlying105
 a51:=Tryd.isAgg105
 z51:=Tryd.sizeOf105
 v51:=Tryd.zeroValue105
 t53:=Tryd.underlying108
 a53:=Tryd.isAgg108
 z53:=Tryd.sizeOf108
 v53:=Tryd.zeroValue108
 t75:=Tryd.underlying70
 a75:=Tryd.isAgg70
 z75:=Tryd.sizeOf70
 v75:=Tryd.zeroValue70
 t76:=Tryd.underlying71
 a76:=Tryd.isAgg71
 z76:=Tryd.sizeOf71
 v76:=Tryd.zeroValue71
 t85:=Tryd.underlying116
 a85:=Tryd.isAgg116
 z85:=Tryd.sizeOf116
 v85:=Tryd.zeroValue116
 t127:=Tryd.underlying92
 a127:=Tryd.isAgg92
 z127:=Tryd.sizeOf92
 v127:=Tryd.zeroValue92
 t143:=Tryd.underlying144
 a143:=Tryd.isAgg144
 z143:=Tryd.sizeOf144
 v143:=Tryd.zeroValue144
 t145:=Tryd.underlying146
 a145:=Tryd.isAgg146
 z145:=Tryd.sizeOf146
 v145:=Tryd.zeroValue146
 t167:=Tryd.underlying115
 a167:=Tryd.isAgg115
 z167:=Tryd.sizeOf115
 v167:=Tryd.zeroValue115
 t168:=Tryd.underlying118
 a168:=Tryd.isAgg118
 z168:=Tryd.sizeOf118
 v168:=Tryd.zeroValue118
 t171:=Tryd.underlying121
 a171:=Tryd.isAgg121
 z171:=Tryd.sizeOf121
 v171:=Tryd.zeroValue121
 t173:=Tryd.underlying124
 a173:=Tryd.isAgg124
 z173:=Tryd.sizeOf124
 v173:=Tryd.zeroValue124
 t175:=Tryd.underlying128
 a175:=Tryd.isAgg128
 z175:=Tryd.sizeOf128
 v175:=Tryd.zeroValue128
 t210:=Tryd.underlying132
 a210:=Tryd.isAgg132
 z210:=Tryd.sizeOf132
 v210:=Tryd.zeroValue132
 t212:=Tryd.underlying135
 a212:=Tryd.isAgg135
 z212:=Tryd.sizeOf135
 v212:=Tryd.zeroValue135
 t213:=Tryd.underlying136
 a213:=Tryd.isAgg136
 z213:=Tryd.sizeOf136
 t232:=Tryd.underlying148
 a232:=Tryd.isAgg148
 z232:=Tryd.sizeOf148
 v232:=Tryd.zeroValue148
 t233:=Tryd.underlying149
 a233:=Tryd.isAgg149
 z233:=Tryd.sizeOf149
 v233:=Tryd.zeroValue149
 g15:=by kernel_rfl
 g16:=by kernel_rfl
 g17:=by kernel_rfl
 g18:=by kernel_rfl
 g19:=by kernel_rfl
 t80:=Tryd.underlying73
 a80:=Tryd.isAgg73
 z80:=Tryd.sizeOf73
 v80:=Tryd.zeroValue73
 i0:=by kernel_rfl
 i2:=by kernel_rfl
 i3:=by kernel_rfl
 i4:=by kernel_rfl
 i5:=by kernel_rfl
 i9:=by kernel_rfl
 i20:=by kernel_rfl
 i21:=by kernel_rfl
 i37:=by kernel_rfl
 i46:=by kernel_rfl
 i51:=by kernel_rfl
 i53:=by kernel_rfl
 i75:=by kernel_rfl
 i76:=by kernel_rfl
 i80:=by kernel_rfl
 i85:=by kernel_rfl
 i127:=by kernel_rfl
 i143:=by kernel_rfl
 i145:=by kernel_rfl
 i167:=by kernel_rfl
 i168:=by kernel_rfl
 i171:=by kernel_rfl
 i173:=by kernel_rfl
 i175:=by kernel_rfl
 i210:=by kernel_rfl
 i212:=by kernel_rfl
 i232:=by kernel_rfl
 i233:=by kernel_rfl
 m15:=by kernel_rfl
 m16:=by kernel_rfl
 m17:=by kernel_rfl
 m18:=by kernel_rfl
 m19:=by kernel_rfl
 c0:=by kernel_rfl
 c2:=by kernel_rfl
 c3:=by kernel_rfl
 c4:=by kernel_rfl
 c5:=by kernel_rfl
 c9:=by kernel_rfl
 c20:=by kernel_rfl
 c21:=by kernel_rfl
 c37:=by kernel_rfl
 c46:=by kernel_rfl
 c51:=by kernel_rfl
 c53:=by kernel_rfl
 c75:=by kernel_rfl
 c76:=by kernel_rfl
 c80:=by kernel_rfl
 c85:=by kernel_rfl
 c127:=by kernel_rfl
 c143:=by kernel_rfl
 c145:=by kernel_rfl
 c167:=by kernel_rfl
 c168:=by kernel_rfl
 c171:=by kernel_rfl
 c173:=by kernel_rfl
 c175:=by kernel_rfl
 c210:=by kernel_rfl
 c212:=by kernel_rfl
 c213:=by kernel_rfl
 c232:=by kernel_rfl
 c233:=by kernel_rfl}
open Go.RowKit in
theorem Tryd.strconv_Atoi_ok (s:ByteArray) (hmax:s.size≤9223372036854775806) (v:Int) (h:Lib.atoiAll s.data.toList= .ok v) (w:World):
  Calls Tryd.prog 49 #[.string s] w fun e w'=>e= .returned (.tuple #[.int .i64 v,.nilIface])∧(w'=w∨∃ t,w'=Lib.bytesWorld w 5 t):=Any.strconv_Atoi_ok Tryd.laysC172 s hmax v h w
open Go.RowKit in
theorem Tryd.strconv_Atoi_syntax_var (s:ByteArray) (hlim:s.size≤281474976710656) (h:Lib.atoiAll s.data.toList=Lib.atoiAll []) (tp:TypeId) (p:Value) (w:World) (hvar:w.var? Tryd.prog "strconv.ErrSyntax"=some #[.iface tp p]):
  Calls Tryd.prog 49 #[.string s] w fun e w'=>∃ N,e= .returned (.tuple #[.int .i64 0,.iface 118 (.pointer (some ⟨N,0,none⟩))])∧w.heap.size≤N∧w'.heap[N]? =some (.cells #[.string ⟨#[65,116,111,105]⟩,.string s,.iface tp p] 132 (0,0))∧Below w.heap.size w w':=Any.strconv_Atoi_syntax_var Tryd.laysC172 s hlim h tp p w hvar
open Go.RowKit in
theorem Tryd.strconv_Atoi_range_var (s:ByteArray) (hlim:s.size≤281474976710656) (h:Lib.atoiAll s.data.toList= .range) (tp:TypeId) (p:Value) (w:World) (hvar:w.var? Tryd.prog "strconv.ErrRange"=some #[.iface tp p]):
  Calls Tryd.prog 49 #[.string s] w fun e w'=>∃ N,e= .returned (.tuple #[.int .i64 (Lib.atoiSat s.data.toList),.iface 118 (.pointer (some ⟨N,0,none⟩))])∧w.heap.size≤N∧w'.heap[N]? =some (.cells #[.string ⟨#[65,116,111,105]⟩,.string s,.iface tp p] 132 (0,0))∧Below w.heap.size w w':=Any.strconv_Atoi_range_var Tryd.laysC172 s hlim h tp p w hvar
end Go.Proofs
namespace Go.Proofs.YtgglaaldlegckaaDoor
open Go Go.Itp
open Go.RowKit (Below)
set_option linter.unusedVariables false
set_option maxRecDepth 100000
theorem own:ownKnob Tryd.prog.godebug=none:=by kernel_rfl
theorem mixed:Tryd.prog.follows .mixedOrders=true:=by kernel_rfl
def known:List (FuncId × List Value × Bool):= []
def noOld:Nat→Nat→Option Value:=fun _ _=>none
theorem old_none (W:World):OldIs noOld W:=fun b o v e=>by cases e
theorem known_ok:Answers Tryd.prog noOld known:=trivial
noncomputable abbrev PR (w:World):FuncId→List Value→St→Option (Value × List Blk):=
 orElseP (primT known) (orElseP (primsOf prims0) (orElseP (itoaP 36) (atoiP 49 118 132 (errO Tryd.prog w "strconv.ErrSyntax") (errO Tryd.prog w "strconv.ErrRange"))))
noncomputable abbrev EN (w:World) (n:Nat):Env:=callP (oldOf w) many fns (PR w) n
abbrev Tab (w:World):Prop:=Lib.TabIs Tryd.prog w "internal/strconv.uint64pow10" .u64 Lib.pow10Tab
theorem prims_ok (W:World) (ht:Tab W):PrimsOK Tryd.prog (PR W) W:=
 orElse_ok (primT_ok (old_none W) known known_ok) (orElse_ok (primsOf_ok prims0 prims_all W) (orElse_ok
  (itoaP_ok ⟨Tryd.f36,_,Tryd.func36,rfl,by kernel_rfl⟩ ht Tryd.strconv_Itoa)
  (atoiP_ok (u8:=5) ⟨Tryd.f49,_,Tryd.func49,rfl,by kernel_rfl⟩ Tryd.strconv_Atoi_ok Tryd.strconv_Atoi_syntax_var Tryd.strconv_Atoi_range_var)))
theorem law_of {W:World} (ht:Tab W) {f:FuncId} {af:AFun} (hf:fns f=some af) {xs:List Value} (hxs:idsL 0 xs= []) (n:Nat) {v:Value} {s':St} (hb:body (EN W n) af xs St.empty=some (v,s')) (hv:ids 0 v= []):
  Calls Tryd.prog f xs.toArray W fun e w'=>e= .returned v∧Below W.heap.size W w':=
 law_at mixed fns_ok (oldOf_ok W) (prims_ok W ht) hf hxs n hb hv
theorem itoa_s (w:World) (n:Nat) (st:VSt) (k:Int) (h0: -9223372036854775808≤k) (h1:k≤9223372036854775807):VSpecO (EN w (n+1)) 36 st [.sc (.int .i64 k)] (.sc (.string ⟨(Lib.itoa k).toArray⟩)):=
 itoa_o h0 h1 fun xs s r h=>orElse_right rfl (orElse_right rfl (orElse_left h))
theorem atoi_s (w:World) (n:Nat) (st:VSt) (b:ByteArray) (v:Int) (hb:b.size≤281474976710656) (h:Lib.atoiAll b.data.toList= .ok v):VSpecO (EN w (n+1)) 49 st [.sc (.string b)] (.tup [.sc (.int .i64 v),.sc .nilIface]):=
 atoi_o hb h fun xs s r h=>orElse_right rfl (orElse_right rfl (orElse_right rfl h))
theorem atoi_f (w:World) (n:Nat) (b:ByteArray) (hb:b.size≤281474976710656) (hes:(errO Tryd.prog w "strconv.ErrSyntax").isSome=true) (her:(errO Tryd.prog w "strconv.ErrRange").isSome=true) (h:∀ v,Lib.atoiAll b.data.toList ≠ .ok v):
  ∃ (k:Int) (cs:List Value),VSpec (EN w (n+1)) 49 [.sc (.string b)] (.tup [.sc (.int .i64 k),.ifc 118 (.ptr 0 0)]) ⟨[(0,.box 132 1 (cs.map V.sc))],1,0⟩:=
 atoi_e hb (errO_ok hes) (errO_ok her) h fun xs s r h=>orElse_right rfl (orElse_right rfl (orElse_right rfl h))
end Go.Proofs.YtgglaaldlegckaaDoor
namespace Go.Proofs.YtgglaaldlegckaaDoor
open Go Go.Itp
set_option maxRecDepth 100000
set_option maxHeartbeats 1000000
set_option linter.unusedSimpArgs false
def col (x:Int):Bool:=decide (0≤x) && decide (x≤15)
def chk (l:List Int):Int:=if 4000<l.length then 4 else if l.all col then 0 else 8
def fb (l:List Int):Int:=if l.all col then -1 else (l.findIdx (fun x=> !col x):Nat)
theorem fb_at {l:List Int} {k:Nat} (hk:k<l.length) (h:∀ j,j<k→col l[j]! =true) (h2:col l[k]! =false):fb l=k:=by
 unfold fb
 rw[getElem!_pos l k hk] at h2
 rw[if_neg (fun h=>by rw[List.all_eq_true] at h;have:=h _ (List.getElem_mem hk);rw[h2] at this;cases this)]
 congr 1
 rw[List.findIdx_eq hk]
 refine ⟨by simp[h2],fun j hj=>?_⟩
 have:=h j hj
 rw[getElem!_pos l j (by omega)] at this
 simp[this]
theorem fb_end {l:List Int} (h:∀ j,j<l.length→col l[j]! =true):fb l= -1∧l.all col=true:=by
 have:l.all col=true:=by
  rw[List.all_eq_true]
  intro x hx
  obtain ⟨j,hj,rfl⟩:=List.getElem_of_mem hx
  have:=h j hj
  rwa [getElem!_pos l j hj] at this
 exact ⟨if_pos this,this⟩
section
variable (w:World) (n:Nat)
theorem colour_p (x:Int):VSpec (EN w (n+1)) 41 [.sc (.int .i64 x)] (.sc (.bool (col x))) ⟨[],0,0⟩:=by
 refine vspec_flat rfl rfl (fun _ _=>rfl) (Nat.le_of_ble_eq_true rfl) (oldVals w) rfl fun C hC h0=>?_
 by_cases h1:0≤x<;>by_cases h2:x≤15
 all_goals
  have e:col x=(decide (0≤x) && decide (x≤15)):=rfl
  simp only[h1,h2,decide_true,decide_false,Bool.and_true,Bool.and_false,Bool.true_and,Bool.false_and] at e
  rw[e]
  repeat' (first|(simp (disch:=first|omega|assumption|(refine @id ((_:Bool)=_) ?_;exact id (by with_unfolding_all rfl))|(exact Or.inl rfl)|(exact Or.inl trivial)|(exact okL_map _ (fun _=>rfl) _)|(simp only[VVlen]<;>omega)|fail) only[VV0,VV1,VV2,VV3,VV4,VV5,VV6,VV7,VV8,VV9,mkFnV,vargs,slotsL,opdsA,Nat.reduceEqDiff,Nat.reduceLT,Nat.reduceAdd,Nat.reduceBEq,Int.reduceAdd,Int.reduceSub,Int.reduceLT,Int.reduceLE,Int.reduceEq,Int.reduceNeg,↓reduceIte,reduceCtorEq,scL,scD,expand,List.replicate,c41])|(refine gC_drawW ?_)|(refine gI_dec (fun _=>?_) (fun _=>?_))|(refine gG_dec (fun _=>?_) (fun _=>?_))|(refine gPG_dec (fun _=>?_) (fun _=>?_))|(refine gI_var (fun _=>?_) (fun _=>?_))|(refine gG_var (fun _=>?_) (fun _=>?_))|(refine gPG_var (fun _=>?_) (fun _=>?_)))
  first|(exfalso;omega)|exact weak_flat rfl h0 rfl
theorem check1_p (x:Int):VSpec (EN w (n+2)) 40 [.sc (.int .i64 x)] (.sc (.bool (!col x))) ⟨[],0,0⟩:=by
 refine vspec_flat rfl rfl (fun _ _=>rfl) (Nat.le_of_ble_eq_true rfl) (oldVals w) rfl fun C hC h0=>?_
 repeat' (first|(simp (disch:=first|omega|assumption|(refine @id ((_:Bool)=_) ?_;exact id (by with_unfolding_all rfl))|(exact Or.inl rfl)|(exact Or.inl trivial)|(exact okL_map _ (fun _=>rfl) _)|(simp only[VVlen]<;>omega)|fail) only[VV0,VV1,VV2,VV3,VV4,VV5,VV6,VV7,VV8,VV9,mkFnV,vargs,slotsL,opdsA,Nat.reduceEqDiff,Nat.reduceLT,Nat.reduceAdd,Nat.reduceBEq,Int.reduceAdd,Int.reduceSub,Int.reduceLT,Int.reduceLE,Int.reduceEq,Int.reduceNeg,↓reduceIte,reduceCtorEq,scL,scD,expand,List.replicate,c40])|(refine gC_drawW ?_)|(refine gI_dec (fun _=>?_) (fun _=>?_))|(refine gG_dec (fun _=>?_) (fun _=>?_))|(refine gPG_dec (fun _=>?_) (fun _=>?_))|(refine gI_var (fun _=>?_) (fun _=>?_))|(refine gG_var (fun _=>?_) (fun _=>?_))|(refine gPG_var (fun _=>?_) (fun _=>?_)))
 refine callV_flat ((fun st=>(colour_p w n x).of hC rfl st rfl) _) ?_
 repeat' (first|(simp (disch:=first|omega|assumption|(refine @id ((_:Bool)=_) ?_;exact id (by with_unfolding_all rfl))|(exact Or.inl rfl)|(exact Or.inl trivial)|(exact okL_map _ (fun _=>rfl) _)|(simp only[VVlen]<;>omega)|fail) only[VV0,VV1,VV2,VV3,VV4,VV5,VV6,VV7,VV8,VV9,mkFnV,vargs,slotsL,opdsA,Nat.reduceEqDiff,Nat.reduceLT,Nat.reduceAdd,Nat.reduceBEq,Int.reduceAdd,Int.reduceSub,Int.reduceLT,Int.reduceLE,Int.reduceEq,Int.reduceNeg,↓reduceIte,reduceCtorEq,scL,scD,expand,List.replicate])|(refine gC_drawW ?_)|(refine gI_dec (fun _=>?_) (fun _=>?_))|(refine gG_dec (fun _=>?_) (fun _=>?_))|(refine gPG_dec (fun _=>?_) (fun _=>?_))|(refine gI_var (fun _=>?_) (fun _=>?_))|(refine gG_var (fun _=>?_) (fun _=>?_))|(refine gPG_var (fun _=>?_) (fun _=>?_)))
 exact weak_flat rfl h0 rfl
theorem indexFunc_p (s:Nat) (l:List Int) (hl:l.length≤140737488351232):VSpec (EN w (n+3)) 55 [.sl s l.length (l.map iD),.sc (.func (.func 40) #[] #[])] (.sc (.int .i64 (fb l))) ⟨[],0,0⟩:=by
 refine vspec_flat rfl rfl (fun _ _=>rfl) (Nat.le_of_ble_eq_true rfl) (oldVals w) rfl fun C hC h0=>?_
 simp (disch:=first|omega|assumption|(refine @id ((_:Bool)=_) ?_;exact id (by with_unfolding_all rfl))|(exact Or.inl rfl)|(exact Or.inl trivial)|(exact okL_map _ (fun _=>rfl) _)|(simp only[VVlen]<;>omega)|fail) only[VV0,VV1,VV2,VV3,VV4,VV5,VV6,VV7,VV8,VV9,mkFnV,vargs,slotsL,opdsA,Nat.reduceEqDiff,Nat.reduceLT,Nat.reduceAdd,Nat.reduceBEq,Int.reduceAdd,Int.reduceSub,Int.reduceLT,Int.reduceLE,Int.reduceEq,Int.reduceNeg,↓reduceIte,reduceCtorEq,scL,scD,expand,List.replicate,c55]
 refine g_while (fun m fr st=>∃ k:Nat,m=l.length - k∧k≤l.length∧(∀ j,j<k→col l[j]! =true)∧fr= [(0,.sl s l.length (l.map iD)),(1,.sc (.func (.func 40) #[] #[])),(7,.sc (.int .i64 l.length)),(8,.sc (.int .i64 k))]∧st=⟨[],0,0⟩) l.length ?_ ⟨_,_,.refl _ _,0,?_⟩ ?_
 ·rw[hC,callP_rounds];unfold many;omega
 ·exact ⟨by omega,by omega,(fun j hj=>absurd hj (Nat.not_lt_zero _)),rfl,rfl⟩
 ·rintro m fr st ⟨k,rfl,hk,ha,rfl,rfl⟩
  by_cases hlt:k<l.length
  ·repeat' (first|(simp (disch:=first|omega|assumption|(refine @id ((_:Bool)=_) ?_;exact id (by with_unfolding_all rfl))|(exact Or.inl rfl)|(exact Or.inl trivial)|(exact okL_map _ (fun _=>rfl) _)|(simp only[VVlen]<;>omega)|fail) only[VV0,VV1,VV2,VV3,VV4,VV5,VV6,VV7,VV8,VV9,mkFnV,vargs,slotsL,opdsA,Nat.reduceEqDiff,Nat.reduceLT,Nat.reduceAdd,Nat.reduceBEq,Int.reduceAdd,Int.reduceSub,Int.reduceLT,Int.reduceLE,Int.reduceEq,Int.reduceNeg,↓reduceIte,reduceCtorEq,scL,scD,expand,List.replicate,c55l0,iD_dv])|(refine gC_drawW ?_)|(refine gI_dec (fun _=>?_) (fun _=>?_))|(refine gG_dec (fun _=>?_) (fun _=>?_))|(refine gPG_dec (fun _=>?_) (fun _=>?_))|(refine gI_var (fun _=>?_) (fun _=>?_))|(refine gG_var (fun _=>?_) (fun _=>?_))|(refine gPG_var (fun _=>?_) (fun _=>?_)))
   refine callV_flat ((fun st=>(check1_p w n l[k]!).of hC rfl st rfl) _) ?_
   cases hc:col l[k]!
   ·have:=fb_at hlt ha hc
    rw[this]
    repeat' (first|(simp (disch:=first|omega|assumption|(refine @id ((_:Bool)=_) ?_;exact id (by with_unfolding_all rfl))|(exact Or.inl rfl)|(exact Or.inl trivial)|(exact okL_map _ (fun _=>rfl) _)|(simp only[VVlen]<;>omega)|fail) only[VV0,VV1,VV2,VV3,VV4,VV5,VV6,VV7,VV8,VV9,mkFnV,vargs,slotsL,opdsA,Nat.reduceEqDiff,Nat.reduceLT,Nat.reduceAdd,Nat.reduceBEq,Int.reduceAdd,Int.reduceSub,Int.reduceLT,Int.reduceLE,Int.reduceEq,Int.reduceNeg,↓reduceIte,reduceCtorEq,scL,scD,expand,List.replicate])|(refine gC_drawW ?_)|(refine gI_dec (fun _=>?_) (fun _=>?_))|(refine gG_dec (fun _=>?_) (fun _=>?_))|(refine gPG_dec (fun _=>?_) (fun _=>?_))|(refine gI_var (fun _=>?_) (fun _=>?_))|(refine gG_var (fun _=>?_) (fun _=>?_))|(refine gPG_var (fun _=>?_) (fun _=>?_)))
    exact weak_flat rfl h0 rfl
   ·repeat' (first|(simp (disch:=first|omega|assumption|(refine @id ((_:Bool)=_) ?_;exact id (by with_unfolding_all rfl))|(exact Or.inl rfl)|(exact Or.inl trivial)|(exact okL_map _ (fun _=>rfl) _)|(simp only[VVlen]<;>omega)|fail) only[VV0,VV1,VV2,VV3,VV4,VV5,VV6,VV7,VV8,VV9,mkFnV,vargs,slotsL,opdsA,Nat.reduceEqDiff,Nat.reduceLT,Nat.reduceAdd,Nat.reduceBEq,Int.reduceAdd,Int.reduceSub,Int.reduceLT,Int.reduceLE,Int.reduceEq,Int.reduceNeg,↓reduceIte,reduceCtorEq,scL,scD,expand,List.replicate])|(refine gC_drawW ?_)|(refine gI_dec (fun _=>?_) (fun _=>?_))|(refine gG_dec (fun _=>?_) (fun _=>?_))|(refine gPG_dec (fun _=>?_) (fun _=>?_))|(refine gI_var (fun _=>?_) (fun _=>?_))|(refine gG_var (fun _=>?_) (fun _=>?_))|(refine gPG_var (fun _=>?_) (fun _=>?_)))
    exact ⟨_,_,_,by omega,.refl _ _,k+1,rfl,hlt,(fun j hj=>by rcases Nat.lt_succ_iff_lt_or_eq.1 hj with h|h;exact ha j h;subst h;exact hc),rfl,rfl⟩
  ·have:k=l.length:=by omega
   subst this
   rw[(fb_end ha).1]
   repeat' (first|(simp (disch:=first|omega|assumption|(refine @id ((_:Bool)=_) ?_;exact id (by with_unfolding_all rfl))|(exact Or.inl rfl)|(exact Or.inl trivial)|(exact okL_map _ (fun _=>rfl) _)|(simp only[VVlen]<;>omega)|fail) only[VV0,VV1,VV2,VV3,VV4,VV5,VV6,VV7,VV8,VV9,mkFnV,vargs,slotsL,opdsA,Nat.reduceEqDiff,Nat.reduceLT,Nat.reduceAdd,Nat.reduceBEq,Int.reduceAdd,Int.reduceSub,Int.reduceLT,Int.reduceLE,Int.reduceEq,Int.reduceNeg,↓reduceIte,reduceCtorEq,scL,scD,expand,List.replicate,c55l0,iD_dv])|(refine gC_drawW ?_)|(refine gI_dec (fun _=>?_) (fun _=>?_))|(refine gG_dec (fun _=>?_) (fun _=>?_))|(refine gPG_dec (fun _=>?_) (fun _=>?_))|(refine gI_var (fun _=>?_) (fun _=>?_))|(refine gG_var (fun _=>?_) (fun _=>?_))|(refine gPG_var (fun _=>?_) (fun _=>?_)))
   exact weak_flat rfl h0 rfl
theorem contains_p (s:Nat) (l:List Int) (hl:l.length≤140737488351232):VSpec (EN w (n+4)) 39 [.sl s l.length (l.map iD),.sc (.func (.func 40) #[] #[])] (.sc (.bool (!l.all col))) ⟨[],0,0⟩:=by
 refine vspec_flat rfl rfl (fun _ _=>rfl) (Nat.le_of_ble_eq_true rfl) (oldVals w) rfl fun C hC h0=>?_
 repeat' (first|(simp (disch:=first|omega|assumption|(refine @id ((_:Bool)=_) ?_;exact id (by with_unfolding_all rfl))|(exact Or.inl rfl)|(exact Or.inl trivial)|(exact okL_map _ (fun _=>rfl) _)|(simp only[VVlen]<;>omega)|fail) only[VV0,VV1,VV2,VV3,VV4,VV5,VV6,VV7,VV8,VV9,mkFnV,vargs,slotsL,opdsA,Nat.reduceEqDiff,Nat.reduceLT,Nat.reduceAdd,Nat.reduceBEq,Int.reduceAdd,Int.reduceSub,Int.reduceLT,Int.reduceLE,Int.reduceEq,Int.reduceNeg,↓reduceIte,reduceCtorEq,scL,scD,expand,List.replicate,c39])|(refine gC_drawW ?_)|(refine gI_dec (fun _=>?_) (fun _=>?_))|(refine gG_dec (fun _=>?_) (fun _=>?_))|(refine gPG_dec (fun _=>?_) (fun _=>?_))|(refine gI_var (fun _=>?_) (fun _=>?_))|(refine gG_var (fun _=>?_) (fun _=>?_))|(refine gPG_var (fun _=>?_) (fun _=>?_)))
 refine callV_flat ((fun st=>(indexFunc_p w n s l hl).of hC rfl st rfl) _) ?_
 have e:(!l.all col)=decide (0≤fb l):=by
  unfold fb
  cases l.all col
  ·simp
  ·simp
 rw[e]
 repeat' (first|(simp (disch:=first|omega|assumption|(refine @id ((_:Bool)=_) ?_;exact id (by with_unfolding_all rfl))|(exact Or.inl rfl)|(exact Or.inl trivial)|(exact okL_map _ (fun _=>rfl) _)|(simp only[VVlen]<;>omega)|fail) only[VV0,VV1,VV2,VV3,VV4,VV5,VV6,VV7,VV8,VV9,mkFnV,vargs,slotsL,opdsA,Nat.reduceEqDiff,Nat.reduceLT,Nat.reduceAdd,Nat.reduceBEq,Int.reduceAdd,Int.reduceSub,Int.reduceLT,Int.reduceLE,Int.reduceEq,Int.reduceNeg,↓reduceIte,reduceCtorEq,scL,scD,expand,List.replicate])|(refine gC_drawW ?_)|(refine gI_dec (fun _=>?_) (fun _=>?_))|(refine gG_dec (fun _=>?_) (fun _=>?_))|(refine gPG_dec (fun _=>?_) (fun _=>?_))|(refine gI_var (fun _=>?_) (fun _=>?_))|(refine gG_var (fun _=>?_) (fun _=>?_))|(refine gPG_var (fun _=>?_) (fun _=>?_)))
 exact weak_flat rfl h0 rfl
theorem check_p (s:Nat) (l:List Int) (hl:l.length≤140737488351232):VSpec (EN w (n+5)) 14 [.sl s l.length (l.map iD)] (.sc (.int .i64 (chk l))) ⟨[],0,0⟩:=by
 refine vspec_flat rfl rfl (fun _ _=>rfl) (Nat.le_of_ble_eq_true rfl) (oldVals w) rfl fun C hC h0=>?_
 by_cases h4:4000<l.length
 ·have e:chk l=4:=if_pos h4
  rw[e]
  repeat' (first|(simp (disch:=first|omega|assumption|(refine @id ((_:Bool)=_) ?_;exact id (by with_unfolding_all rfl))|(exact Or.inl rfl)|(exact Or.inl trivial)|(exact okL_map _ (fun _=>rfl) _)|(simp only[VVlen]<;>omega)|fail) only[VV0,VV1,VV2,VV3,VV4,VV5,VV6,VV7,VV8,VV9,mkFnV,vargs,slotsL,opdsA,Nat.reduceEqDiff,Nat.reduceLT,Nat.reduceAdd,Nat.reduceBEq,Int.reduceAdd,Int.reduceSub,Int.reduceLT,Int.reduceLE,Int.reduceEq,Int.reduceNeg,↓reduceIte,reduceCtorEq,scL,scD,expand,List.replicate,c14])|(refine gC_drawW ?_)|(refine gI_dec (fun _=>?_) (fun _=>?_))|(refine gG_dec (fun _=>?_) (fun _=>?_))|(refine gPG_dec (fun _=>?_) (fun _=>?_))|(refine gI_var (fun _=>?_) (fun _=>?_))|(refine gG_var (fun _=>?_) (fun _=>?_))|(refine gPG_var (fun _=>?_) (fun _=>?_)))
  exact weak_flat rfl h0 rfl
 have e:chk l=if l.all col then 0 else 8:=if_neg h4
 rw[e]
 repeat' (first|(simp (disch:=first|omega|assumption|(refine @id ((_:Bool)=_) ?_;exact id (by with_unfolding_all rfl))|(exact Or.inl rfl)|(exact Or.inl trivial)|(exact okL_map _ (fun _=>rfl) _)|(simp only[VVlen]<;>omega)|fail) only[VV0,VV1,VV2,VV3,VV4,VV5,VV6,VV7,VV8,VV9,mkFnV,vargs,slotsL,opdsA,Nat.reduceEqDiff,Nat.reduceLT,Nat.reduceAdd,Nat.reduceBEq,Int.reduceAdd,Int.reduceSub,Int.reduceLT,Int.reduceLE,Int.reduceEq,Int.reduceNeg,↓reduceIte,reduceCtorEq,scL,scD,expand,List.replicate,c14])|(refine gC_drawW ?_)|(refine gI_dec (fun _=>?_) (fun _=>?_))|(refine gG_dec (fun _=>?_) (fun _=>?_))|(refine gPG_dec (fun _=>?_) (fun _=>?_))|(refine gI_var (fun _=>?_) (fun _=>?_))|(refine gG_var (fun _=>?_) (fun _=>?_))|(refine gPG_var (fun _=>?_) (fun _=>?_)))
 refine callV_flat ((fun st=>(contains_p w n s l hl).of hC rfl st rfl) _) ?_
 cases l.all col
 ·repeat' (first|(simp (disch:=first|omega|assumption|(refine @id ((_:Bool)=_) ?_;exact id (by with_unfolding_all rfl))|(exact Or.inl rfl)|(exact Or.inl trivial)|(exact okL_map _ (fun _=>rfl) _)|(simp only[VVlen]<;>omega)|fail) only[VV0,VV1,VV2,VV3,VV4,VV5,VV6,VV7,VV8,VV9,mkFnV,vargs,slotsL,opdsA,Nat.reduceEqDiff,Nat.reduceLT,Nat.reduceAdd,Nat.reduceBEq,Int.reduceAdd,Int.reduceSub,Int.reduceLT,Int.reduceLE,Int.reduceEq,Int.reduceNeg,↓reduceIte,reduceCtorEq,scL,scD,expand,List.replicate])|(refine gC_drawW ?_)|(refine gI_dec (fun _=>?_) (fun _=>?_))|(refine gG_dec (fun _=>?_) (fun _=>?_))|(refine gPG_dec (fun _=>?_) (fun _=>?_))|(refine gI_var (fun _=>?_) (fun _=>?_))|(refine gG_var (fun _=>?_) (fun _=>?_))|(refine gPG_var (fun _=>?_) (fun _=>?_)))
  exact weak_flat rfl h0 rfl
 ·repeat' (first|(simp (disch:=first|omega|assumption|(refine @id ((_:Bool)=_) ?_;exact id (by with_unfolding_all rfl))|(exact Or.inl rfl)|(exact Or.inl trivial)|(exact okL_map _ (fun _=>rfl) _)|(simp only[VVlen]<;>omega)|fail) only[VV0,VV1,VV2,VV3,VV4,VV5,VV6,VV7,VV8,VV9,mkFnV,vargs,slotsL,opdsA,Nat.reduceEqDiff,Nat.reduceLT,Nat.reduceAdd,Nat.reduceBEq,Int.reduceAdd,Int.reduceSub,Int.reduceLT,Int.reduceLE,Int.reduceEq,Int.reduceNeg,↓reduceIte,reduceCtorEq,scL,scD,expand,List.replicate])|(refine gC_drawW ?_)|(refine gI_dec (fun _=>?_) (fun _=>?_))|(refine gG_dec (fun _=>?_) (fun _=>?_))|(refine gPG_dec (fun _=>?_) (fun _=>?_))|(refine gI_var (fun _=>?_) (fun _=>?_))|(refine gG_var (fun _=>?_) (fun _=>?_))|(refine gPG_var (fun _=>?_) (fun _=>?_)))
  exact weak_flat rfl h0 rfl
end
end Go.Proofs.YtgglaaldlegckaaDoor
namespace Go.Proofs.YtgglaaldlegckaaDoor
open Go Go.Itp
set_option maxRecDepth 100000
set_option maxHeartbeats 1000000
set_option linter.unusedSimpArgs false
theorem vslc_refLo (e o n c k:Nat) (j:IntKind) (hc:c<big) (h1:k≤n) (h2:k<c) (hn:n≤c):vslc e (some (.int j k)) none none (.ref o 0 n c)=some (.ref o (k*e) (n - k) (c - k)):=by
 have h3:Nat.blt c big=true:=by rw[Nat.blt_eq];exact hc
 have h4:knownCap c=c:=knownCap_lt hc
 have h5:Nat.beq c k=false:=nbf.2 (by omega)
 simp only[vslc,slcN,h4,bndNat,Option.bind_some,h3,if_true]
 rw[if_pos ⟨by omega,by omega⟩]
 simp[h5]
theorem vslc_refHi (e o n c k:Nat) (j:IntKind) (hc:c<big) (h1:k≤c):vslc e none (some (.int j k)) none (.ref o 0 n c)=some (.ref o 0 k c):=by
 have h3:Nat.blt c big=true:=by rw[Nat.blt_eq];exact hc
 have h4:knownCap c=c:=knownCap_lt hc
 simp only[vslc,slcN,h4,bndNat]
 rw[if_pos ⟨by omega,by omega⟩]
 simp[h3]
theorem b_and32 (x:Nat) (h:x<4294967296):binA .and (.int .u64 x) (.int .u64 4294967295)=some (.int .u64 x):=by
 have h1:(BitVec.ofInt 64 (x:Int) &&& BitVec.ofInt 64 4294967295).toNat=x:=by
  rw[BitVec.toNat_and,BitVec.toNat_ofInt,BitVec.toNat_ofInt]
  rw[show ((4294967295:Int) % ((2 ^ 64:Nat):Int)).toNat=2 ^ 32 - 1 by decide,Nat.and_two_pow_sub_one_eq_mod]
  rw[show ((x:Int) % ((2 ^ 64:Nat):Int)).toNat=x by omega]
  omega
 simp only[binA,if_true]
 show some (Value.int .u64 (IntKind.u64.wrap ((BitVec.ofInt 64 (x:Int) &&& BitVec.ofInt 64 4294967295).toNat:Int)))=_
 rw[h1]
 congr 2
 simp[IntKind.wrap,IntKind.bits,IntKind.signed]
 omega
theorem b_shr32 (x:Nat) (h:x<4294967296):binA .shr (.int .u64 x) (.int .u64 32)=some (.int .u64 0):=by
 simp only[binA]
 rw[if_neg (by omega)]
 congr 2
 have:((2:Int) ^ (min (Int.toNat 32) (IntKind.bits .u64)))=4294967296:=by decide
 rw[this,Int.fdiv_eq_ediv_of_nonneg _ (by omega)]
 omega
theorem wrapU (x:Nat) (h:x<18446744073709551616):IntKind.u64.wrap (x:Int)=x:=by
 simp[IntKind.wrap,IntKind.bits,IntKind.signed]
 omega
def repF (a:List Int) (i:Nat):Int:=a[i % a.length]!
theorem st_get (f:Nat→Int) (T k i:Nat) (h:i<(stTo f T k).length):(stTo f T k)[i]=if i<k then f i else 0:=by simp[stTo]
theorem rep_first (a:List Int) (T:Nat) (h:a.length≤T):a.map iD++((stTo (repF a) T 0).map iD).drop (a.map iD).length=(stTo (repF a) T a.length).map iD:=by
 rw[← List.map_drop,← List.map_append,List.length_map]
 congr 1
 refine List.ext_getElem (by simp[stTo_len];omega) fun i h1 h2=>?_
 rw[st_get,List.getElem_append]
 by_cases hi:i<a.length
 ·rw[dif_pos hi,if_pos hi,repF,Nat.mod_eq_of_lt hi,getElem!_pos a i hi]
 ·rw[dif_neg hi,if_neg hi,List.getElem_drop,st_get,if_neg (by omega)]
theorem rep_copy (a:List Int) (T k m:Nat) (hd:a.length ∣ k) (hm:m≤k) (hT:k+m≤T):
  (stTo (repF a) T k).take k++(stTo (repF a) T k).take m++(stTo (repF a) T k).drop (k+m)=stTo (repF a) T (k+m):=by
 have hl:=stTo_len (repF a) T k
 refine List.ext_getElem (by simp[stTo_len];omega) fun i h1 h2=>?_
 rw[st_get,List.getElem_append]
 have hi:i<T:=by rw[stTo_len] at h2;exact h2
 split
 ·rename_i h3
  rw[List.getElem_append]
  have h3':i<k+m:=by simp[hl] at h3;omega
  rw[if_pos h3']
  split
  ·rename_i h4
   have h4':i<k:=by simp[hl] at h4;omega
   rw[List.getElem_take,st_get,if_pos h4']
  ·rename_i h4
   have h4':¬ i<k:=by simp[hl] at h4;omega
   rw[List.getElem_take,st_get]
   simp only[List.length_take,hl]
   rw[show min k T=k by omega,if_pos (by omega)]
   unfold repF
   congr 1
   obtain ⟨c,rfl⟩:=hd
   have e:i=(i - a.length*c)+a.length*c:=by omega
   conv=>rhs;rw[e]
   rw[Nat.add_mul_mod_self_left]
 ·rename_i h3
  have h3':¬ i<k+m:=by simp[hl] at h3;omega
  rw[List.getElem_drop,st_get,if_neg h3']
  simp only[List.length_append,List.length_take,hl]
  rw[if_neg (by omega)]
section
variable (w:World) (n:Nat)
theorem mul64_p (x y:Nat) (hx:x≤30000) (hy:y≤30000):VSpec (EN w (n+1)) 64 [.sc (.int .u64 x),.sc (.int .u64 y)] (.tup [.sc (.int .u64 0),.sc (.int .u64 ((x*y:Nat):Int))]) ⟨[],0,0⟩:=by
 refine vspec_flat rfl rfl (fun _ _=>rfl) (Nat.le_of_ble_eq_true rfl) (oldVals w) rfl fun C hC h0=>?_
 have hxy:x*y≤30000*30000:=Nat.mul_le_mul hx hy
 have h1:=b_and32 x (by omega)
 have h2:=b_shr32 x (by omega)
 have h3:=b_and32 y (by omega)
 have h4:=b_shr32 y (by omega)
 have h5:=b_shr32 (x*y) (by omega)
 have h6:binA .and (.int .u64 0) (.int .u64 4294967295)=some (.int .u64 0):=b_and32 0 (by omega)
 have h7:binA .shr (.int .u64 0) (.int .u64 32)=some (.int .u64 0):=b_shr32 0 (by omega)
 have hm:(x:Int)*(y:Int)=((x*y:Nat):Int):=by simp
 have hw:=wrapU (x*y) (by omega)
 have hw0:IntKind.u64.wrap 0=0:=by decide
 repeat' (first|(simp (disch:=first|omega|assumption|(refine @id ((_:Bool)=_) ?_;exact id (by with_unfolding_all rfl))|(exact Or.inl rfl)|(exact Or.inl trivial)|(exact okL_map _ (fun _=>rfl) _)|(simp only[VVlen]<;>omega)|fail) only[VV0,VV1,VV2,VV3,VV4,VV5,VV6,VV7,VV8,VV9,mkFnV,vargs,slotsL,opdsA,Nat.reduceEqDiff,Nat.reduceLT,Nat.reduceAdd,Nat.reduceBEq,Int.reduceAdd,Int.reduceSub,Int.reduceLT,Int.reduceLE,Int.reduceEq,Int.reduceNeg,↓reduceIte,reduceCtorEq,scL,scD,expand,List.replicate,c64,h1,h2,h3,h4,h5,h6,h7,hm,hw,hw0,Int.zero_mul,Int.mul_zero,Int.add_zero])|(refine gC_drawW ?_)|(refine gI_dec (fun _=>?_) (fun _=>?_))|(refine gG_dec (fun _=>?_) (fun _=>?_))|(refine gPG_dec (fun _=>?_) (fun _=>?_))|(refine gI_var (fun _=>?_) (fun _=>?_))|(refine gG_var (fun _=>?_) (fun _=>?_))|(refine gPG_var (fun _=>?_) (fun _=>?_)))
 exact weak_flat rfl h0 rfl
theorem mul_p (x y:Nat) (hx:x≤30000) (hy:y≤30000):VSpec (EN w (n+2)) 56 [.sc (.int .u64 x),.sc (.int .u64 y)] (.tup [.sc (.int .u64 0),.sc (.int .u64 ((x*y:Nat):Int))]) ⟨[],0,0⟩:=by
 refine vspec_flat rfl rfl (fun _ _=>rfl) (Nat.le_of_ble_eq_true rfl) (oldVals w) rfl fun C hC h0=>?_
 repeat' (first|(simp (disch:=first|omega|assumption|(refine @id ((_:Bool)=_) ?_;exact id (by with_unfolding_all rfl))|(exact Or.inl rfl)|(exact Or.inl trivial)|(exact okL_map _ (fun _=>rfl) _)|(simp only[VVlen]<;>omega)|fail) only[VV0,VV1,VV2,VV3,VV4,VV5,VV6,VV7,VV8,VV9,mkFnV,vargs,slotsL,opdsA,Nat.reduceEqDiff,Nat.reduceLT,Nat.reduceAdd,Nat.reduceBEq,Int.reduceAdd,Int.reduceSub,Int.reduceLT,Int.reduceLE,Int.reduceEq,Int.reduceNeg,↓reduceIte,reduceCtorEq,scL,scD,expand,List.replicate,c56])|(refine gC_drawW ?_)|(refine gI_dec (fun _=>?_) (fun _=>?_))|(refine gG_dec (fun _=>?_) (fun _=>?_))|(refine gPG_dec (fun _=>?_) (fun _=>?_))|(refine gI_var (fun _=>?_) (fun _=>?_))|(refine gG_var (fun _=>?_) (fun _=>?_))|(refine gPG_var (fun _=>?_) (fun _=>?_)))
 refine callV_flat ((fun st=>(mul64_p w n x y hx hy).of hC rfl st rfl) _) ?_
 repeat' (first|(simp (disch:=first|omega|assumption|(refine @id ((_:Bool)=_) ?_;exact id (by with_unfolding_all rfl))|(exact Or.inl rfl)|(exact Or.inl trivial)|(exact okL_map _ (fun _=>rfl) _)|(simp only[VVlen]<;>omega)|fail) only[VV0,VV1,VV2,VV3,VV4,VV5,VV6,VV7,VV8,VV9,mkFnV,vargs,slotsL,opdsA,Nat.reduceEqDiff,Nat.reduceLT,Nat.reduceAdd,Nat.reduceBEq,Int.reduceAdd,Int.reduceSub,Int.reduceLT,Int.reduceLE,Int.reduceEq,Int.reduceNeg,↓reduceIte,reduceCtorEq,scL,scD,expand,List.replicate])|(refine gC_drawW ?_)|(refine gI_dec (fun _=>?_) (fun _=>?_))|(refine gG_dec (fun _=>?_) (fun _=>?_))|(refine gPG_dec (fun _=>?_) (fun _=>?_))|(refine gI_var (fun _=>?_) (fun _=>?_))|(refine gG_var (fun _=>?_) (fun _=>?_))|(refine gPG_var (fun _=>?_) (fun _=>?_)))
 exact weak_flat rfl h0 rfl
theorem repeat_p (s:Nat) (a:List Int) (q:Nat) (ha:0<a.length) (ha2:a.length≤5000) (hq:q≤5000) (hT:a.length*q≤5000):
  VSpec (EN w (n+3)) 46 [.sl s a.length (a.map iD),.sc (.int .i64 q)] (.ref 0 0 (a.length*q) (a.length*q)) ⟨[(0,.row 3 1 false false ((stTo (repF a) (a.length*q) (a.length*q)).map iD))],1,0⟩:=by
 refine vspec_g rfl rfl (fun _ _=>rfl) (Nat.le_of_ble_eq_true rfl) (oldVals w) retOK_ref rfl fun C hC h0=>?_
 have hwa:=wrapU a.length (by omega)
 have hwq:=wrapU q (by omega)
 have hmul:=fun st=>(mul_p w n a.length q (by omega) (by omega)).of hC rfl st rfl
 obtain ⟨T,hTe⟩:∃ T,a.length*q=T:=⟨_,rfl⟩
 rw[hTe] at hmul hT ⊢
 have hz:=stTo_zero (repF a) T
 have ham:(a.map iD).length=a.length*1:=by simp
 have hsl:∀ k,(stTo (repF a) T k).length=T:=stTo_len (repF a) T
 repeat' (first|(simp (disch:=first|omega|assumption|(refine @id ((_:Bool)=_) ?_;exact id (by with_unfolding_all rfl))|(exact Or.inl rfl)|(exact Or.inl trivial)|(exact okL_map _ (fun _=>rfl) _)|(simp only[VVlen]<;>omega)|fail) only[VV0,VV1,VV2,VV3,VV4,VV5,VV6,VV7,VV8,VV9,mkFnV,vargs,slotsL,opdsA,Nat.reduceEqDiff,Nat.reduceLT,Nat.reduceAdd,Nat.reduceBEq,Int.reduceAdd,Int.reduceSub,Int.reduceLT,Int.reduceLE,Int.reduceEq,Int.reduceNeg,↓reduceIte,reduceCtorEq,scL,scD,expand,List.replicate,c46,hwa,hwq])|(refine gC_drawW ?_)|(refine gI_dec (fun _=>?_) (fun _=>?_))|(refine gG_dec (fun _=>?_) (fun _=>?_))|(refine gPG_dec (fun _=>?_) (fun _=>?_))|(refine gI_var (fun _=>?_) (fun _=>?_))|(refine gG_var (fun _=>?_) (fun _=>?_))|(refine gPG_var (fun _=>?_) (fun _=>?_)))
 refine callV_flat (hmul _) ?_
 by_cases hq0:q=0
 ·have hT0:T=0:=by rw[← hTe,hq0,Nat.mul_zero]
  subst hT0
  have hvc:vcopy ⟨[(0,.row 3 1 false false [])],1,0⟩ 1 (.ref 0 0 0 0) (.sl s a.length (a.map iD))=some (.sc (.int .i64 0),⟨[(0,.row 3 1 false false [])],1,0⟩):=by
   have hs:srcD [(0,.row 3 1 false false [])] 1 (Nat.min a.length 0) (.sl s a.length (a.map iD))=some ([],[]):=by
    simp[srcD]
   simp only[vcopy,lenV,lenS,Option.bind_some,hs]
   simp[okL,aget_cons,putL,aset]
  repeat' (first|(simp (disch:=first|omega|assumption|(refine @id ((_:Bool)=_) ?_;exact id (by with_unfolding_all rfl))|(exact Or.inl rfl)|(exact Or.inl trivial)|(exact okL_map _ (fun _=>rfl) _)|(simp only[VVlen]<;>omega)|fail) only[VV0,VV1,VV2,VV3,VV4,VV5,VV6,VV7,VV8,VV9,mkFnV,vargs,slotsL,opdsA,Nat.reduceEqDiff,Nat.reduceLT,Nat.reduceAdd,Nat.reduceBEq,Int.reduceAdd,Int.reduceSub,Int.reduceLT,Int.reduceLE,Int.reduceEq,Int.reduceNeg,↓reduceIte,reduceCtorEq,scL,scD,expand,List.replicate,List.replicate_zero,hvc])|(refine gC_drawW ?_)|(refine gI_dec (fun _=>?_) (fun _=>?_))|(refine gG_dec (fun _=>?_) (fun _=>?_))|(refine gPG_dec (fun _=>?_) (fun _=>?_))|(refine gI_var (fun _=>?_) (fun _=>?_))|(refine gG_var (fun _=>?_) (fun _=>?_))|(refine gPG_var (fun _=>?_) (fun _=>?_)))
  refine g_while (fun m fr t=>fr= [(7,.ref 0 0 0 0),(8,.sc (.int .i64 0))]∧t=⟨[(0,.row 3 1 false false [])],1,0⟩) 0 ?_ ⟨_,_,.refl _ _,rfl,rfl⟩ ?_
  ·rw[hC,callP_rounds];unfold many;omega
  ·rintro m fr t ⟨rfl,rfl⟩
   repeat' (first|(simp (disch:=first|omega|assumption|(refine @id ((_:Bool)=_) ?_;exact id (by with_unfolding_all rfl))|(exact Or.inl rfl)|(exact Or.inl trivial)|(exact okL_map _ (fun _=>rfl) _)|(simp only[VVlen]<;>omega)|fail) only[VV0,VV1,VV2,VV3,VV4,VV5,VV6,VV7,VV8,VV9,mkFnV,vargs,slotsL,opdsA,Nat.reduceEqDiff,Nat.reduceLT,Nat.reduceAdd,Nat.reduceBEq,Int.reduceAdd,Int.reduceSub,Int.reduceLT,Int.reduceLE,Int.reduceEq,Int.reduceNeg,↓reduceIte,reduceCtorEq,scL,scD,expand,List.replicate,c46l0])|(refine gC_drawW ?_)|(refine gI_dec (fun _=>?_) (fun _=>?_))|(refine gG_dec (fun _=>?_) (fun _=>?_))|(refine gPG_dec (fun _=>?_) (fun _=>?_))|(refine gI_var (fun _=>?_) (fun _=>?_))|(refine gG_var (fun _=>?_) (fun _=>?_))|(refine gPG_var (fun _=>?_) (fun _=>?_)))
   exact .refl _ _
 ·have haT:a.length≤T:=by rw[← hTe];exact Nat.le_mul_of_pos_right _ (by omega)
  have hdT:a.length ∣ T:=⟨q,hTe.symm⟩
  have hvc:vcopy ⟨[(0,.row 3 1 false false (List.replicate T (.sc (.int .i64 0))))],1,0⟩ 1 (.ref 0 0 T T) (.sl s a.length (a.map iD))=some (.sc (.int .i64 a.length),⟨[(0,.row 3 1 false false ((stTo (repF a) T a.length).map iD))],1,0⟩):=by
   rw[vcopy_row (H:= [(0,.row 3 1 false false (List.replicate T (.sc (.int .i64 0))))]) (m:=a.length) (cs:=a.map iD) 1 0 1 0 T T 3 1 false (List.replicate T (.sc (.int .i64 0))) (.sl s a.length (a.map iD)) rfl (Nat.zero_le _) rfl (by simp only[srcD];rw[if_pos ⟨by simp,Nat.le_refl _⟩,List.take_of_length_le (by simp)]) haT (okL_map _ (fun _=>rfl) _) (by simp;omega)]
   rw[← hz,rep_first a T haT]
   rfl
  repeat' (first|(simp (disch:=first|omega|assumption|(refine @id ((_:Bool)=_) ?_;exact id (by with_unfolding_all rfl))|(exact Or.inl rfl)|(exact Or.inl trivial)|(exact okL_map _ (fun _=>rfl) _)|(simp only[VVlen]<;>omega)|fail) only[VV0,VV1,VV2,VV3,VV4,VV5,VV6,VV7,VV8,VV9,mkFnV,vargs,slotsL,opdsA,Nat.reduceEqDiff,Nat.reduceLT,Nat.reduceAdd,Nat.reduceBEq,Int.reduceAdd,Int.reduceSub,Int.reduceLT,Int.reduceLE,Int.reduceEq,Int.reduceNeg,↓reduceIte,reduceCtorEq,scL,scD,expand,List.replicate,hvc])|(refine gC_drawW ?_)|(refine gI_dec (fun _=>?_) (fun _=>?_))|(refine gG_dec (fun _=>?_) (fun _=>?_))|(refine gPG_dec (fun _=>?_) (fun _=>?_))|(refine gI_var (fun _=>?_) (fun _=>?_))|(refine gG_var (fun _=>?_) (fun _=>?_))|(refine gPG_var (fun _=>?_) (fun _=>?_)))
  refine g_while (fun m fr t=>∃ k:Nat,m=T - k∧0<k∧k≤T∧a.length ∣ k∧fr= [(7,.ref 0 0 T T),(8,.sc (.int .i64 k))]∧t=⟨[(0,.row 3 1 false false ((stTo (repF a) T k).map iD))],1,0⟩) (T - a.length) ?_ ⟨_,_,.refl _ _,a.length,rfl,ha,haT,⟨1,by omega⟩,rfl,rfl⟩ ?_
  ·rw[hC,callP_rounds];unfold many;omega
  ·rintro m fr t ⟨k,rfl,hk0,hk,hdk,rfl,rfl⟩
   by_cases hlt:k<T
   ·have h1:=vslc_refLo 1 0 T T k .i64 (by unfold big;omega) hk hlt (Nat.le_refl _)
    have h2:=vslc_refHi 1 0 T T k .i64 (by unfold big;omega) hk
    obtain ⟨m,hm⟩:∃ m,Nat.min k (T - k)=m:=⟨_,rfl⟩
    have hm':m=min k (T - k):=hm.symm
    have hrc:=rep_copy a T k m hdk (by omega) (by omega)
    have hcp:dCopy ⟨[(0,.row 3 1 false false ((stTo (repF a) T k).map iD))],1,0⟩ 1 (some (.ref 0 k (T - k) (T - k))) (some (.ref 0 0 k T))=some (.sc (.int .i64 m),⟨[(0,.row 3 1 false false ((stTo (repF a) T (k+m)).map iD))],1,0⟩,⟨[0,0],[0,0],[]⟩):=by
     have hs:srcD [(0,.row 3 1 false false ((stTo (repF a) T k).map iD))] 1 (Nat.min k (T - k)) (.ref 0 0 k T)=some (((stTo (repF a) T k).take m).map iD,[]):=by
      rw[hm]
      simp only[srcD,aget_cons,if_true,List.length_map,hsl,Nat.mul_one,Nat.zero_add,List.drop_zero]
      rw[if_pos (by omega),List.map_take]
     have hp:putL ((stTo (repF a) T k).map iD) k (((stTo (repF a) T k).take m).map iD)=some ((stTo (repF a) T (k+m)).map iD):=by
      rw[putL_mid _ _ _ (by simp[hsl];omega),← hrc]
      simp only[List.map_append,List.map_take,List.map_drop,Nat.mul_one,List.length_map,List.length_take,hsl]
      rw[show min m T=m by omega]
     simp only[dCopy,aget_cons,if_true,hs,Option.bind_some]
     rw[if_pos (by rw[show okL (((stTo (repF a) T k).take m).map iD)=true from okL_map _ (fun _=>rfl) _];simp[Obj.fz]),hp,hm]
     rfl
    have hkm:(k:Int)+(m:Int)=((k+m:Nat):Int):=by simp
    repeat' (first|(simp (disch:=first|omega|assumption|(refine @id ((_:Bool)=_) ?_;exact id (by with_unfolding_all rfl))|(exact Or.inl rfl)|(exact Or.inl trivial)|(exact okL_map _ (fun _=>rfl) _)|(simp only[VVlen]<;>omega)|fail) only[VV0,VV1,VV2,VV3,VV4,VV5,VV6,VV7,VV8,VV9,mkFnV,vargs,slotsL,opdsA,Nat.reduceEqDiff,Nat.reduceLT,Nat.reduceAdd,Nat.reduceBEq,Int.reduceAdd,Int.reduceSub,Int.reduceLT,Int.reduceLE,Int.reduceEq,Int.reduceNeg,↓reduceIte,reduceCtorEq,scL,scD,expand,List.replicate,c46l0,h1,h2,hcp,hkm])|(refine gC_drawW ?_)|(refine gI_dec (fun _=>?_) (fun _=>?_))|(refine gG_dec (fun _=>?_) (fun _=>?_))|(refine gPG_dec (fun _=>?_) (fun _=>?_))|(refine gI_var (fun _=>?_) (fun _=>?_))|(refine gG_var (fun _=>?_) (fun _=>?_))|(refine gPG_var (fun _=>?_) (fun _=>?_)))
    refine ⟨_,_,_,by omega,.refl _ _,k+m,rfl,by omega,by omega,?_,rfl,rfl⟩
    by_cases h3:k≤T - k
    ·rw[show k+m=k+k by omega]
     exact Nat.dvd_add hdk hdk
    ·rw[show k+m=T by omega]
     exact hdT
   ·have:k=T:=by omega
    subst this
    repeat' (first|(simp (disch:=first|omega|assumption|(refine @id ((_:Bool)=_) ?_;exact id (by with_unfolding_all rfl))|(exact Or.inl rfl)|(exact Or.inl trivial)|(exact okL_map _ (fun _=>rfl) _)|(simp only[VVlen]<;>omega)|fail) only[VV0,VV1,VV2,VV3,VV4,VV5,VV6,VV7,VV8,VV9,mkFnV,vargs,slotsL,opdsA,Nat.reduceEqDiff,Nat.reduceLT,Nat.reduceAdd,Nat.reduceBEq,Int.reduceAdd,Int.reduceSub,Int.reduceLT,Int.reduceLE,Int.reduceEq,Int.reduceNeg,↓reduceIte,reduceCtorEq,scL,scD,expand,List.replicate,c46l0])|(refine gC_drawW ?_)|(refine gI_dec (fun _=>?_) (fun _=>?_))|(refine gG_dec (fun _=>?_) (fun _=>?_))|(refine gPG_dec (fun _=>?_) (fun _=>?_))|(refine gI_var (fun _=>?_) (fun _=>?_))|(refine gG_var (fun _=>?_) (fun _=>?_))|(refine gPG_var (fun _=>?_) (fun _=>?_)))
    exact .refl _ _
end
end Go.Proofs.YtgglaaldlegckaaDoor
namespace Go.Proofs.YtgglaaldlegckaaDoor
open Go Go.Itp
set_option maxRecDepth 100000
set_option maxHeartbeats 1000000
set_option linter.unusedSimpArgs false
abbrev runV (n c:Int):V:= .agg [.sc (.int .i64 n),.sc (.int .i64 c)]
structure Run (l:List Int) (f t:Nat):Prop where
 lt:f<t
 le:t≤l.length
 all:∀ j,f≤j→j<t→l[j]! =l[f]!
 fin:t=l.length∨l[t]! ≠ l[f]!
 beg:f=0∨l[f]! ≠ l[f - 1]!
theorem runs_iter {C':Ctx} {E:Env} {a b:AC} {fr:VFr} {ps:List Nat} {d o s:Nat} {l:List Int} {J:Nat→VSt→Prop} {P:VPost} (hr:C'.E.rounds=many) (hl:l.length≤5000)
  (hT:∀ xs st Q,RoundV E a b fr ps d xs st Q→CallT C' d xs st Q) (hbox:∀ k st,J k st→∃ t,aget st.own o=some (.box t 1 [.sl s l.length (l.map iD)]))
  (hround:∀ f t st (Q:V→VSt→Prop),Run l f t→J f st→(∀ st',J t st'→Q (.sc (.bool true)) st')→RoundV E a b fr ps d [runV ((t:Int) - f) l[f]!] st Q) (hend:∀ fr st,J l.length st→P .normal fr st) (st0:VSt) (h0:J 0 st0):
  gC C' c52.code [] (vargs 0 [.tok d,.ptr o 0]) st0 P:=by
 repeat' (first|(simp (disch:=first|omega|assumption|(refine @id ((_:Bool)=_) ?_;exact id (by with_unfolding_all rfl))|(exact Or.inl rfl)|(exact Or.inl trivial)|(exact okL_map _ (fun _=>rfl) _)|(simp only[VVlen]<;>omega)|fail) only[VV0,VV1,VV2,VV3,VV4,VV5,VV6,VV7,VV8,VV9,mkFnV,vargs,slotsL,opdsA,Nat.reduceEqDiff,Nat.reduceLT,Nat.reduceAdd,Nat.reduceBEq,Int.reduceAdd,Int.reduceSub,Int.reduceLT,Int.reduceLE,Int.reduceEq,Int.reduceNeg,↓reduceIte,reduceCtorEq,scL,scD,expand,List.replicate,c52])|(refine gC_drawW ?_)|(refine gI_dec (fun _=>?_) (fun _=>?_))|(refine gG_dec (fun _=>?_) (fun _=>?_))|(refine gPG_dec (fun _=>?_) (fun _=>?_))|(refine gI_var (fun _=>?_) (fun _=>?_))|(refine gG_var (fun _=>?_) (fun _=>?_))|(refine gPG_var (fun _=>?_) (fun _=>?_)))
 refine g_while (fun m fr st=>∃ k:Nat,m=l.length - k∧k≤l.length∧(k=0∨k=l.length∨l[k]! ≠ l[k - 1]!)∧J k st∧fr= [(0,.tok d),(1,.ptr o 0),(3,.sc (.int .i64 k))]) l.length ?_ ⟨_,_,.refl _ _,0,?_⟩ ?_
 ·rw[hr];unfold many;omega
 ·exact ⟨by omega,by omega,.inl rfl,h0,rfl⟩
 rintro m fr1 st ⟨k,rfl,hk,hbeg,hJ,rfl⟩
 obtain ⟨t0,hb⟩:=hbox k st hJ
 by_cases hlt:k<l.length
 case neg=>
  have:k=l.length:=by omega
  subst this
  repeat' (first|(simp (disch:=first|omega|assumption|(refine @id ((_:Bool)=_) ?_;exact id (by with_unfolding_all rfl))|(exact Or.inl rfl)|(exact Or.inl trivial)|(exact okL_map _ (fun _=>rfl) _)|(simp only[VVlen]<;>omega)|fail) only[VV0,VV1,VV2,VV3,VV4,VV5,VV6,VV7,VV8,VV9,mkFnV,vargs,slotsL,opdsA,Nat.reduceEqDiff,Nat.reduceLT,Nat.reduceAdd,Nat.reduceBEq,Int.reduceAdd,Int.reduceSub,Int.reduceLT,Int.reduceLE,Int.reduceEq,Int.reduceNeg,↓reduceIte,reduceCtorEq,scL,scD,expand,List.replicate,c52l1,hb])|(refine gC_drawW ?_)|(refine gI_dec (fun _=>?_) (fun _=>?_))|(refine gG_dec (fun _=>?_) (fun _=>?_))|(refine gPG_dec (fun _=>?_) (fun _=>?_))|(refine gI_var (fun _=>?_) (fun _=>?_))|(refine gG_var (fun _=>?_) (fun _=>?_))|(refine gPG_var (fun _=>?_) (fun _=>?_)))
  all_goals try (exfalso;omega)
  exact hend _ _ hJ
 repeat' (first|(simp (disch:=first|omega|assumption|(refine @id ((_:Bool)=_) ?_;exact id (by with_unfolding_all rfl))|(exact Or.inl rfl)|(exact Or.inl trivial)|(exact okL_map _ (fun _=>rfl) _)|(simp only[VVlen]<;>omega)|fail) only[VV0,VV1,VV2,VV3,VV4,VV5,VV6,VV7,VV8,VV9,mkFnV,vargs,slotsL,opdsA,Nat.reduceEqDiff,Nat.reduceLT,Nat.reduceAdd,Nat.reduceBEq,Int.reduceAdd,Int.reduceSub,Int.reduceLT,Int.reduceLE,Int.reduceEq,Int.reduceNeg,↓reduceIte,reduceCtorEq,scL,scD,expand,List.replicate,c52l1,hb])|(refine gC_drawW ?_)|(refine gI_dec (fun _=>?_) (fun _=>?_))|(refine gG_dec (fun _=>?_) (fun _=>?_))|(refine gPG_dec (fun _=>?_) (fun _=>?_))|(refine gI_var (fun _=>?_) (fun _=>?_))|(refine gG_var (fun _=>?_) (fun _=>?_))|(refine gPG_var (fun _=>?_) (fun _=>?_)))
 all_goals try (exfalso;omega)
 refine g_while (fun m fr st'=>∃ t:Nat,m=l.length - t∧k<t∧t≤l.length∧(∀ j,k≤j→j<t→l[j]! =l[k]!)∧st'=st∧fr= [(0,.tok d),(1,.ptr o 0),(3,.sc (.int .i64 k)),(4,.sc (.int .i64 t))]) (l.length - (k+1)) ?_ ⟨_,_,.refl _ _,k+1,?_⟩ ?_
 ·rw[hr];unfold many;omega
 ·exact ⟨rfl,by omega,by omega,fun j h1 h2=>by rw[show j=k by omega],rfl,by simp only[Int.natCast_add,Int.natCast_one]⟩
 rintro m fr2 st2 ⟨t,rfl,hkt,htl,hall,rfl,rfl⟩
 by_cases ht:t<l.length
 ·by_cases he:l[t]! =l[k]!
  ·repeat' (first|(simp (disch:=first|omega|assumption|(refine @id ((_:Bool)=_) ?_;exact id (by with_unfolding_all rfl))|(exact Or.inl rfl)|(exact Or.inl trivial)|(exact okL_map _ (fun _=>rfl) _)|(simp only[VVlen]<;>omega)|fail) only[VV0,VV1,VV2,VV3,VV4,VV5,VV6,VV7,VV8,VV9,mkFnV,vargs,slotsL,opdsA,Nat.reduceEqDiff,Nat.reduceLT,Nat.reduceAdd,Nat.reduceBEq,Int.reduceAdd,Int.reduceSub,Int.reduceLT,Int.reduceLE,Int.reduceEq,Int.reduceNeg,↓reduceIte,reduceCtorEq,scL,scD,expand,List.replicate,c52l0,iD_dv,hb,he])|(refine gC_drawW ?_)|(refine gI_dec (fun _=>?_) (fun _=>?_))|(refine gG_dec (fun _=>?_) (fun _=>?_))|(refine gPG_dec (fun _=>?_) (fun _=>?_))|(refine gI_var (fun _=>?_) (fun _=>?_))|(refine gG_var (fun _=>?_) (fun _=>?_))|(refine gPG_var (fun _=>?_) (fun _=>?_)))
   all_goals try (exfalso;omega)
   exact ⟨_,_,_,by omega,.refl _ _,t+1,rfl,by omega,ht,fun j h1 h2=>by rcases Nat.lt_succ_iff_lt_or_eq.1 h2 with h|h;exact hall j h1 h;subst h;exact he,rfl,rfl⟩
  ·repeat' (first|(simp (disch:=first|omega|assumption|(refine @id ((_:Bool)=_) ?_;exact id (by with_unfolding_all rfl))|(exact Or.inl rfl)|(exact Or.inl trivial)|(exact okL_map _ (fun _=>rfl) _)|(simp only[VVlen]<;>omega)|fail) only[VV0,VV1,VV2,VV3,VV4,VV5,VV6,VV7,VV8,VV9,mkFnV,vargs,slotsL,opdsA,Nat.reduceEqDiff,Nat.reduceLT,Nat.reduceAdd,Nat.reduceBEq,Int.reduceAdd,Int.reduceSub,Int.reduceLT,Int.reduceLE,Int.reduceEq,Int.reduceNeg,↓reduceIte,reduceCtorEq,scL,scD,expand,List.replicate,c52l0,iD_dv,hb,he])|(refine gC_drawW ?_)|(refine gI_dec (fun _=>?_) (fun _=>?_))|(refine gG_dec (fun _=>?_) (fun _=>?_))|(refine gPG_dec (fun _=>?_) (fun _=>?_))|(refine gI_var (fun _=>?_) (fun _=>?_))|(refine gG_var (fun _=>?_) (fun _=>?_))|(refine gPG_var (fun _=>?_) (fun _=>?_)))
   all_goals try (exfalso;omega)
   refine hT _ _ _ (hround k t _ _ ⟨hkt,htl,hall,.inr he,hbeg.elim .inl fun h=> .inr (h.elim (fun h=>by omega) id)⟩ hJ fun st' hJ'=>?_)
   repeat' (first|(simp (disch:=first|omega|assumption|(refine @id ((_:Bool)=_) ?_;exact id (by with_unfolding_all rfl))|(exact Or.inl rfl)|(exact Or.inl trivial)|(exact okL_map _ (fun _=>rfl) _)|(simp only[VVlen]<;>omega)|fail) only[VV0,VV1,VV2,VV3,VV4,VV5,VV6,VV7,VV8,VV9,mkFnV,vargs,slotsL,opdsA,Nat.reduceEqDiff,Nat.reduceLT,Nat.reduceAdd,Nat.reduceBEq,Int.reduceAdd,Int.reduceSub,Int.reduceLT,Int.reduceLE,Int.reduceEq,Int.reduceNeg,↓reduceIte,reduceCtorEq,scL,scD,expand,List.replicate])|(refine gC_drawW ?_)|(refine gI_dec (fun _=>?_) (fun _=>?_))|(refine gG_dec (fun _=>?_) (fun _=>?_))|(refine gPG_dec (fun _=>?_) (fun _=>?_))|(refine gI_var (fun _=>?_) (fun _=>?_))|(refine gG_var (fun _=>?_) (fun _=>?_))|(refine gPG_var (fun _=>?_) (fun _=>?_)))
   refine ⟨_,_,_,by omega,.refl _ _,t,rfl,htl,.inr (.inr ?_),hJ',rfl⟩
   rw[hall (t - 1) (by omega) (by omega)]
   exact he
 have htt:t=l.length:=by omega
 repeat' (first|(simp (disch:=first|omega|assumption|(refine @id ((_:Bool)=_) ?_;exact id (by with_unfolding_all rfl))|(exact Or.inl rfl)|(exact Or.inl trivial)|(exact okL_map _ (fun _=>rfl) _)|(simp only[VVlen]<;>omega)|fail) only[VV0,VV1,VV2,VV3,VV4,VV5,VV6,VV7,VV8,VV9,mkFnV,vargs,slotsL,opdsA,Nat.reduceEqDiff,Nat.reduceLT,Nat.reduceAdd,Nat.reduceBEq,Int.reduceAdd,Int.reduceSub,Int.reduceLT,Int.reduceLE,Int.reduceEq,Int.reduceNeg,↓reduceIte,reduceCtorEq,scL,scD,expand,List.replicate,c52l0,iD_dv,hb])|(refine gC_drawW ?_)|(refine gI_dec (fun _=>?_) (fun _=>?_))|(refine gG_dec (fun _=>?_) (fun _=>?_))|(refine gPG_dec (fun _=>?_) (fun _=>?_))|(refine gI_var (fun _=>?_) (fun _=>?_))|(refine gG_var (fun _=>?_) (fun _=>?_))|(refine gPG_var (fun _=>?_) (fun _=>?_)))
 all_goals try (exfalso;omega)
 subst htt
 refine hT _ _ _ (hround k l.length _ _ ⟨hkt,htl,hall,.inl rfl,hbeg.elim .inl fun h=> .inr (h.elim (fun h=>by omega) id)⟩ hJ fun st' hJ'=>?_)
 repeat' (first|(simp (disch:=first|omega|assumption|(refine @id ((_:Bool)=_) ?_;exact id (by with_unfolding_all rfl))|(exact Or.inl rfl)|(exact Or.inl trivial)|(exact okL_map _ (fun _=>rfl) _)|(simp only[VVlen]<;>omega)|fail) only[VV0,VV1,VV2,VV3,VV4,VV5,VV6,VV7,VV8,VV9,mkFnV,vargs,slotsL,opdsA,Nat.reduceEqDiff,Nat.reduceLT,Nat.reduceAdd,Nat.reduceBEq,Int.reduceAdd,Int.reduceSub,Int.reduceLT,Int.reduceLE,Int.reduceEq,Int.reduceNeg,↓reduceIte,reduceCtorEq,scL,scD,expand,List.replicate])|(refine gC_drawW ?_)|(refine gI_dec (fun _=>?_) (fun _=>?_))|(refine gG_dec (fun _=>?_) (fun _=>?_))|(refine gPG_dec (fun _=>?_) (fun _=>?_))|(refine gI_var (fun _=>?_) (fun _=>?_))|(refine gG_var (fun _=>?_) (fun _=>?_))|(refine gPG_var (fun _=>?_) (fun _=>?_)))
 exact ⟨_,_,_,by omega,.refl _ _,l.length,rfl,htl,.inr (.inl rfl),hJ',rfl⟩
end Go.Proofs.YtgglaaldlegckaaDoor
namespace Go.Proofs.YtgglaaldlegckaaDoor
open Go Go.Itp
set_option maxRecDepth 100000
set_option maxHeartbeats 1000000
set_option linter.unusedSimpArgs false
def incLast:List (Int × Int)→List (Int × Int)
 | []=> []
 | [p]=> [(p.1+1,p.2)]
 |p::q::r=>p::incLast (q::r)
theorem incLast_append:∀ (xs:List (Int × Int)) (p:Int × Int),incLast (xs++ [p])=xs++ [(p.1+1,p.2)]
 | [],p=>rfl
 | [x],p=>rfl
 |x::y::r,p=>by
  have:=incLast_append (y::r) p
  simp only[List.cons_append] at this ⊢
  rw[← this]
  rfl
def runsP (l:List Int):Nat→List (Int × Int)
 |0=> []
 |k+1=>if 0<k∧l[k]! =l[k - 1]! then incLast (runsP l k) else runsP l k++ [(1,l[k]!)]
theorem runsP_run {l:List Int} {f t:Nat} (h:Run l f t):runsP l t=runsP l f++ [((t:Int) - f,l[f]!)]:=by
 have key:∀ n,f+n+1≤t→runsP l (f+n+1)=runsP l f++ [(((f+n+1:Nat):Int) - f,l[f]!)]:=by
  intro n
  induction n with
  |zero=>
   intro _
   simp only[runsP,Nat.add_zero]
   rw[if_neg (fun hc=>h.beg.elim (fun h0=>by omega) (fun hb=>hb hc.2))]
   congr 3
   omega
  |succ n ih=>
   intro hn
   have e:=ih (by omega)
   have h1:=h.all (f+n+1) (by omega) (by omega)
   have h2:=h.all (f+n) (by omega) (by omega)
   rw[show f+(n+1)+1=(f+n+1)+1 by omega]
   rw[runsP,if_pos ⟨by omega,by rw[h1,show f+n+1 - 1=f+n by omega,h2]⟩,e,incLast_append]
   congr 3
   omega
 obtain ⟨n,rfl⟩:∃ n,t=f+n+1:=⟨t - f - 1,by have:=h.lt;omega⟩
 exact key n (Nat.le_refl _)
def runC (L:List (Int × Int)):List D:=L.flatMap fun p=> [iD p.1,iD p.2]
theorem runC_append (L:List (Int × Int)) (p:Int × Int):runC (L++ [p])=runC L++ [iD p.1,iD p.2]:=by simp[runC]
theorem runC_len (L:List (Int × Int)):(runC L).length=L.length*2:=by
 induction L with
 |nil=>rfl
 |cons p L ih=>simp[runC] at ih ⊢;omega
theorem runsP_len (l:List Int):∀ k,(runsP l k).length≤k
 |0=>Nat.le_refl _
 |k+1=>by
  have:=runsP_len l k
  have hi:∀ L:List (Int × Int),(incLast L).length=L.length:=fun L=>by
   induction L with
   |nil=>rfl
   |cons p L ih=>cases L with
    |nil=>rfl
    |cons q r=>simp only[incLast,List.length_cons] at ih ⊢;omega
  simp only[runsP]
  split
  ·rw[hi];omega
  ·simp;omega
theorem row1V_run (nx t:Nat) (x y:Value):mkRowV nx t 2 1 [.int .i64 0,.int .i64 0] [(0,2,.agg [.sc x,.sc y])]=some (.ref nx 0 1 1,some (.row t 2 false false [.sc x,.sc y]),[]):=(rfl)
def idR (os:List Nat):List (Nat × Nat):=os.map fun o=>(o,o)
theorem okRen_id (base k:Nat):∀ os:List Nat,os.Nodup→(∀ o ∈ os,o<k)→okRen base 0 k (idR os)=true
 | [],_,_=>rfl
 |o::r,hn,hk=>by
  rw[List.nodup_cons] at hn
  have h1:∀ r:List Nat,o ∉ r→notIn o (idR r)=true∧notKey o (idR r)=true:=by
   intro r
   induction r with
   |nil=>intro _;exact ⟨rfl,rfl⟩
   |cons x r ih=>
    intro hx
    rw[List.mem_cons,not_or] at hx
    have hb:Nat.beq o x=false:=nbf.2 hx.1
    have:=ih hx.2
    exact ⟨by simp only[idR,List.map_cons,notIn,hb];exact this.1,by simp only[idR,List.map_cons,notKey,hb];exact this.2⟩
  have h2:=okRen_id base k r hn.2 fun x hx=>hk x (List.mem_cons_of_mem _ hx)
  have h3:=h1 r hn.1
  have h4:Nat.blt o k=true:=by rw[Nat.blt_eq];exact hk o List.mem_cons_self
  have h5:Nat.beq o o=true:=nbeq.2 rfl
  show (notIn o (idR r) && notKey o (idR r) && Nat.blt o k && (Nat.ble base o||Nat.beq o o) && (!Nat.ble 0 o||Nat.ble 0 o) && okRen base 0 k (idR r))=true
  rw[h3.1,h3.2,h4,h5,h2]
  simp
theorem weak_keep {C:Ctx} {H:VHp} {nx:Nat} (os:List Nat) (hn:os.Nodup) (hk:∀ o ∈ os,o<nx) (hb:C.w0.nx≤nx):Weak C [] ⟨H,nx,0⟩ [] ⟨renH (idR os) H (idR os),nx,0⟩:=
 weak_ren (C:=C) (st:=⟨H,nx,0⟩) (fr:= []) (idR os) nx hb (okRen_id _ _ os hn hk)
section
variable (w:World) (n:Nat)
end
end Go.Proofs.YtgglaaldlegckaaDoor
namespace Go.Proofs.YtgglaaldlegckaaDoor
open Go Go.Itp
set_option maxRecDepth 100000
set_option maxHeartbeats 1000000
set_option linter.unusedSimpArgs false
theorem snap_runs {H:VHp} {o t:Nat} {z:Bool} (R:List (Int × Int)) (h:aget H o=some (.gro t 2 z (runC R))):snapV H (.gr 2 o R.length)=some (.sl 2 R.length (runC R)):=by
 simp only[snapV,toD,h,runC_len]
 rw[if_pos (by simp)]
 rfl
section
variable (w:World) (n:Nat)
theorem runs0_p (s:Nat) (hs:s ≠ 1) (l:List Int):VSpec (EN w (n+1)) 33 [.sl s l.length (l.map iD)] (.fn 52 [] [.ptr 0 0]) ⟨[(0,.box 22 1 [.sl s l.length (l.map iD)])],1,0⟩:=by
 refine vspec_g rfl rfl (fun _ _=>rfl) (Nat.le_of_ble_eq_true rfl) (oldVals w) ?_ rfl fun C hC hn=>?_
 ·have hc:Cl [(0,.box 22 1 [.sl s l.length (l.map iD)])] (.sl s l.length (l.map iD)):=by
   simp only[Cl,okD,Bool.or_eq_true,Bool.not_eq_true',nbf];exact .inl hs
  refine ⟨?_,fun o t e L h=>?_,fun o ob h=>?_⟩
  ·simp only[Cl,ClL,and_true,true_and]
   exact ⟨_,rfl,rfl⟩
  ·obtain ⟨rfl,h2⟩:=aget_one h
   cases h2
   exact ⟨hc,trivial⟩
  ·obtain ⟨rfl,_⟩:=aget_one h
   exact fun _=>VR.root 0 (by simp[vids,vidsL])
 ·repeat' (first|(simp (disch:=first|omega|assumption|(refine @id ((_:Bool)=_) ?_;exact id (by with_unfolding_all rfl))|(exact Or.inl rfl)|(exact Or.inl trivial)|(exact okL_map _ (fun _=>rfl) _)|(simp only[VVlen]<;>omega)|fail) only[VV0,VV1,VV2,VV3,VV4,VV5,VV6,VV7,VV8,VV9,mkFnV,vargs,slotsL,opdsA,Nat.reduceEqDiff,Nat.reduceLT,Nat.reduceAdd,Nat.reduceBEq,Int.reduceAdd,Int.reduceSub,Int.reduceLT,Int.reduceLE,Int.reduceEq,Int.reduceNeg,↓reduceIte,reduceCtorEq,scL,scD,expand,List.replicate,c33])|(refine gC_drawW ?_)|(refine gI_dec (fun _=>?_) (fun _=>?_))|(refine gG_dec (fun _=>?_) (fun _=>?_))|(refine gPG_dec (fun _=>?_) (fun _=>?_))|(refine gI_var (fun _=>?_) (fun _=>?_))|(refine gG_var (fun _=>?_) (fun _=>?_))|(refine gPG_var (fun _=>?_) (fun _=>?_)))
  exact weak_to [(0,0)] 1 hn rfl rfl rfl (by simp[renH,aget_cons,renO,vrenL,vren])
end
end Go.Proofs.YtgglaaldlegckaaDoor
namespace Go.Proofs.YtgglaaldlegckaaDoor
open Go Go.Itp
set_option maxRecDepth 100000
set_option maxHeartbeats 1000000
set_option linter.unusedSimpArgs false
theorem incLast_ne:∀ {R:List (Int × Int)},R ≠ []→∃ Q p,R=Q++ [p]∧incLast R=Q++ [(p.1+1,p.2)]:=by
 intro R h
 obtain ⟨Q,p,rfl⟩:∃ Q p,R=Q++ [p]:=⟨R.dropLast,R.getLast h,(List.dropLast_concat_getLast h).symm⟩
 exact ⟨Q,p,rfl,incLast_append Q p⟩
theorem runsP_ne (l:List Int) {k:Nat} (h:0<k):runsP l k ≠ []:=by
 obtain ⟨k,rfl⟩:∃ j,k=j+1:=⟨k - 1,by omega⟩
 induction k with
 |zero=>simp[runsP]
 |succ k ih=>
  rw[runsP]
  split
  ·obtain ⟨Q,p,h1,h2⟩:=incLast_ne (ih (by omega))
   rw[h2];simp
  ·simp
theorem runsP_cnt (l:List Int):∀ k,∀ p ∈ runsP l k,0≤p.1∧p.1≤k
 |0,p,h=>by simp[runsP] at h
 |k+1,p,h=>by
  have ih:=runsP_cnt l k
  rw[runsP] at h
  split at h
  ·rename_i hc
   obtain ⟨Q,q,h1,h2⟩:=incLast_ne (runsP_ne l hc.1)
   rw[h2] at h
   rw[h1] at ih
   rcases List.mem_append.1 h with h|h
   ·have:=ih p (List.mem_append.2 (.inl h));omega
   ·simp at h;subst h
    have:=ih q (by simp)
    simp only;omega
  ·rcases List.mem_append.1 h with h|h
   ·have:=ih p h;omega
   ·simp at h;subst h;simp only;omega
section
variable (w:World) (n:Nat)
end
end Go.Proofs.YtgglaaldlegckaaDoor
namespace Go.Proofs.YtgglaaldlegckaaDoor
open Go Go.Itp
set_option maxRecDepth 100000
set_option maxHeartbeats 1000000
set_option linter.unusedSimpArgs false
theorem snap_ints {H:VHp} {o t:Nat} {z:Bool} {l:List Int} (h:aget H o=some (.gro t 1 z (l.map iD))):snapV H (.gr 2 o l.length)=some (.sl 2 l.length (l.map iD)):=by
 simp only[snapV,toD,h,List.length_map,Nat.mul_one]
 rw[if_pos (by simp)]
 rfl
def evs (l:List Int):Nat→List Int
 |0=> []
 |k+1=>if k % 2=0 then evs l k++ [l[k]!] else evs l k
abbrev slI (l:List Int):V:= .sl 3 l.length (l.map iD)
section
variable (w:World) (n:Nat)
end
end Go.Proofs.YtgglaaldlegckaaDoor
namespace Go.Proofs.YtgglaaldlegckaaDoor
open Go Go.Itp
set_option maxRecDepth 100000
set_option maxHeartbeats 1000000
set_option linter.unusedSimpArgs false
abbrev sl2 (r:List Int × Int):V:= .tup [slI r.1,.sc (.int .i64 r.2)]
section
variable (w:World) (n:Nat)
end
end Go.Proofs.YtgglaaldlegckaaDoor
namespace Go.Proofs.YtgglaaldlegckaaDoor
open Go Go.Itp
set_option maxRecDepth 100000
set_option maxHeartbeats 1000000
set_option linter.unusedSimpArgs false
theorem runC_agg (R:List (Int × Int)) (k:Nat) (hk:k<R.length):dload (runC R) (k*2) (some 2)=some (runV R[k]!.1 R[k]!.2):=by
 have:=dload_flat (fun p:Int × Int=> [iD p.1,iD p.2]) 2 R (fun _=>rfl) (by decide) k hk
 unfold runC
 rw[this]
 rfl
section
variable (w:World) (n:Nat)
theorem same_p (s s':Nat) (a:List Int) (ha:a.length≤140737488351232):VSpec (EN w (n+1)) 21 [.sl s a.length (a.map iD),.sl s' a.length (a.map iD)] (.sc (.bool true)) ⟨[],0,0⟩:=by
 refine vspec_flat rfl rfl (fun _ _=>rfl) (Nat.le_of_ble_eq_true rfl) (oldVals w) rfl fun C hC h0=>?_
 repeat' (first|(simp (disch:=first|omega|assumption|(refine @id ((_:Bool)=_) ?_;exact id (by with_unfolding_all rfl))|(exact Or.inl rfl)|(exact Or.inl trivial)|(exact okL_map _ (fun _=>rfl) _)|(simp only[VVlen]<;>omega)|fail) only[VV0,VV1,VV2,VV3,VV4,VV5,VV6,VV7,VV8,VV9,mkFnV,vargs,slotsL,opdsA,Nat.reduceEqDiff,Nat.reduceLT,Nat.reduceAdd,Nat.reduceBEq,Int.reduceAdd,Int.reduceSub,Int.reduceLT,Int.reduceLE,Int.reduceEq,Int.reduceNeg,↓reduceIte,reduceCtorEq,scL,scD,expand,List.replicate,c21])|(refine gC_drawW ?_)|(refine gI_dec (fun _=>?_) (fun _=>?_))|(refine gG_dec (fun _=>?_) (fun _=>?_))|(refine gPG_dec (fun _=>?_) (fun _=>?_))|(refine gI_var (fun _=>?_) (fun _=>?_))|(refine gG_var (fun _=>?_) (fun _=>?_))|(refine gPG_var (fun _=>?_) (fun _=>?_)))
 refine g_while (fun m fr st=>∃ k:Nat,m=a.length - k∧k≤a.length∧fr= [(0,.sl s a.length (a.map iD)),(1,.sl s' a.length (a.map iD)),(5,.sc (.int .i64 k))]∧st=⟨[],0,0⟩) a.length ?_ ⟨_,_,.refl _ _,0,?_⟩ ?_
 ·rw[hC,callP_rounds];unfold many;omega
 ·exact ⟨by omega,by omega,rfl,rfl⟩
 ·rintro m fr st ⟨k,rfl,hk,rfl,rfl⟩
  by_cases hlt:k<a.length
  ·repeat' (first|(simp (disch:=first|omega|assumption|(refine @id ((_:Bool)=_) ?_;exact id (by with_unfolding_all rfl))|(exact Or.inl rfl)|(exact Or.inl trivial)|(exact okL_map _ (fun _=>rfl) _)|(simp only[VVlen]<;>omega)|fail) only[VV0,VV1,VV2,VV3,VV4,VV5,VV6,VV7,VV8,VV9,mkFnV,vargs,slotsL,opdsA,Nat.reduceEqDiff,Nat.reduceLT,Nat.reduceAdd,Nat.reduceBEq,Int.reduceAdd,Int.reduceSub,Int.reduceLT,Int.reduceLE,Int.reduceEq,Int.reduceNeg,↓reduceIte,reduceCtorEq,scL,scD,expand,List.replicate,c21l0,iD_dv])|(refine gC_drawW ?_)|(refine gI_dec (fun _=>?_) (fun _=>?_))|(refine gG_dec (fun _=>?_) (fun _=>?_))|(refine gPG_dec (fun _=>?_) (fun _=>?_))|(refine gI_var (fun _=>?_) (fun _=>?_))|(refine gG_var (fun _=>?_) (fun _=>?_))|(refine gPG_var (fun _=>?_) (fun _=>?_)))
   all_goals try (exfalso;omega)
   exact ⟨_,_,_,by omega,.refl _ _,k+1,rfl,hlt,rfl,rfl⟩
  ·repeat' (first|(simp (disch:=first|omega|assumption|(refine @id ((_:Bool)=_) ?_;exact id (by with_unfolding_all rfl))|(exact Or.inl rfl)|(exact Or.inl trivial)|(exact okL_map _ (fun _=>rfl) _)|(simp only[VVlen]<;>omega)|fail) only[VV0,VV1,VV2,VV3,VV4,VV5,VV6,VV7,VV8,VV9,mkFnV,vargs,slotsL,opdsA,Nat.reduceEqDiff,Nat.reduceLT,Nat.reduceAdd,Nat.reduceBEq,Int.reduceAdd,Int.reduceSub,Int.reduceLT,Int.reduceLE,Int.reduceEq,Int.reduceNeg,↓reduceIte,reduceCtorEq,scL,scD,expand,List.replicate,c21l0])|(refine gC_drawW ?_)|(refine gI_dec (fun _=>?_) (fun _=>?_))|(refine gG_dec (fun _=>?_) (fun _=>?_))|(refine gPG_dec (fun _=>?_) (fun _=>?_))|(refine gI_var (fun _=>?_) (fun _=>?_))|(refine gG_var (fun _=>?_) (fun _=>?_))|(refine gPG_var (fun _=>?_) (fun _=>?_)))
   all_goals try (exfalso;omega)
   exact weak_flat rfl h0 rfl
end
end Go.Proofs.YtgglaaldlegckaaDoor
namespace Go.Proofs.YtgglaaldlegckaaDoor
open Go Go.Itp
set_option maxRecDepth 100000
set_option maxHeartbeats 1000000
set_option linter.unusedSimpArgs false
section
variable (w:World) (n:Nat)
def selfP (b:Nat) (p:V):Prop:=p= .sc (.pointer none)∨p= .ptr b 0
theorem copyCheck_w {C:Ctx} {st:VSt} {Q:V→VSt→Prop} (hC:C.E=EN w (n+2)) (b e:Nat) (p g:V) (hb:aget st.own b=some (.box 66 e [p,g])) (hp:selfP b p) (hro:st.ro≤b)
  (hq:Q (.tup []) ⟨aset st.own b (.box 66 e [.ptr b 0,g]),st.next,st.ro⟩):CallV C 53 [.ptr b 0] st Q:=by
 refine callV_w hC rfl rfl (fun _ _=>rfl) (Nat.le_of_ble_eq_true rfl) hq fun C' hC' hn=>?_
 obtain ⟨H,nx,ro⟩:=st
 have h2:(2:Nat)≤ [p,g].length:=Nat.le_refl _
 rcases hp with rfl|rfl
 ·repeat' (first|(simp (disch:=first|omega|assumption|(refine @id ((_:Bool)=_) ?_;exact id (by with_unfolding_all rfl))|(exact Or.inl rfl)|(exact Or.inl trivial)|(exact okL_map _ (fun _=>rfl) _)|(simp only[VVlen]<;>omega)|fail) only[VV0,VV1,VV2,VV3,VV4,VV5,VV6,VV7,VV8,VV9,mkFnV,vargs,slotsL,opdsA,Nat.reduceEqDiff,Nat.reduceLT,Nat.reduceAdd,Nat.reduceBEq,Int.reduceAdd,Int.reduceSub,Int.reduceLT,Int.reduceLE,Int.reduceEq,Int.reduceNeg,↓reduceIte,reduceCtorEq,scL,scD,expand,List.replicate,c53,hb,eqNilP_ptr,eqNilP_nil])|(refine gC_drawW ?_)|(refine gI_dec (fun _=>?_) (fun _=>?_))|(refine gG_dec (fun _=>?_) (fun _=>?_))|(refine gPG_dec (fun _=>?_) (fun _=>?_))|(refine gI_var (fun _=>?_) (fun _=>?_))|(refine gG_var (fun _=>?_) (fun _=>?_))|(refine gPG_var (fun _=>?_) (fun _=>?_)))
  refine callV_same hC' (fun x s=>?_) ?_
  ·show PR w _ [x] s=some (x,[])
   rfl
  repeat' (first|(simp (disch:=first|omega|assumption|(refine @id ((_:Bool)=_) ?_;exact id (by with_unfolding_all rfl))|(exact Or.inl rfl)|(exact Or.inl trivial)|(exact okL_map _ (fun _=>rfl) _)|(simp only[VVlen]<;>omega)|fail) only[VV0,VV1,VV2,VV3,VV4,VV5,VV6,VV7,VV8,VV9,mkFnV,vargs,slotsL,opdsA,Nat.reduceEqDiff,Nat.reduceLT,Nat.reduceAdd,Nat.reduceBEq,Int.reduceAdd,Int.reduceSub,Int.reduceLT,Int.reduceLE,Int.reduceEq,Int.reduceNeg,↓reduceIte,reduceCtorEq,scL,scD,expand,List.replicate,hb,eqNilP_ptr])|(refine gC_drawW ?_)|(refine gI_dec (fun _=>?_) (fun _=>?_))|(refine gG_dec (fun _=>?_) (fun _=>?_))|(refine gPG_dec (fun _=>?_) (fun _=>?_))|(refine gI_var (fun _=>?_) (fun _=>?_))|(refine gG_var (fun _=>?_) (fun _=>?_))|(refine gPG_var (fun _=>?_) (fun _=>?_)))
  exact .refl _ _
 ·have hs:aset H b (.box 66 e [.ptr b 0,g])=H:=aset_self _ _ _ hb
  repeat' (first|(simp (disch:=first|omega|assumption|(refine @id ((_:Bool)=_) ?_;exact id (by with_unfolding_all rfl))|(exact Or.inl rfl)|(exact Or.inl trivial)|(exact okL_map _ (fun _=>rfl) _)|(simp only[VVlen]<;>omega)|fail) only[VV0,VV1,VV2,VV3,VV4,VV5,VV6,VV7,VV8,VV9,mkFnV,vargs,slotsL,opdsA,Nat.reduceEqDiff,Nat.reduceLT,Nat.reduceAdd,Nat.reduceBEq,Int.reduceAdd,Int.reduceSub,Int.reduceLT,Int.reduceLE,Int.reduceEq,Int.reduceNeg,↓reduceIte,reduceCtorEq,scL,scD,expand,List.replicate,c53,hb,eqPtrV_same,eqNilP_ptr,eqNilP_nil])|(refine gC_drawW ?_)|(refine gI_dec (fun _=>?_) (fun _=>?_))|(refine gG_dec (fun _=>?_) (fun _=>?_))|(refine gPG_dec (fun _=>?_) (fun _=>?_))|(refine gI_var (fun _=>?_) (fun _=>?_))|(refine gG_var (fun _=>?_) (fun _=>?_))|(refine gPG_var (fun _=>?_) (fun _=>?_)))
  rw[hs]
  exact .refl _ _
theorem writeString_w {C:Ctx} {st:VSt} {Q:V→VSt→Prop} (hC:C.E=EN w (n+3)) (b r:Nat) (p:V) (acc s:ByteArray) (hb:aget st.own b=some (.box 66 1 [p,.gr 2 r acc.size])) (hr:aget st.own r=some (.gro 5 1 false (strD acc))) (hp:selfP b p) (hro:st.ro≤b) (hro2:st.ro≤r) (hrb:r ≠ b) (hlt:b ≠ st.next)
  (hsz:acc.size+s.size≤1099511627776) (hq:Q (.tup [.sc (.int .i64 s.size),.sc .nilIface]) ⟨(st.next,.gro 5 1 false (strD (acc++s)))::aset (adel r st.own) b (.box 66 1 [.ptr b 0,.gr 2 st.next (acc.size+s.size)]),st.next+1,st.ro⟩):
  CallV C 34 [.ptr b 0,.sc (.string s)] st Q:=by
 refine callV_w hC rfl rfl (fun _ _=>rfl) (Nat.le_of_ble_eq_true rfl) hq fun C' hC' hn=>?_
 obtain ⟨H,nx,ro⟩:=st
 have h1:=strD_len acc
 have h2:=strD_ok s
 have a1:aget (aset H b (.box 66 1 [.ptr b 0,.gr 2 r acc.size])) b=some (.box 66 1 [.ptr b 0,.gr 2 r acc.size]):=aget_aset_eq hb
 have a2:aget (aset H b (.box 66 1 [.ptr b 0,.gr 2 r acc.size])) r=some (.gro 5 1 false (strD acc)):=by rw[aget_aset _ _ _ _ _ hb,if_neg hrb];exact hr
 have hbr:¬ b=r:=fun e=>hrb e.symm
 have a3:aget (adel r (aset H b (.box 66 1 [.ptr b 0,.gr 2 r acc.size]))) b=some (.box 66 1 [.ptr b 0,.gr 2 r acc.size]):=by rw[aget_adel,if_neg hbr];exact a1
 repeat' (first|(simp (disch:=first|omega|assumption|(refine @id ((_:Bool)=_) ?_;exact id (by with_unfolding_all rfl))|(exact Or.inl rfl)|(exact Or.inl trivial)|(exact okL_map _ (fun _=>rfl) _)|(simp only[VVlen]<;>omega)|fail) only[VV0,VV1,VV2,VV3,VV4,VV5,VV6,VV7,VV8,VV9,mkFnV,vargs,slotsL,opdsA,Nat.reduceEqDiff,Nat.reduceLT,Nat.reduceAdd,Nat.reduceBEq,Int.reduceAdd,Int.reduceSub,Int.reduceLT,Int.reduceLE,Int.reduceEq,Int.reduceNeg,↓reduceIte,reduceCtorEq,scL,scD,expand,List.replicate,c34])|(refine gC_drawW ?_)|(refine gI_dec (fun _=>?_) (fun _=>?_))|(refine gG_dec (fun _=>?_) (fun _=>?_))|(refine gPG_dec (fun _=>?_) (fun _=>?_))|(refine gI_var (fun _=>?_) (fun _=>?_))|(refine gG_var (fun _=>?_) (fun _=>?_))|(refine gPG_var (fun _=>?_) (fun _=>?_)))
 refine copyCheck_w w n hC' b 1 p _ hb hp hro ?_
 repeat' (first|(simp (disch:=first|omega|assumption|(refine @id ((_:Bool)=_) ?_;exact id (by with_unfolding_all rfl))|(exact Or.inl rfl)|(exact Or.inl trivial)|(exact okL_map _ (fun _=>rfl) _)|(simp only[VVlen]<;>omega)|fail) only[VV0,VV1,VV2,VV3,VV4,VV5,VV6,VV7,VV8,VV9,mkFnV,vargs,slotsL,opdsA,Nat.reduceEqDiff,Nat.reduceLT,Nat.reduceAdd,Nat.reduceBEq,Int.reduceAdd,Int.reduceSub,Int.reduceLT,Int.reduceLE,Int.reduceEq,Int.reduceNeg,↓reduceIte,reduceCtorEq,scL,scD,expand,List.replicate,a1,a2,a3,srcOf_str,strD_eq,hbr,hlt,strD_append,frozA_none])|(refine gC_drawW ?_)|(refine gI_dec (fun _=>?_) (fun _=>?_))|(refine gG_dec (fun _=>?_) (fun _=>?_))|(refine gPG_dec (fun _=>?_) (fun _=>?_))|(refine gI_var (fun _=>?_) (fun _=>?_))|(refine gG_var (fun _=>?_) (fun _=>?_))|(refine gPG_var (fun _=>?_) (fun _=>?_)))
 rw[adel_aset _ _ _ _ hrb,aset_aset]
 exact .refl _ _
theorem string_w {C:Ctx} {st:VSt} {Q:V→VSt→Prop} (hC:C.E=EN w (n+1)) (b r:Nat) (p:V) (acc:ByteArray) (hb:aget st.own b=some (.box 66 1 [p,.gr 2 r acc.size])) (hr:aget st.own r=some (.gro 5 1 false (strD acc))) (hro:st.ro≤b) (hro2:st.ro≤r)
  (hsz:acc.size≤1099511627776) (hq:∀ st',st'.ro=st.ro→Q (.sc (.string acc)) st'):CallV C 37 [.ptr b 0] st Q:=by
 obtain ⟨H,nx,ro⟩:=st
 by_cases h0:acc.size=0
 ·rw[h0] at hb
  have hs:acc=ByteArray.empty:=by
   apply ByteArray.ext;apply Array.ext'
   rw[List.eq_nil_of_length_eq_zero (show acc.data.toList.length=0 by simpa using h0)]
   rfl
  refine callV_wW (st':=⟨aset H b (.box 66 1 [p,.sc (.slice none 0 0)]),nx,ro⟩) hC rfl rfl (fun _ _=>rfl) (Nat.le_of_ble_eq_true rfl) (hq ⟨aset H b (.box 66 1 [p,.sc (.slice none 0 0)]),nx,ro⟩ rfl) (fun C' hn=>?_) fun C' hC' hn=>?_
  ·exact weak_cell (C:=C') (st:=⟨H,nx,ro⟩) (k:=1) hb rfl same_gr0
  have a1:aget (aset H b (.box 66 1 [p,.sc (.slice none 0 0)])) b=some (.box 66 1 [p,.sc (.slice none 0 0)]):=aget_aset_eq hb
  rw[hs]
  repeat' (first|(simp (disch:=first|omega|assumption|(refine @id ((_:Bool)=_) ?_;exact id (by with_unfolding_all rfl))|(exact Or.inl rfl)|(exact Or.inl trivial)|(exact okL_map _ (fun _=>rfl) _)|(simp only[VVlen]<;>omega)|fail) only[VV0,VV1,VV2,VV3,VV4,VV5,VV6,VV7,VV8,VV9,mkFnV,vargs,slotsL,opdsA,Nat.reduceEqDiff,Nat.reduceLT,Nat.reduceAdd,Nat.reduceBEq,Int.reduceAdd,Int.reduceSub,Int.reduceLT,Int.reduceLE,Int.reduceEq,Int.reduceNeg,↓reduceIte,reduceCtorEq,scL,scD,expand,List.replicate,c37,a1,vustr_nil])|(refine gC_drawW ?_)|(refine gI_dec (fun _=>?_) (fun _=>?_))|(refine gG_dec (fun _=>?_) (fun _=>?_))|(refine gPG_dec (fun _=>?_) (fun _=>?_))|(refine gI_var (fun _=>?_) (fun _=>?_))|(refine gG_var (fun _=>?_) (fun _=>?_))|(refine gPG_var (fun _=>?_) (fun _=>?_)))
  exact .refl _ _
 ·refine callV_w hC rfl rfl (fun _ _=>rfl) (Nat.le_of_ble_eq_true rfl) (hq ⟨adel r H,nx,ro⟩ rfl) fun C' hC' hn=>?_
  have hv:=vustr_gro ⟨H,nx,ro⟩ 5 1 r acc hr hro2 (by omega) hsz
  repeat' (first|(simp (disch:=first|omega|assumption|(refine @id ((_:Bool)=_) ?_;exact id (by with_unfolding_all rfl))|(exact Or.inl rfl)|(exact Or.inl trivial)|(exact okL_map _ (fun _=>rfl) _)|(simp only[VVlen]<;>omega)|fail) only[VV0,VV1,VV2,VV3,VV4,VV5,VV6,VV7,VV8,VV9,mkFnV,vargs,slotsL,opdsA,Nat.reduceEqDiff,Nat.reduceLT,Nat.reduceAdd,Nat.reduceBEq,Int.reduceAdd,Int.reduceSub,Int.reduceLT,Int.reduceLE,Int.reduceEq,Int.reduceNeg,↓reduceIte,reduceCtorEq,scL,scD,expand,List.replicate,c37,hb,h0,hv])|(refine gC_drawW ?_)|(refine gI_dec (fun _=>?_) (fun _=>?_))|(refine gG_dec (fun _=>?_) (fun _=>?_))|(refine gPG_dec (fun _=>?_) (fun _=>?_))|(refine gI_var (fun _=>?_) (fun _=>?_))|(refine gG_var (fun _=>?_) (fun _=>?_))|(refine gPG_var (fun _=>?_) (fun _=>?_)))
  exact .refl _ _
end
end Go.Proofs.YtgglaaldlegckaaDoor
namespace Go.Proofs.YtgglaaldlegckaaDoor
open Go Go.Itp
set_option maxRecDepth 100000
set_option maxHeartbeats 1000000
set_option linter.unusedSimpArgs false
abbrev strV (l:List UInt8):V:= .sc (.string ⟨l.toArray⟩)
section
variable (w:World) (n:Nat)
theorem decimal_p (x:Nat) (hx:x≤1000000000000):VSpec (EN w (n+1)) 38 [.sc (.int .i64 x)] (strV (Lib.decDigits x)) ⟨[],0,0⟩:=by
 refine vspec_flat rfl rfl (fun _ _=>rfl) (Nat.le_of_ble_eq_true rfl) (oldVals w) rfl fun C hC h0=>?_
 repeat' (first|(simp (disch:=first|omega|assumption|(refine @id ((_:Bool)=_) ?_;exact id (by with_unfolding_all rfl))|(exact Or.inl rfl)|(exact Or.inl trivial)|(exact okL_map _ (fun _=>rfl) _)|(simp only[VVlen]<;>omega)|fail) only[VV0,VV1,VV2,VV3,VV4,VV5,VV6,VV7,VV8,VV9,mkFnV,vargs,slotsL,opdsA,Nat.reduceEqDiff,Nat.reduceLT,Nat.reduceAdd,Nat.reduceBEq,Int.reduceAdd,Int.reduceSub,Int.reduceLT,Int.reduceLE,Int.reduceEq,Int.reduceNeg,↓reduceIte,reduceCtorEq,scL,scD,expand,List.replicate,c38])|(refine gC_drawW ?_)|(refine gI_dec (fun _=>?_) (fun _=>?_))|(refine gG_dec (fun _=>?_) (fun _=>?_))|(refine gPG_dec (fun _=>?_) (fun _=>?_))|(refine gI_var (fun _=>?_) (fun _=>?_))|(refine gG_var (fun _=>?_) (fun _=>?_))|(refine gPG_var (fun _=>?_) (fun _=>?_)))
 refine g_while (fun m fr st=>∃ (k:Nat) (s:List UInt8),m=k∧k≤x∧Lib.decDigits x=Lib.decDigits k++s∧s.length+k≤x∧fr= [(0,.sc (.int .i64 k)),(3,strV s)]∧st=⟨[],0,0⟩) x ?_ ⟨_,_,.refl _ _,x,[],?_⟩ ?_
 ·rw[hC,callP_rounds];unfold many;omega
 ·exact ⟨rfl,Nat.le_refl _,by simp,by simp,rfl,rfl⟩
 ·rintro k fr st ⟨_,s,rfl,hk,hd,hsl,rfl,rfl⟩
  have hs1:∀ c:UInt8,(ByteArray.mk [c].toArray).size+(ByteArray.mk s.toArray).size<9223372036854775807:=fun c=>by
   show 1+s.toArray.size<_
   simp;omega
  by_cases hlt:9<k
  ·have hd':=dec_step hd hlt
   have e1:(k:Int) % 10=((k % 10:Nat):Int):=by omega
   have e2:(k:Int) / 10=((k / 10:Nat):Int):=by omega
   have e4:(48:Int)+((k % 10:Nat):Int)=((48+k % 10:Nat):Int):=by omega
   have e3:=wrap_byte (48+k % 10) (by omega)
   have e5:=b2s_one (o:=0) (t:=5) (g:=false) (z:=false) (H:= [(0,.row 5 1 false false [.sc (.int .u8 ((48+k % 10:Nat):Int))])]) (48+k % 10) (by omega) rfl 1
   repeat' (first|(simp (disch:=first|omega|assumption|(refine @id ((_:Bool)=_) ?_;exact id (by with_unfolding_all rfl))|(exact Or.inl rfl)|(exact Or.inl trivial)|(exact okL_map _ (fun _=>rfl) _)|(simp only[VVlen]<;>omega)|fail) only[VV0,VV1,VV2,VV3,VV4,VV5,VV6,VV7,VV8,VV9,mkFnV,vargs,slotsL,opdsA,Nat.reduceEqDiff,Nat.reduceLT,Nat.reduceAdd,Nat.reduceBEq,Int.reduceAdd,Int.reduceSub,Int.reduceLT,Int.reduceLE,Int.reduceEq,Int.reduceNeg,↓reduceIte,reduceCtorEq,scL,scD,expand,List.replicate,c38l0,e1,e2,e4,e3,e5,b_sadd _ _ (hs1 (UInt8.ofNat (48+k % 10))),bytes_cat])|(refine gC_drawW ?_)|(refine gI_dec (fun _=>?_) (fun _=>?_))|(refine gG_dec (fun _=>?_) (fun _=>?_))|(refine gPG_dec (fun _=>?_) (fun _=>?_))|(refine gI_var (fun _=>?_) (fun _=>?_))|(refine gG_var (fun _=>?_) (fun _=>?_))|(refine gPG_var (fun _=>?_) (fun _=>?_)))
   refine ⟨_,_,_,?_,weak_to [] 0 h0 rfl rfl rfl rfl,k / 10,UInt8.ofNat (48+k % 10)::s,rfl,by omega,hd',by simp;omega,?_,?_⟩
   ·omega
   ·simp[renF,vren]
   ·simp[renH]
  ·have e4:(48:Int)+(k:Int)=((48+k:Nat):Int):=by omega
   have e3:=wrap_byte (48+k) (by omega)
   have e5:=b2s_one (o:=0) (t:=5) (g:=false) (z:=false) (H:= [(0,.row 5 1 false false [.sc (.int .u8 ((48+k:Nat):Int))])]) (48+k) (by omega) rfl 1
   have hd':Lib.decDigits x= [UInt8.ofNat (48+k)]++s:=by rw[hd,Lib.decDigits,dif_pos (by omega)]
   rw[hd']
   repeat' (first|(simp (disch:=first|omega|assumption|(refine @id ((_:Bool)=_) ?_;exact id (by with_unfolding_all rfl))|(exact Or.inl rfl)|(exact Or.inl trivial)|(exact okL_map _ (fun _=>rfl) _)|(simp only[VVlen]<;>omega)|fail) only[VV0,VV1,VV2,VV3,VV4,VV5,VV6,VV7,VV8,VV9,mkFnV,vargs,slotsL,opdsA,Nat.reduceEqDiff,Nat.reduceLT,Nat.reduceAdd,Nat.reduceBEq,Int.reduceAdd,Int.reduceSub,Int.reduceLT,Int.reduceLE,Int.reduceEq,Int.reduceNeg,↓reduceIte,reduceCtorEq,scL,scD,expand,List.replicate,c38l0,e4,e3,e5,b_sadd _ _ (hs1 (UInt8.ofNat (48+k))),bytes_cat])|(refine gC_drawW ?_)|(refine gI_dec (fun _=>?_) (fun _=>?_))|(refine gG_dec (fun _=>?_) (fun _=>?_))|(refine gPG_dec (fun _=>?_) (fun _=>?_))|(refine gI_var (fun _=>?_) (fun _=>?_))|(refine gG_var (fun _=>?_) (fun _=>?_))|(refine gPG_var (fun _=>?_) (fun _=>?_)))
   exact weak_flat rfl h0 rfl
end
end Go.Proofs.YtgglaaldlegckaaDoor
namespace Go.Proofs.YtgglaaldlegckaaDoor
open Go Go.Itp
set_option maxRecDepth 100000
set_option maxHeartbeats 1000000
set_option linter.unusedSimpArgs false
def txt1 (p:Int × Int):List UInt8:=Lib.itoa p.1++(120::Lib.itoa p.2)
def txt (R:List (Int × Int)):List UInt8:=R.foldl (fun acc p=>(if acc= [] then [] else acc++ [32])++txt1 p) []
theorem txt_snoc (R:List (Int × Int)) (p:Int × Int):txt (R++ [p])=(if txt R= [] then [] else txt R++ [32])++txt1 p:=by
 unfold txt
 rw[List.foldl_append]
 rfl
theorem txt1_ne (p:Int × Int):txt1 p ≠ []:=by simp[txt1]
theorem txt_nil_iff (R:List (Int × Int)):txt R= []↔R= []:=by
 constructor
 ·intro h
  by_cases hR:R= []
  ·exact hR
  ·obtain ⟨Q,p,rfl⟩:∃ Q p,R=Q++ [p]:=⟨R.dropLast,R.getLast hR,(List.dropLast_concat_getLast hR).symm⟩
   rw[txt_snoc] at h
   exact absurd (List.append_eq_nil_iff.1 h).2 (txt1_ne p)
 ·rintro rfl;rfl
theorem chk_facts {l:List Int} (h:chk l=0):l.length≤4000∧∀ k,k<l.length→0≤l[k]! ∧l[k]! ≤15:=by
 unfold chk at h
 split at h
 ·cases h
 ·rename_i h4
  split at h
  ·rename_i ha
   refine ⟨by omega,fun k hk=>?_⟩
   have:=List.all_eq_true.1 ha l[k]! (by rw[getElem!_pos l k hk];exact List.getElem_mem hk)
   simpa [col] using this
  ·cases h
theorem runsP_col (l:List Int):∀ k,∀ p ∈ runsP l k,∃ j,j<k∧p.2=l[j]!
 |0,p,h=>by simp[runsP] at h
 |k+1,p,h=>by
  have ih:=runsP_col l k
  rw[runsP] at h
  split at h
  ·rename_i hc
   obtain ⟨Q,q,h1,h2⟩:=incLast_ne (runsP_ne l hc.1)
   rw[h2] at h
   rw[h1] at ih
   rcases List.mem_append.1 h with h|h
   ·obtain ⟨j,a,b⟩:=ih p (List.mem_append.2 (.inl h));exact ⟨j,by omega,b⟩
   ·simp at h;subst h
    obtain ⟨j,a,b⟩:=ih q (by simp);exact ⟨j,by omega,b⟩
  ·rcases List.mem_append.1 h with h|h
   ·obtain ⟨j,a,b⟩:=ih p h;exact ⟨j,by omega,b⟩
   ·obtain rfl:=List.mem_singleton.1 h;exact ⟨k,by omega,rfl⟩
theorem txt_len:∀ (R:List (Int × Int)),(∀ p ∈ R,(0≤p.1∧p.1≤5000)∧0≤p.2∧p.2≤5000)→(txt R).length≤50*R.length:=by
 intro R
 induction h:R.length generalizing R with
 |zero=>intro _;rw[List.eq_nil_of_length_eq_zero h];exact Nat.le_refl _
 |succ m ih=>
  intro hR
  have hne:R ≠ []:=by rintro rfl;simp at h
  obtain ⟨Q,p,rfl⟩:∃ Q p,R=Q++ [p]:=⟨R.dropLast,R.getLast hne,(List.dropLast_concat_getLast hne).symm⟩
  have:=ih Q (by simpa using h) fun q hq=>hR q (List.mem_append.2 (.inl hq))
  obtain ⟨⟨a1,a2⟩,a3,a4⟩:=hR p (by simp)
  have k1:=Lib.itoa_length_le p.1 (by omega) (by omega)
  have k2:=Lib.itoa_length_le p.2 (by omega) (by omega)
  rw[txt_snoc]
  split
  ·simp[txt1];omega
  ·simp[txt1];omega
def textF (l:List Int):List UInt8 × Int:=if chk l=0 then (txt (runsP l l.length),0) else ([],chk l)
section
variable (w:World) (n:Nat)
theorem len_o (st:VSt) (b r:Nat) (p:V) (acc:ByteArray) (hb:aget st.own b=some (.box 66 1 [p,.gr 2 r acc.size])):VSpecO (EN w (n+1)) 35 st [.ptr b 0] (.sc (.int .i64 acc.size)):=by
 obtain ⟨H,nx,ro⟩:=st
 refine vspecO_g rfl rfl (fun _ _=>rfl) (Nat.le_of_ble_eq_true rfl) rfl fun C hC hn=>⟨⟨H,nx,nx⟩,?_⟩
 repeat' (first|(simp (disch:=first|omega|assumption|(refine @id ((_:Bool)=_) ?_;exact id (by with_unfolding_all rfl))|(exact Or.inl rfl)|(exact Or.inl trivial)|(exact okL_map _ (fun _=>rfl) _)|(simp only[VVlen]<;>omega)|fail) only[VV0,VV1,VV2,VV3,VV4,VV5,VV6,VV7,VV8,VV9,mkFnV,vargs,slotsL,opdsA,Nat.reduceEqDiff,Nat.reduceLT,Nat.reduceAdd,Nat.reduceBEq,Int.reduceAdd,Int.reduceSub,Int.reduceLT,Int.reduceLE,Int.reduceEq,Int.reduceNeg,↓reduceIte,reduceCtorEq,scL,scD,expand,List.replicate,c35,hb])|(refine gC_drawW ?_)|(refine gI_dec (fun _=>?_) (fun _=>?_))|(refine gG_dec (fun _=>?_) (fun _=>?_))|(refine gPG_dec (fun _=>?_) (fun _=>?_))|(refine gI_var (fun _=>?_) (fun _=>?_))|(refine gG_var (fun _=>?_) (fun _=>?_))|(refine gPG_var (fun _=>?_) (fun _=>?_)))
 exact .refl _ _
theorem text_p (s:Nat) (hs:s ≠ 1) (l:List Int) (hl:l.length≤140737488351232):VSpec (EN w (n+7)) 12 [.sl s l.length (l.map iD)] (.tup [strV (textF l).1,.sc (.int .i64 (textF l).2)]) ⟨[],0,0⟩:=by
 refine vspec_flat rfl rfl (fun _ _=>rfl) (Nat.le_of_ble_eq_true rfl) (oldVals w) rfl fun C hC hn=>?_
 repeat' (first|(simp (disch:=first|omega|assumption|(refine @id ((_:Bool)=_) ?_;exact id (by with_unfolding_all rfl))|(exact Or.inl rfl)|(exact Or.inl trivial)|(exact okL_map _ (fun _=>rfl) _)|(simp only[VVlen]<;>omega)|fail) only[VV0,VV1,VV2,VV3,VV4,VV5,VV6,VV7,VV8,VV9,mkFnV,vargs,slotsL,opdsA,Nat.reduceEqDiff,Nat.reduceLT,Nat.reduceAdd,Nat.reduceBEq,Int.reduceAdd,Int.reduceSub,Int.reduceLT,Int.reduceLE,Int.reduceEq,Int.reduceNeg,↓reduceIte,reduceCtorEq,scL,scD,expand,List.replicate,c12])|(refine gC_drawW ?_)|(refine gI_dec (fun _=>?_) (fun _=>?_))|(refine gG_dec (fun _=>?_) (fun _=>?_))|(refine gPG_dec (fun _=>?_) (fun _=>?_))|(refine gI_var (fun _=>?_) (fun _=>?_))|(refine gG_var (fun _=>?_) (fun _=>?_))|(refine gPG_var (fun _=>?_) (fun _=>?_)))
 refine callV_flat ((check_p w (n+1) s l hl).of hC rfl _ rfl) ?_
 by_cases h0:chk l=0
 case neg=>
  have e:textF l=([],chk l):=if_neg h0
  rw[e]
  repeat' (first|(simp (disch:=first|omega|assumption|(refine @id ((_:Bool)=_) ?_;exact id (by with_unfolding_all rfl))|(exact Or.inl rfl)|(exact Or.inl trivial)|(exact okL_map _ (fun _=>rfl) _)|(simp only[VVlen]<;>omega)|fail) only[VV0,VV1,VV2,VV3,VV4,VV5,VV6,VV7,VV8,VV9,mkFnV,vargs,slotsL,opdsA,Nat.reduceEqDiff,Nat.reduceLT,Nat.reduceAdd,Nat.reduceBEq,Int.reduceAdd,Int.reduceSub,Int.reduceLT,Int.reduceLE,Int.reduceEq,Int.reduceNeg,↓reduceIte,reduceCtorEq,scL,scD,expand,List.replicate])|(refine gC_drawW ?_)|(refine gI_dec (fun _=>?_) (fun _=>?_))|(refine gG_dec (fun _=>?_) (fun _=>?_))|(refine gPG_dec (fun _=>?_) (fun _=>?_))|(refine gI_var (fun _=>?_) (fun _=>?_))|(refine gG_var (fun _=>?_) (fun _=>?_))|(refine gPG_var (fun _=>?_) (fun _=>?_)))
  all_goals try (exfalso;omega)
  exact weak_flat rfl hn rfl
 obtain ⟨hl4,hcol⟩:=chk_facts h0
 have e:textF l=(txt (runsP l l.length),0):=if_pos h0
 rw[e,h0]
 repeat' (first|(simp (disch:=first|omega|assumption|(refine @id ((_:Bool)=_) ?_;exact id (by with_unfolding_all rfl))|(exact Or.inl rfl)|(exact Or.inl trivial)|(exact okL_map _ (fun _=>rfl) _)|(simp only[VVlen]<;>omega)|fail) only[VV0,VV1,VV2,VV3,VV4,VV5,VV6,VV7,VV8,VV9,mkFnV,vargs,slotsL,opdsA,Nat.reduceEqDiff,Nat.reduceLT,Nat.reduceAdd,Nat.reduceBEq,Int.reduceAdd,Int.reduceSub,Int.reduceLT,Int.reduceLE,Int.reduceEq,Int.reduceNeg,↓reduceIte,reduceCtorEq,scL,scD,expand,List.replicate])|(refine gC_drawW ?_)|(refine gI_dec (fun _=>?_) (fun _=>?_))|(refine gG_dec (fun _=>?_) (fun _=>?_))|(refine gPG_dec (fun _=>?_) (fun _=>?_))|(refine gI_var (fun _=>?_) (fun _=>?_))|(refine gG_var (fun _=>?_) (fun _=>?_))|(refine gPG_var (fun _=>?_) (fun _=>?_)))
 refine callV_of (by rw[hC];exact runs0_p w (n+5) s hs l) rfl rfl rfl ?_
 repeat' (first|(simp (disch:=first|omega|assumption|(refine @id ((_:Bool)=_) ?_;exact id (by with_unfolding_all rfl))|(exact Or.inl rfl)|(exact Or.inl trivial)|(exact okL_map _ (fun _=>rfl) _)|(simp only[VVlen]<;>omega)|fail) only[VV0,VV1,VV2,VV3,VV4,VV5,VV6,VV7,VV8,VV9,mkFnV,vargs,slotsL,opdsA,Nat.reduceEqDiff,Nat.reduceLT,Nat.reduceAdd,Nat.reduceBEq,Int.reduceAdd,Int.reduceSub,Int.reduceLT,Int.reduceLE,Int.reduceEq,Int.reduceNeg,↓reduceIte,reduceCtorEq,scL,scD,expand,List.replicate,vsh,shH,shO,vshL,fzSL,fzS])|(refine gC_drawW ?_)|(refine gI_dec (fun _=>?_) (fun _=>?_))|(refine gG_dec (fun _=>?_) (fun _=>?_))|(refine gPG_dec (fun _=>?_) (fun _=>?_))|(refine gI_var (fun _=>?_) (fun _=>?_))|(refine gG_var (fun _=>?_) (fun _=>?_))|(refine gPG_var (fun _=>?_) (fun _=>?_)))
 refine g_rangeW (weak_nilCell (C:=C) (l:= [.sc (.pointer none),.sc (.slice none 0 0)]) 0 66 1 1 5 1 rfl rfl (fun h=>absurd (show (0:Nat)=3 from h) (by decide))) ?_
 refine g_range hC rfl rfl rfl (Nat.le_of_ble_eq_true rfl) rfl (Nat.zero_le _) fun C2 h2n h2r h2p h2o hT=>?_
 repeat' (first|(simp (disch:=first|omega|assumption|(refine @id ((_:Bool)=_) ?_;exact id (by with_unfolding_all rfl))|(exact Or.inl rfl)|(exact Or.inl trivial)|(exact okL_map _ (fun _=>rfl) _)|(simp only[VVlen]<;>omega)|fail) only[VV0,VV1,VV2,VV3,VV4,VV5,VV6,VV7,VV8,VV9,mkFnV,vargs,slotsL,opdsA,Nat.reduceEqDiff,Nat.reduceLT,Nat.reduceAdd,Nat.reduceBEq,Int.reduceAdd,Int.reduceSub,Int.reduceLT,Int.reduceLE,Int.reduceEq,Int.reduceNeg,↓reduceIte,reduceCtorEq,scL,scD,expand,List.replicate])|(refine gC_drawW ?_)|(refine gI_dec (fun _=>?_) (fun _=>?_))|(refine gG_dec (fun _=>?_) (fun _=>?_))|(refine gPG_dec (fun _=>?_) (fun _=>?_))|(refine gI_var (fun _=>?_) (fun _=>?_))|(refine gG_var (fun _=>?_) (fun _=>?_))|(refine gPG_var (fun _=>?_) (fun _=>?_)))
 refine runs_iter (d:=4) (o:=2) (s:=s) (l:=l) (J:=fun t st=>∃ r nx p acc,(r ≠ 0∧r ≠ 1∧r ≠ 2∧r ≠ 4∧r<nx∧4<nx)∧selfP 0 p∧acc.data.toList=txt (runsP l t)∧
  st=⟨[(4,recO 0),(r,.gro 5 1 false (strD acc)),(2,.box 22 1 [.sl s l.length (l.map iD)]),(1,.box 67 1 [.fn 34 [.ptr 0 0] []]),(0,.box 66 1 [p,.gr 2 r acc.size])],nx,0⟩) h2r (by omega) hT ?_ ?_ ?_ _ ?_
 ·rintro k st ⟨r,nx,p,acc,⟨h1,h2,h3,h4,h5,h6⟩,hp,ha,rfl⟩
  have b1:¬ 2=r:=fun h=>h3 h.symm
  exact ⟨22,by simp[aget_cons,h1,h2,h3,h4,b1]⟩
 ·rintro f t st Q2 hrun ⟨r,nx,p,acc,⟨h1,h2,h3,h4,h5,h6⟩,hp,ha,rfl⟩ hq2
  have b1:¬ (4=nx):=by omega
  have b2:¬ (r=nx):=by omega
  have b3:¬ (2=nx):=by omega
  have b4:¬ (1=nx):=by omega
  have b5:¬ (0=nx):=by omega
  have b6:¬ (4=r):=fun h=>h4 h.symm
  have b7:¬ (2=r):=fun h=>h3 h.symm
  have b8:¬ (1=r):=fun h=>h2 h.symm
  have b9:¬ (0=r):=fun h=>h1 h.symm
  refine ⟨Nat.zero_le _,rfl,h6,_,rfl,fun C4 h4c h4n=>?_⟩
  repeat' (first|(simp (disch:=first|omega|assumption|(refine @id ((_:Bool)=_) ?_;exact id (by with_unfolding_all rfl))|(exact Or.inl rfl)|(exact Or.inl trivial)|(exact okL_map _ (fun _=>rfl) _)|(simp only[VVlen]<;>omega)|fail) only[VV0,VV1,VV2,VV3,VV4,VV5,VV6,VV7,VV8,VV9,mkFnV,vargs,slotsL,opdsA,Nat.reduceEqDiff,Nat.reduceLT,Nat.reduceAdd,Nat.reduceBEq,Int.reduceAdd,Int.reduceSub,Int.reduceLT,Int.reduceLE,Int.reduceEq,Int.reduceNeg,↓reduceIte,reduceCtorEq,scL,scD,expand,List.replicate,b1,b2,b3,b4,b5,b6,b7,b8,b9,h1,h2,h3,h4])|(refine gC_drawW ?_)|(refine gI_dec (fun _=>?_) (fun _=>?_))|(refine gG_dec (fun _=>?_) (fun _=>?_))|(refine gPG_dec (fun _=>?_) (fun _=>?_))|(refine gI_var (fun _=>?_) (fun _=>?_))|(refine gG_var (fun _=>?_) (fun _=>?_))|(refine gPG_var (fun _=>?_) (fun _=>?_)))
  refine ⟨trivial,Nat.zero_le _,trivial,?_⟩
  repeat' (first|(simp (disch:=first|omega|assumption|(refine @id ((_:Bool)=_) ?_;exact id (by with_unfolding_all rfl))|(exact Or.inl rfl)|(exact Or.inl trivial)|(exact okL_map _ (fun _=>rfl) _)|(simp only[VVlen]<;>omega)|fail) only[VV0,VV1,VV2,VV3,VV4,VV5,VV6,VV7,VV8,VV9,mkFnV,vargs,slotsL,opdsA,Nat.reduceEqDiff,Nat.reduceLT,Nat.reduceAdd,Nat.reduceBEq,Int.reduceAdd,Int.reduceSub,Int.reduceLT,Int.reduceLE,Int.reduceEq,Int.reduceNeg,↓reduceIte,reduceCtorEq,scL,scD,expand,List.replicate,b1,b2,b3,b4,b5,b6,b7,b8,b9,h1,h2,h3,h4])|(refine gC_drawW ?_)|(refine gI_dec (fun _=>?_) (fun _=>?_))|(refine gG_dec (fun _=>?_) (fun _=>?_))|(refine gPG_dec (fun _=>?_) (fun _=>?_))|(refine gI_var (fun _=>?_) (fun _=>?_))|(refine gG_var (fun _=>?_) (fun _=>?_))|(refine gPG_var (fun _=>?_) (fun _=>?_)))
  refine callV_flat (by rw[h4c,hC];exact len_o w (n+5) _ 0 r p acc (by simp[aget_cons,b5,b9])) ?_
  have hle:=hrun.le
  have hlt:=hrun.lt
  have hcf:=hcol f (by omega)
  have hbn:=txt_len (runsP l f) (fun q hq=>⟨by have:=runsP_cnt l f q hq;omega,by obtain ⟨j,hj,e⟩:=runsP_col l f q hq;have:=hcol j (by omega);omega⟩)
  have hrl:=runsP_len l f
  have hasz:acc.size=(txt (runsP l f)).length:=by rw[← ha];simp
  have k1:=Lib.itoa_length_le ((t:Int) - f) (by omega) (by omega)
  have k2:=Lib.itoa_length_le l[f]! (by omega) (by omega)
  have hcat:((⟨(Lib.itoa ((t:Int) - f)).toArray⟩:ByteArray)++(⟨#[120]⟩:ByteArray))++(⟨(Lib.itoa l[f]!).toArray⟩:ByteArray)=⟨(txt1 ((t:Int) - f,l[f]!)).toArray⟩:=by
   apply ByteArray.ext
   simp[txt1]
  have q1:(⟨(Lib.itoa ((t:Int) - f)).toArray⟩:ByteArray).size=(Lib.itoa ((t:Int) - f)).length:=by simp[ByteArray.size]
  have q2:(⟨(Lib.itoa l[f]!).toArray⟩:ByteArray).size=(Lib.itoa l[f]!).length:=by simp[ByteArray.size]
  have q3:((⟨(Lib.itoa ((t:Int) - f)).toArray⟩:ByteArray)++(⟨#[120]⟩:ByteArray)).size=(Lib.itoa ((t:Int) - f)).length+1:=by rw[ByteArray.size_append,q1];rfl
  have q4:(⟨(txt1 ((t:Int) - f,l[f]!)).toArray⟩:ByteArray).size≤43:=by
   show (txt1 _).toArray.size≤43
   rw[List.size_toArray];unfold txt1;rw[List.length_append,List.length_cons];dsimp only;omega
  have q7:acc.size≤300000:=by omega
  generalize hX:txt1 ((t:Int) - f,l[f]!)=X at*
  generalize hXB:(⟨X.toArray⟩:ByteArray)=XB at*
  have q5:(⟨#[120]⟩:ByteArray).size=1:=rfl
  have q6:(⟨#[32]⟩:ByteArray).size=1:=rfl
  have e1:=b_sadd (⟨(Lib.itoa ((t:Int) - f)).toArray⟩:ByteArray) (⟨#[120]⟩:ByteArray) (by rw[q1,q5];omega)
  have e2:=b_sadd ((⟨(Lib.itoa ((t:Int) - f)).toArray⟩:ByteArray)++(⟨#[120]⟩:ByteArray)) (⟨(Lib.itoa l[f]!).toArray⟩:ByteArray) (by rw[q3,q2];omega)
  have hrr:runsP l t=runsP l f++ [((t:Int) - f,l[f]!)]:=runsP_run hrun
  have c1:¬ (r=nx+1):=by omega
  have c2:¬ (1=nx+1):=by omega
  have c3:¬ (4=nx+1):=by omega
  have c4:¬ (2=nx+1):=by omega
  have c5:¬ (0=nx+1):=by omega
  have c6:¬ (nx=r):=by omega
  have c7:¬ (nx=0):=by omega
  have c8:¬ (nx=nx+1):=by omega
  have c9:¬ (nx=1):=by omega
  have c10:¬ (nx=2):=by omega
  have c11:¬ (nx=4):=by omega
  have c12:¬ (nx=3):=by omega
  have c13:¬ (nx+1=nx):=by omega
  have c14:¬ (nx+1=4):=by omega
  have c15:¬ (nx+1=2):=by omega
  have c16:¬ (nx+1=1):=by omega
  have hnx4:C4.w0.nx=nx:=h4n
  have hcs:C4.E=EN w (n+3+3):=h4c.trans hC
  by_cases hz:acc.size=0
  ·have hte:txt (runsP l f)= []:=List.eq_nil_of_length_eq_zero (by omega)
   repeat' (first|(simp (disch:=first|omega|assumption|(refine @id ((_:Bool)=_) ?_;exact id (by with_unfolding_all rfl))|(exact Or.inl rfl)|(exact Or.inl trivial)|(exact okL_map _ (fun _=>rfl) _)|(simp only[VVlen]<;>omega)|fail) only[VV0,VV1,VV2,VV3,VV4,VV5,VV6,VV7,VV8,VV9,mkFnV,vargs,slotsL,opdsA,Nat.reduceEqDiff,Nat.reduceLT,Nat.reduceAdd,Nat.reduceBEq,Int.reduceAdd,Int.reduceSub,Int.reduceLT,Int.reduceLE,Int.reduceEq,Int.reduceNeg,↓reduceIte,reduceCtorEq,scL,scD,expand,List.replicate,b1,b2,b3,b4,b5,b6,b7,b8,b9,h1,h2,h3,h4])|(refine gC_drawW ?_)|(refine gI_dec (fun _=>?_) (fun _=>?_))|(refine gG_dec (fun _=>?_) (fun _=>?_))|(refine gPG_dec (fun _=>?_) (fun _=>?_))|(refine gI_var (fun _=>?_) (fun _=>?_))|(refine gG_var (fun _=>?_) (fun _=>?_))|(refine gPG_var (fun _=>?_) (fun _=>?_)))
   all_goals try (exfalso;omega)
   refine call0_of (by rw[hcs];exact itoa_s w (n+5) _ _ (by omega) (by omega)) ?_
   repeat' (first|(simp (disch:=first|omega|assumption|(refine @id ((_:Bool)=_) ?_;exact id (by with_unfolding_all rfl))|(exact Or.inl rfl)|(exact Or.inl trivial)|(exact okL_map _ (fun _=>rfl) _)|(simp only[VVlen]<;>omega)|fail) only[VV0,VV1,VV2,VV3,VV4,VV5,VV6,VV7,VV8,VV9,mkFnV,vargs,slotsL,opdsA,Nat.reduceEqDiff,Nat.reduceLT,Nat.reduceAdd,Nat.reduceBEq,Int.reduceAdd,Int.reduceSub,Int.reduceLT,Int.reduceLE,Int.reduceEq,Int.reduceNeg,↓reduceIte,reduceCtorEq,scL,scD,expand,List.replicate,e1,b1,b2,b3,b4,b5,b6,b7,b8,b9,h1,h2,h3,h4])|(refine gC_drawW ?_)|(refine gI_dec (fun _=>?_) (fun _=>?_))|(refine gG_dec (fun _=>?_) (fun _=>?_))|(refine gPG_dec (fun _=>?_) (fun _=>?_))|(refine gI_var (fun _=>?_) (fun _=>?_))|(refine gG_var (fun _=>?_) (fun _=>?_))|(refine gPG_var (fun _=>?_) (fun _=>?_)))
   refine call0_of (by rw[hcs];exact itoa_s w (n+5) _ _ (by omega) (by omega)) ?_
   repeat' (first|(simp (disch:=first|omega|assumption|(refine @id ((_:Bool)=_) ?_;exact id (by with_unfolding_all rfl))|(exact Or.inl rfl)|(exact Or.inl trivial)|(exact okL_map _ (fun _=>rfl) _)|(simp only[VVlen]<;>omega)|fail) only[VV0,VV1,VV2,VV3,VV4,VV5,VV6,VV7,VV8,VV9,mkFnV,vargs,slotsL,opdsA,Nat.reduceEqDiff,Nat.reduceLT,Nat.reduceAdd,Nat.reduceBEq,Int.reduceAdd,Int.reduceSub,Int.reduceLT,Int.reduceLE,Int.reduceEq,Int.reduceNeg,↓reduceIte,reduceCtorEq,scL,scD,expand,List.replicate,e2,hcat,b1,b2,b3,b4,b5,b6,b7,b8,b9,h1,h2,h3,h4])|(refine gC_drawW ?_)|(refine gI_dec (fun _=>?_) (fun _=>?_))|(refine gG_dec (fun _=>?_) (fun _=>?_))|(refine gPG_dec (fun _=>?_) (fun _=>?_))|(refine gI_var (fun _=>?_) (fun _=>?_))|(refine gG_var (fun _=>?_) (fun _=>?_))|(refine gPG_var (fun _=>?_) (fun _=>?_)))
   refine writeString_w w (n+3) hcs 0 r p acc _ (by simp[aget_cons,b5,b9]) (by simp[aget_cons,b2,h1,h2,h3,h4,Ne.symm h4,c6]) hp (Nat.zero_le _) (Nat.zero_le _) h1 c5 (by omega) ?_
   repeat' (first|(simp (disch:=first|omega|assumption|(refine @id ((_:Bool)=_) ?_;exact id (by with_unfolding_all rfl))|(exact Or.inl rfl)|(exact Or.inl trivial)|(exact okL_map _ (fun _=>rfl) _)|(simp only[VVlen]<;>omega)|fail) only[VV0,VV1,VV2,VV3,VV4,VV5,VV6,VV7,VV8,VV9,mkFnV,vargs,slotsL,opdsA,Nat.reduceEqDiff,Nat.reduceLT,Nat.reduceAdd,Nat.reduceBEq,Int.reduceAdd,Int.reduceSub,Int.reduceLT,Int.reduceLE,Int.reduceEq,Int.reduceNeg,↓reduceIte,reduceCtorEq,scL,scD,expand,List.replicate,b1,b2,b3,b4,b5,b6,b7,b8,b9,h1,h2,h3,h4,c1,c2,c3,c4,c5])|(refine gC_drawW ?_)|(refine gI_dec (fun _=>?_) (fun _=>?_))|(refine gG_dec (fun _=>?_) (fun _=>?_))|(refine gPG_dec (fun _=>?_) (fun _=>?_))|(refine gI_var (fun _=>?_) (fun _=>?_))|(refine gG_var (fun _=>?_) (fun _=>?_))|(refine gPG_var (fun _=>?_) (fun _=>?_)))
   refine ⟨Nat.zero_le _,trivial,_,weak_keep [4,nx+1,2,1,0] (by simp;omega) (by simp;omega) (by omega),?_⟩
   refine hq2 _ ⟨nx+1,nx+1+1,.ptr 0 0,acc++XB,by omega,.inr rfl,?_,?_⟩
   ·rw[hrr,txt_snoc,if_pos hte,hX,← hXB,ByteArray.data_append,Array.toList_append,ha,hte]
   ·simp[idR,renH,aget_cons,renO,recO,vrenL,vren,b1,b3,b4,b5,c2,c3,c4,c5,ByteArray.size_append,Ne.symm b3,Ne.symm b1,codeOf,c7,c12]
  ·have hte:txt (runsP l f) ≠ []:=fun h=>hz (by rw[hasz,h];rfl)
   have d1:¬ (nx+1=nx+1+1):=by omega
   have d2:¬ (1=nx+1+1):=by omega
   have d3:¬ (4=nx+1+1):=by omega
   have d4:¬ (2=nx+1+1):=by omega
   have d5:¬ (0=nx+1+1):=by omega
   have d6:¬ (nx+1=0):=by omega
   repeat' (first|(simp (disch:=first|omega|assumption|(refine @id ((_:Bool)=_) ?_;exact id (by with_unfolding_all rfl))|(exact Or.inl rfl)|(exact Or.inl trivial)|(exact okL_map _ (fun _=>rfl) _)|(simp only[VVlen]<;>omega)|fail) only[VV0,VV1,VV2,VV3,VV4,VV5,VV6,VV7,VV8,VV9,mkFnV,vargs,slotsL,opdsA,Nat.reduceEqDiff,Nat.reduceLT,Nat.reduceAdd,Nat.reduceBEq,Int.reduceAdd,Int.reduceSub,Int.reduceLT,Int.reduceLE,Int.reduceEq,Int.reduceNeg,↓reduceIte,reduceCtorEq,scL,scD,expand,List.replicate,b1,b2,b3,b4,b5,b6,b7,b8,b9,h1,h2,h3,h4])|(refine gC_drawW ?_)|(refine gI_dec (fun _=>?_) (fun _=>?_))|(refine gG_dec (fun _=>?_) (fun _=>?_))|(refine gPG_dec (fun _=>?_) (fun _=>?_))|(refine gI_var (fun _=>?_) (fun _=>?_))|(refine gG_var (fun _=>?_) (fun _=>?_))|(refine gPG_var (fun _=>?_) (fun _=>?_)))
   all_goals try (exfalso;omega)
   refine writeString_w w (n+3) hcs 0 r p acc _ (by simp[aget_cons,b5,b9]) (by simp[aget_cons,b2,h1,h2,h3,h4,Ne.symm h4,c6]) hp (Nat.zero_le _) (Nat.zero_le _) h1 c5 (by omega) ?_
   repeat' (first|(simp (disch:=first|omega|assumption|(refine @id ((_:Bool)=_) ?_;exact id (by with_unfolding_all rfl))|(exact Or.inl rfl)|(exact Or.inl trivial)|(exact okL_map _ (fun _=>rfl) _)|(simp only[VVlen]<;>omega)|fail) only[VV0,VV1,VV2,VV3,VV4,VV5,VV6,VV7,VV8,VV9,mkFnV,vargs,slotsL,opdsA,Nat.reduceEqDiff,Nat.reduceLT,Nat.reduceAdd,Nat.reduceBEq,Int.reduceAdd,Int.reduceSub,Int.reduceLT,Int.reduceLE,Int.reduceEq,Int.reduceNeg,↓reduceIte,reduceCtorEq,scL,scD,expand,List.replicate,b1,b2,b3,b4,b5,b6,b7,b8,b9,h1,h2,h3,h4,c1,c2,c3,c4,c5,c6,c7,c8,c9,c10,c11])|(refine gC_drawW ?_)|(refine gI_dec (fun _=>?_) (fun _=>?_))|(refine gG_dec (fun _=>?_) (fun _=>?_))|(refine gPG_dec (fun _=>?_) (fun _=>?_))|(refine gI_var (fun _=>?_) (fun _=>?_))|(refine gG_var (fun _=>?_) (fun _=>?_))|(refine gPG_var (fun _=>?_) (fun _=>?_)))
   refine call0_of (by rw[hcs];exact itoa_s w (n+5) _ _ (by omega) (by omega)) ?_
   repeat' (first|(simp (disch:=first|omega|assumption|(refine @id ((_:Bool)=_) ?_;exact id (by with_unfolding_all rfl))|(exact Or.inl rfl)|(exact Or.inl trivial)|(exact okL_map _ (fun _=>rfl) _)|(simp only[VVlen]<;>omega)|fail) only[VV0,VV1,VV2,VV3,VV4,VV5,VV6,VV7,VV8,VV9,mkFnV,vargs,slotsL,opdsA,Nat.reduceEqDiff,Nat.reduceLT,Nat.reduceAdd,Nat.reduceBEq,Int.reduceAdd,Int.reduceSub,Int.reduceLT,Int.reduceLE,Int.reduceEq,Int.reduceNeg,↓reduceIte,reduceCtorEq,scL,scD,expand,List.replicate,e1,b1,b2,b3,b4,b5,b6,b7,b8,b9,h1,h2,h3,h4,c1,c2,c3,c4,c5,c6,c7,c8,c9,c10,c11])|(refine gC_drawW ?_)|(refine gI_dec (fun _=>?_) (fun _=>?_))|(refine gG_dec (fun _=>?_) (fun _=>?_))|(refine gPG_dec (fun _=>?_) (fun _=>?_))|(refine gI_var (fun _=>?_) (fun _=>?_))|(refine gG_var (fun _=>?_) (fun _=>?_))|(refine gPG_var (fun _=>?_) (fun _=>?_)))
   refine call0_of (by rw[hcs];exact itoa_s w (n+5) _ _ (by omega) (by omega)) ?_
   repeat' (first|(simp (disch:=first|omega|assumption|(refine @id ((_:Bool)=_) ?_;exact id (by with_unfolding_all rfl))|(exact Or.inl rfl)|(exact Or.inl trivial)|(exact okL_map _ (fun _=>rfl) _)|(simp only[VVlen]<;>omega)|fail) only[VV0,VV1,VV2,VV3,VV4,VV5,VV6,VV7,VV8,VV9,mkFnV,vargs,slotsL,opdsA,Nat.reduceEqDiff,Nat.reduceLT,Nat.reduceAdd,Nat.reduceBEq,Int.reduceAdd,Int.reduceSub,Int.reduceLT,Int.reduceLE,Int.reduceEq,Int.reduceNeg,↓reduceIte,reduceCtorEq,scL,scD,expand,List.replicate,e2,hcat,b1,b2,b3,b4,b5,b6,b7,b8,b9,h1,h2,h3,h4,c1,c2,c3,c4,c5,c6,c7,c8,c9,c10,c11])|(refine gC_drawW ?_)|(refine gI_dec (fun _=>?_) (fun _=>?_))|(refine gG_dec (fun _=>?_) (fun _=>?_))|(refine gPG_dec (fun _=>?_) (fun _=>?_))|(refine gI_var (fun _=>?_) (fun _=>?_))|(refine gG_var (fun _=>?_) (fun _=>?_))|(refine gPG_var (fun _=>?_) (fun _=>?_)))
   refine writeString_w w (n+3) hcs 0 (nx+1) (.ptr 0 0) (acc++⟨#[32]⟩) _ (by simp[aget_cons,c7,b5,ByteArray.size_append]) (by simp[aget_cons]) (.inr rfl) (Nat.zero_le _) (Nat.zero_le _) d6 d5 (by rw[ByteArray.size_append];omega) ?_
   repeat' (first|(simp (disch:=first|omega|assumption|(refine @id ((_:Bool)=_) ?_;exact id (by with_unfolding_all rfl))|(exact Or.inl rfl)|(exact Or.inl trivial)|(exact okL_map _ (fun _=>rfl) _)|(simp only[VVlen]<;>omega)|fail) only[VV0,VV1,VV2,VV3,VV4,VV5,VV6,VV7,VV8,VV9,mkFnV,vargs,slotsL,opdsA,Nat.reduceEqDiff,Nat.reduceLT,Nat.reduceAdd,Nat.reduceBEq,Int.reduceAdd,Int.reduceSub,Int.reduceLT,Int.reduceLE,Int.reduceEq,Int.reduceNeg,↓reduceIte,reduceCtorEq,scL,scD,expand,List.replicate,b1,b2,b3,b4,b5,b6,b7,b8,b9,h1,h2,h3,h4,c1,c2,c3,c4,c5,c6,c7,c8,c9,c10,c11,d1,d2,d3,d4,d5,d6,c13,c14,c15,c16])|(refine gC_drawW ?_)|(refine gI_dec (fun _=>?_) (fun _=>?_))|(refine gG_dec (fun _=>?_) (fun _=>?_))|(refine gPG_dec (fun _=>?_) (fun _=>?_))|(refine gI_var (fun _=>?_) (fun _=>?_))|(refine gG_var (fun _=>?_) (fun _=>?_))|(refine gPG_var (fun _=>?_) (fun _=>?_)))
   refine ⟨Nat.zero_le _,trivial,_,weak_keep [4,nx+1+1,2,1,0] (by simp;omega) (by simp;omega) (by omega),?_⟩
   refine hq2 _ ⟨nx+1+1,nx+1+1+1,.ptr 0 0,acc++⟨#[32]⟩++XB,by omega,.inr rfl,?_,?_⟩
   ·rw[hrr,txt_snoc,if_neg hte,hX,← hXB,ByteArray.data_append,Array.toList_append,ByteArray.data_append,Array.toList_append,ha]
   ·simp[idR,renH,aget_cons,renO,recO,vrenL,vren,b1,b3,b4,b5,c2,c3,c4,c5,ByteArray.size_append,Ne.symm b3,Ne.symm b1,codeOf,c7,c9,c10,c11,c12]
 ·rintro fr st ⟨r,nx,p,acc,⟨h1,h2,h3,h4,h5,h6⟩,hp,ha,rfl⟩
  refine ⟨fun i h=>(by cases h),Nat.zero_le _,0,.normal,rfl,rfl,?_⟩
  have b6:¬ (4=r):=fun h=>h4 h.symm
  have b9:¬ (0=r):=fun h=>h1 h.symm
  repeat' (first|(simp (disch:=first|omega|assumption|(refine @id ((_:Bool)=_) ?_;exact id (by with_unfolding_all rfl))|(exact Or.inl rfl)|(exact Or.inl trivial)|(exact okL_map _ (fun _=>rfl) _)|(simp only[VVlen]<;>omega)|fail) only[VV0,VV1,VV2,VV3,VV4,VV5,VV6,VV7,VV8,VV9,mkFnV,vargs,slotsL,opdsA,Nat.reduceEqDiff,Nat.reduceLT,Nat.reduceAdd,Nat.reduceBEq,Int.reduceAdd,Int.reduceSub,Int.reduceLT,Int.reduceLE,Int.reduceEq,Int.reduceNeg,↓reduceIte,reduceCtorEq,scL,scD,expand,List.replicate,b6,b9,h1,h2,h3,h4])|(refine gC_drawW ?_)|(refine gI_dec (fun _=>?_) (fun _=>?_))|(refine gG_dec (fun _=>?_) (fun _=>?_))|(refine gPG_dec (fun _=>?_) (fun _=>?_))|(refine gI_var (fun _=>?_) (fun _=>?_))|(refine gG_var (fun _=>?_) (fun _=>?_))|(refine gPG_var (fun _=>?_) (fun _=>?_)))
  have hbn:=txt_len (runsP l l.length) (fun q hq=>⟨by have:=runsP_cnt l l.length q hq;omega,by obtain ⟨j,hj,e⟩:=runsP_col l l.length q hq;have:=hcol j (by omega);omega⟩)
  have hrl:=runsP_len l l.length
  have hasz:acc.size=(txt (runsP l l.length)).length:=by rw[← ha];simp
  have hacc:acc=⟨(txt (runsP l l.length)).toArray⟩:=by
   apply ByteArray.ext;apply Array.ext';rw[ha]
  refine string_w w (n+5) hC 0 r p acc (by simp[aget_cons,b9]) (by simp[aget_cons]) (Nat.zero_le _) (Nat.zero_le _) (by omega) fun st' hst=>?_
  rw[hacc]
  exact weak_flat rfl hn hst
 ·refine ⟨3,5,.sc (.pointer none),⟨#[]⟩,by decide,.inl rfl,rfl,?_⟩
  rfl
end
end Go.Proofs.YtgglaaldlegckaaDoor
namespace Go.Proofs.YtgglaaldlegckaaDoor
open Go Go.Itp
set_option maxRecDepth 100000
set_option maxHeartbeats 1000000
set_option linter.unusedSimpArgs false
theorem runC_f0 (R:List (Int × Int)) (k:Nat) (hk:k<R.length):dload (runC R) (k*2) none=some (.sc (.int .i64 R[k]!.1)):=by
 have:=dload_flat1 (fun p:Int × Int=> [iD p.1,iD p.2]) 2 R (fun _=>rfl) k 0 hk (by decide)
 unfold runC
 rw[← Nat.add_zero (k*2),this]
 rfl
theorem runC_f1 (R:List (Int × Int)) (k:Nat) (hk:k<R.length):dload (runC R) (k*2+1) none=some (.sc (.int .i64 R[k]!.2)):=by
 have:=dload_flat1 (fun p:Int × Int=> [iD p.1,iD p.2]) 2 R (fun _=>rfl) k 1 hk (by decide)
 unfold runC
 rw[this]
 rfl
section
variable (w:World) (n:Nat)
end
end Go.Proofs.YtgglaaldlegckaaDoor
namespace Go.Proofs.YtgglaaldlegckaaDoor
open Go Go.Itp
set_option maxRecDepth 100000
set_option maxHeartbeats 1000000
set_option linter.unusedSimpArgs false
section
variable (w:World) (n:Nat)
end
end Go.Proofs.YtgglaaldlegckaaDoor
namespace Go.Proofs.YtgglaaldlegckaaDoor
open Go Go.Itp
set_option maxRecDepth 100000
set_option maxHeartbeats 1000000
set_option linter.unusedSimpArgs false
section
variable (w:World) (n:Nat)
theorem indexByteString_o (st:VSt) (l:List UInt8) (c:UInt8):VSpecO (EN w (n+1)) 91 st [strV l,.sc (.int .u8 c.toNat)] (.sc (.int .i64 (idxB c l))):=by
 refine prim_o (ys:= [.string ⟨l.toArray⟩,.int .u8 c.toNat]) (fun s=>?_) rfl
 refine orElse_right rfl (orElse_left ?_)
 show primA .indexByte 0 [.string ⟨l.toArray⟩,.int .u8 c.toNat] s=_
 unfold primA
 simp only[Int.toNat_natCast]
 rw[show c.toNat.toUInt8=c by simp,firstIdxA_l]
theorem indexByte_p (l:List UInt8) (c:UInt8):VSpec (EN w (n+2)) 79 [strV l,.sc (.int .u8 c.toNat)] (.sc (.int .i64 (idxB c l))) ⟨[],0,0⟩:=by
 refine vspec_flat rfl rfl (fun _ _=>rfl) (Nat.le_of_ble_eq_true rfl) (oldVals w) rfl fun C hC h0=>?_
 repeat' (first|(simp (disch:=first|omega|assumption|(refine @id ((_:Bool)=_) ?_;exact id (by with_unfolding_all rfl))|(exact Or.inl rfl)|(exact Or.inl trivial)|(exact okL_map _ (fun _=>rfl) _)|(simp only[VVlen]<;>omega)|fail) only[VV0,VV1,VV2,VV3,VV4,VV5,VV6,VV7,VV8,VV9,mkFnV,vargs,slotsL,opdsA,Nat.reduceEqDiff,Nat.reduceLT,Nat.reduceAdd,Nat.reduceBEq,Int.reduceAdd,Int.reduceSub,Int.reduceLT,Int.reduceLE,Int.reduceEq,Int.reduceNeg,↓reduceIte,reduceCtorEq,scL,scD,expand,List.replicate,c79])|(refine gC_drawW ?_)|(refine gI_dec (fun _=>?_) (fun _=>?_))|(refine gG_dec (fun _=>?_) (fun _=>?_))|(refine gPG_dec (fun _=>?_) (fun _=>?_))|(refine gI_var (fun _=>?_) (fun _=>?_))|(refine gG_var (fun _=>?_) (fun _=>?_))|(refine gPG_var (fun _=>?_) (fun _=>?_)))
 refine callV_flat (by rw[hC];exact indexByteString_o w n _ l c) ?_
 repeat' (first|(simp (disch:=first|omega|assumption|(refine @id ((_:Bool)=_) ?_;exact id (by with_unfolding_all rfl))|(exact Or.inl rfl)|(exact Or.inl trivial)|(exact okL_map _ (fun _=>rfl) _)|(simp only[VVlen]<;>omega)|fail) only[VV0,VV1,VV2,VV3,VV4,VV5,VV6,VV7,VV8,VV9,mkFnV,vargs,slotsL,opdsA,Nat.reduceEqDiff,Nat.reduceLT,Nat.reduceAdd,Nat.reduceBEq,Int.reduceAdd,Int.reduceSub,Int.reduceLT,Int.reduceLE,Int.reduceEq,Int.reduceNeg,↓reduceIte,reduceCtorEq,scL,scD,expand,List.replicate])|(refine gC_drawW ?_)|(refine gI_dec (fun _=>?_) (fun _=>?_))|(refine gG_dec (fun _=>?_) (fun _=>?_))|(refine gPG_dec (fun _=>?_) (fun _=>?_))|(refine gI_var (fun _=>?_) (fun _=>?_))|(refine gG_var (fun _=>?_) (fun _=>?_))|(refine gPG_var (fun _=>?_) (fun _=>?_)))
 exact weak_flat rfl h0 rfl
theorem index1_p (l:List UInt8) (c:UInt8) (hl:l.length≤1000000000):VSpec (EN w (n+3)) 68 [strV l,strV [c]] (.sc (.int .i64 (idxB c l))) ⟨[],0,0⟩:=by
 refine vspec_flat rfl rfl (fun _ _=>rfl) (Nat.le_of_ble_eq_true rfl) (oldVals w) rfl fun C hC h0=>?_
 have h1:(ByteArray.mk [c].toArray).size=1:=rfl
 have hlc:((ByteArray.mk [c].toArray)=ByteArray.mk l.toArray)↔l= [c]:=by
  constructor
  ·intro h
   have:=congrArg (fun b:ByteArray=>b.data.toList) h
   simpa using this.symm
  ·rintro rfl;rfl
 by_cases hc:l= [c]
 ·subst hc
  have hi:idxB c [c]=0:=idxB_app (a:= []) [] (by simp)
  rw[hi]
  repeat' (first|(simp (disch:=first|omega|assumption|(refine @id ((_:Bool)=_) ?_;exact id (by with_unfolding_all rfl))|(exact Or.inl rfl)|(exact Or.inl trivial)|(exact okL_map _ (fun _=>rfl) _)|(simp only[VVlen]<;>omega)|fail) only[VV0,VV1,VV2,VV3,VV4,VV5,VV6,VV7,VV8,VV9,mkFnV,vargs,slotsL,opdsA,Nat.reduceEqDiff,Nat.reduceLT,Nat.reduceAdd,Nat.reduceBEq,Int.reduceAdd,Int.reduceSub,Int.reduceLT,Int.reduceLE,Int.reduceEq,Int.reduceNeg,↓reduceIte,reduceCtorEq,scL,scD,expand,List.replicate,c68,h1])|(refine gC_drawW ?_)|(refine gI_dec (fun _=>?_) (fun _=>?_))|(refine gG_dec (fun _=>?_) (fun _=>?_))|(refine gPG_dec (fun _=>?_) (fun _=>?_))|(refine gI_var (fun _=>?_) (fun _=>?_))|(refine gG_var (fun _=>?_) (fun _=>?_))|(refine gPG_var (fun _=>?_) (fun _=>?_)))
  exact weak_flat rfl h0 rfl
 ·have hb:idxStrV (strV [c]) (.sc (.int .i64 0))=some (.sc (.int .u8 c.toNat)):=by
   rw[idxStr_l _ _ _ (by omega) (by simp)]
   rfl
  repeat' (first|(simp (disch:=first|omega|assumption|(refine @id ((_:Bool)=_) ?_;exact id (by with_unfolding_all rfl))|(exact Or.inl rfl)|(exact Or.inl trivial)|(exact okL_map _ (fun _=>rfl) _)|(simp only[VVlen]<;>omega)|fail) only[VV0,VV1,VV2,VV3,VV4,VV5,VV6,VV7,VV8,VV9,mkFnV,vargs,slotsL,opdsA,Nat.reduceEqDiff,Nat.reduceLT,Nat.reduceAdd,Nat.reduceBEq,Int.reduceAdd,Int.reduceSub,Int.reduceLT,Int.reduceLE,Int.reduceEq,Int.reduceNeg,↓reduceIte,reduceCtorEq,scL,scD,expand,List.replicate,c68,h1,hlc,hc,hb])|(refine gC_drawW ?_)|(refine gI_dec (fun _=>?_) (fun _=>?_))|(refine gG_dec (fun _=>?_) (fun _=>?_))|(refine gPG_dec (fun _=>?_) (fun _=>?_))|(refine gI_var (fun _=>?_) (fun _=>?_))|(refine gG_var (fun _=>?_) (fun _=>?_))|(refine gPG_var (fun _=>?_) (fun _=>?_)))
  refine callV_flat ((indexByte_p w n l c).of hC rfl _ rfl) ?_
  repeat' (first|(simp (disch:=first|omega|assumption|(refine @id ((_:Bool)=_) ?_;exact id (by with_unfolding_all rfl))|(exact Or.inl rfl)|(exact Or.inl trivial)|(exact okL_map _ (fun _=>rfl) _)|(simp only[VVlen]<;>omega)|fail) only[VV0,VV1,VV2,VV3,VV4,VV5,VV6,VV7,VV8,VV9,mkFnV,vargs,slotsL,opdsA,Nat.reduceEqDiff,Nat.reduceLT,Nat.reduceAdd,Nat.reduceBEq,Int.reduceAdd,Int.reduceSub,Int.reduceLT,Int.reduceLE,Int.reduceEq,Int.reduceNeg,↓reduceIte,reduceCtorEq,scL,scD,expand,List.replicate])|(refine gC_drawW ?_)|(refine gI_dec (fun _=>?_) (fun _=>?_))|(refine gG_dec (fun _=>?_) (fun _=>?_))|(refine gPG_dec (fun _=>?_) (fun _=>?_))|(refine gI_var (fun _=>?_) (fun _=>?_))|(refine gG_var (fun _=>?_) (fun _=>?_))|(refine gPG_var (fun _=>?_) (fun _=>?_)))
  exact weak_flat rfl h0 rfl
theorem index_p (l:List UInt8) (c:UInt8) (hl:l.length≤1000000000):VSpec (EN w (n+4)) 67 [strV l,strV [c]] (.sc (.int .i64 (idxB c l))) ⟨[],0,0⟩:=by
 refine vspec_flat rfl rfl (fun _ _=>rfl) (Nat.le_of_ble_eq_true rfl) (oldVals w) rfl fun C hC h0=>?_
 repeat' (first|(simp (disch:=first|omega|assumption|(refine @id ((_:Bool)=_) ?_;exact id (by with_unfolding_all rfl))|(exact Or.inl rfl)|(exact Or.inl trivial)|(exact okL_map _ (fun _=>rfl) _)|(simp only[VVlen]<;>omega)|fail) only[VV0,VV1,VV2,VV3,VV4,VV5,VV6,VV7,VV8,VV9,mkFnV,vargs,slotsL,opdsA,Nat.reduceEqDiff,Nat.reduceLT,Nat.reduceAdd,Nat.reduceBEq,Int.reduceAdd,Int.reduceSub,Int.reduceLT,Int.reduceLE,Int.reduceEq,Int.reduceNeg,↓reduceIte,reduceCtorEq,scL,scD,expand,List.replicate,c67])|(refine gC_drawW ?_)|(refine gI_dec (fun _=>?_) (fun _=>?_))|(refine gG_dec (fun _=>?_) (fun _=>?_))|(refine gPG_dec (fun _=>?_) (fun _=>?_))|(refine gI_var (fun _=>?_) (fun _=>?_))|(refine gG_var (fun _=>?_) (fun _=>?_))|(refine gPG_var (fun _=>?_) (fun _=>?_)))
 refine callV_flat ((index1_p w n l c hl).of hC rfl _ rfl) ?_
 repeat' (first|(simp (disch:=first|omega|assumption|(refine @id ((_:Bool)=_) ?_;exact id (by with_unfolding_all rfl))|(exact Or.inl rfl)|(exact Or.inl trivial)|(exact okL_map _ (fun _=>rfl) _)|(simp only[VVlen]<;>omega)|fail) only[VV0,VV1,VV2,VV3,VV4,VV5,VV6,VV7,VV8,VV9,mkFnV,vargs,slotsL,opdsA,Nat.reduceEqDiff,Nat.reduceLT,Nat.reduceAdd,Nat.reduceBEq,Int.reduceAdd,Int.reduceSub,Int.reduceLT,Int.reduceLE,Int.reduceEq,Int.reduceNeg,↓reduceIte,reduceCtorEq,scL,scD,expand,List.replicate])|(refine gC_drawW ?_)|(refine gI_dec (fun _=>?_) (fun _=>?_))|(refine gG_dec (fun _=>?_) (fun _=>?_))|(refine gPG_dec (fun _=>?_) (fun _=>?_))|(refine gI_var (fun _=>?_) (fun _=>?_))|(refine gG_var (fun _=>?_) (fun _=>?_))|(refine gPG_var (fun _=>?_) (fun _=>?_)))
 exact weak_flat rfl h0 rfl
def cutB (c:UInt8) (l:List UInt8):List UInt8 × List UInt8 × Bool:=if 0≤idxB c l then (l.take (idxB c l).toNat,l.drop ((idxB c l).toNat+1),true) else (l,[],false)
theorem cut1_p (l:List UInt8) (c:UInt8) (hl:l.length≤1000000000):VSpec (EN w (n+4)) 58 [strV l,strV [c]] (.tup [strV (cutB c l).1,strV (cutB c l).2.1,.sc (.bool (cutB c l).2.2)]) ⟨[],0,0⟩:=by
 refine vspec_flat rfl rfl (fun _ _=>rfl) (Nat.le_of_ble_eq_true rfl) (oldVals w) rfl fun C hC h0=>?_
 have h1:(ByteArray.mk [c].toArray).size=1:=rfl
 repeat' (first|(simp (disch:=first|omega|assumption|(refine @id ((_:Bool)=_) ?_;exact id (by with_unfolding_all rfl))|(exact Or.inl rfl)|(exact Or.inl trivial)|(exact okL_map _ (fun _=>rfl) _)|(simp only[VVlen]<;>omega)|fail) only[VV0,VV1,VV2,VV3,VV4,VV5,VV6,VV7,VV8,VV9,mkFnV,vargs,slotsL,opdsA,Nat.reduceEqDiff,Nat.reduceLT,Nat.reduceAdd,Nat.reduceBEq,Int.reduceAdd,Int.reduceSub,Int.reduceLT,Int.reduceLE,Int.reduceEq,Int.reduceNeg,↓reduceIte,reduceCtorEq,scL,scD,expand,List.replicate,c58])|(refine gC_drawW ?_)|(refine gI_dec (fun _=>?_) (fun _=>?_))|(refine gG_dec (fun _=>?_) (fun _=>?_))|(refine gPG_dec (fun _=>?_) (fun _=>?_))|(refine gI_var (fun _=>?_) (fun _=>?_))|(refine gG_var (fun _=>?_) (fun _=>?_))|(refine gPG_var (fun _=>?_) (fun _=>?_)))
 refine callV_flat ((index1_p w n l c hl).of hC rfl _ rfl) ?_
 rcases byte_split c l with hf|⟨a,r,rfl,hf⟩
 ·have hi:=idxB_free hf
  have e:cutB c l=(l,[],false):=by unfold cutB;rw[if_neg (by omega)]
  rw[e,hi]
  repeat' (first|(simp (disch:=first|omega|assumption|(refine @id ((_:Bool)=_) ?_;exact id (by with_unfolding_all rfl))|(exact Or.inl rfl)|(exact Or.inl trivial)|(exact okL_map _ (fun _=>rfl) _)|(simp only[VVlen]<;>omega)|fail) only[VV0,VV1,VV2,VV3,VV4,VV5,VV6,VV7,VV8,VV9,mkFnV,vargs,slotsL,opdsA,Nat.reduceEqDiff,Nat.reduceLT,Nat.reduceAdd,Nat.reduceBEq,Int.reduceAdd,Int.reduceSub,Int.reduceLT,Int.reduceLE,Int.reduceEq,Int.reduceNeg,↓reduceIte,reduceCtorEq,scL,scD,expand,List.replicate])|(refine gC_drawW ?_)|(refine gI_dec (fun _=>?_) (fun _=>?_))|(refine gG_dec (fun _=>?_) (fun _=>?_))|(refine gPG_dec (fun _=>?_) (fun _=>?_))|(refine gI_var (fun _=>?_) (fun _=>?_))|(refine gG_var (fun _=>?_) (fun _=>?_))|(refine gPG_var (fun _=>?_) (fun _=>?_)))
  all_goals try (exfalso;omega)
  exact weak_flat rfl h0 rfl
 ·have hi:=idxB_app r hf
  have e:cutB c (a++c::r)=(a,r,true):=by unfold cutB;rw[if_pos (by omega),hi];simp
  rw[e,hi]
  have hal:a.length≤1000000000:=by simp at hl;omega
  have hb:a.length+(c::r).length≤1000000000:=by simpa using hl
  have e1:=slcS_hi (a++c::r) .i64 a.length (by omega) (by simp;omega)
  have e2:=slcS_lo (a++c::r) .i64 ((a.length:Int)+1) (by omega) (by simp;omega)
  rw[Int.toNat_natCast,List.take_left] at e1
  rw[show ((a.length:Int)+1).toNat=a.length+1 by omega,show (a++c::r).drop (a.length+1)=r by rw[← List.drop_drop];simp] at e2
  have h1i:((1:Nat):Int)=1:=rfl
  repeat' (first|(simp (disch:=first|omega|assumption|(refine @id ((_:Bool)=_) ?_;exact id (by with_unfolding_all rfl))|(exact Or.inl rfl)|(exact Or.inl trivial)|(exact okL_map _ (fun _=>rfl) _)|(simp only[VVlen]<;>omega)|fail) only[VV0,VV1,VV2,VV3,VV4,VV5,VV6,VV7,VV8,VV9,mkFnV,vargs,slotsL,opdsA,Nat.reduceEqDiff,Nat.reduceLT,Nat.reduceAdd,Nat.reduceBEq,Int.reduceAdd,Int.reduceSub,Int.reduceLT,Int.reduceLE,Int.reduceEq,Int.reduceNeg,↓reduceIte,reduceCtorEq,scL,scD,expand,List.replicate,h1,h1i,e1,e2])|(refine gC_drawW ?_)|(refine gI_dec (fun _=>?_) (fun _=>?_))|(refine gG_dec (fun _=>?_) (fun _=>?_))|(refine gPG_dec (fun _=>?_) (fun _=>?_))|(refine gI_var (fun _=>?_) (fun _=>?_))|(refine gG_var (fun _=>?_) (fun _=>?_))|(refine gPG_var (fun _=>?_) (fun _=>?_)))
  all_goals try (exfalso;omega)
  exact weak_flat rfl h0 rfl
theorem cut_p (l:List UInt8) (c:UInt8) (hl:l.length≤1000000000):VSpec (EN w (n+5)) 48 [strV l,strV [c]] (.tup [strV (cutB c l).1,strV (cutB c l).2.1,.sc (.bool (cutB c l).2.2)]) ⟨[],0,0⟩:=by
 refine vspec_flat rfl rfl (fun _ _=>rfl) (Nat.le_of_ble_eq_true rfl) (oldVals w) rfl fun C hC h0=>?_
 repeat' (first|(simp (disch:=first|omega|assumption|(refine @id ((_:Bool)=_) ?_;exact id (by with_unfolding_all rfl))|(exact Or.inl rfl)|(exact Or.inl trivial)|(exact okL_map _ (fun _=>rfl) _)|(simp only[VVlen]<;>omega)|fail) only[VV0,VV1,VV2,VV3,VV4,VV5,VV6,VV7,VV8,VV9,mkFnV,vargs,slotsL,opdsA,Nat.reduceEqDiff,Nat.reduceLT,Nat.reduceAdd,Nat.reduceBEq,Int.reduceAdd,Int.reduceSub,Int.reduceLT,Int.reduceLE,Int.reduceEq,Int.reduceNeg,↓reduceIte,reduceCtorEq,scL,scD,expand,List.replicate,c48])|(refine gC_drawW ?_)|(refine gI_dec (fun _=>?_) (fun _=>?_))|(refine gG_dec (fun _=>?_) (fun _=>?_))|(refine gPG_dec (fun _=>?_) (fun _=>?_))|(refine gI_var (fun _=>?_) (fun _=>?_))|(refine gG_var (fun _=>?_) (fun _=>?_))|(refine gPG_var (fun _=>?_) (fun _=>?_)))
 refine callV_flat ((cut1_p w n l c hl).of hC rfl _ rfl) ?_
 repeat' (first|(simp (disch:=first|omega|assumption|(refine @id ((_:Bool)=_) ?_;exact id (by with_unfolding_all rfl))|(exact Or.inl rfl)|(exact Or.inl trivial)|(exact okL_map _ (fun _=>rfl) _)|(simp only[VVlen]<;>omega)|fail) only[VV0,VV1,VV2,VV3,VV4,VV5,VV6,VV7,VV8,VV9,mkFnV,vargs,slotsL,opdsA,Nat.reduceEqDiff,Nat.reduceLT,Nat.reduceAdd,Nat.reduceBEq,Int.reduceAdd,Int.reduceSub,Int.reduceLT,Int.reduceLE,Int.reduceEq,Int.reduceNeg,↓reduceIte,reduceCtorEq,scL,scD,expand,List.replicate])|(refine gC_drawW ?_)|(refine gI_dec (fun _=>?_) (fun _=>?_))|(refine gG_dec (fun _=>?_) (fun _=>?_))|(refine gPG_dec (fun _=>?_) (fun _=>?_))|(refine gI_var (fun _=>?_) (fun _=>?_))|(refine gG_var (fun _=>?_) (fun _=>?_))|(refine gPG_var (fun _=>?_) (fun _=>?_)))
 exact weak_flat rfl h0 rfl
end
end Go.Proofs.YtgglaaldlegckaaDoor
namespace Go.Proofs.YtgglaaldlegckaaDoor
open Go Go.Itp
set_option maxRecDepth 100000
set_option maxHeartbeats 1000000
set_option linter.unusedSimpArgs false
abbrev sBox (l:List UInt8):Itp.Obj:= .box 9 1 [strV l]
theorem split_ret (l:List UInt8) (c:UInt8):RetOK [(2,.box 3 1 [.sc (.int .i64 0)]),(1,sBox [c]),(0,sBox l)] (.fn 65 [] [.ptr 1 0,.ptr 0 0,.ptr 2 0]):=by
 refine ⟨?_,fun o t e L h=>?_,fun o ob h=>?_⟩
 ·simp only[Cl,ClL,and_true,true_and]
  exact ⟨⟨_,rfl,rfl⟩,⟨_,rfl,rfl⟩,⟨_,rfl,rfl⟩⟩
 ·simp only[aget_cons,aget_nil] at h
  split at h
  ·cases h;exact ⟨trivial,trivial⟩
  split at h
  ·cases h;exact ⟨trivial,trivial⟩
  split at h
  ·cases h;exact ⟨trivial,trivial⟩
  ·cases h
 ·intro _
  refine VR.root o ?_
  simp only[aget_cons,aget_nil] at h
  simp only[vids,vidsL,List.mem_append,List.mem_cons,List.not_mem_nil,or_false,false_or]
  split at h
  ·omega
  split at h
  ·omega
  split at h
  ·omega
  ·cases h
section
variable (w:World) (n:Nat)
theorem splitSeq0_p (l:List UInt8) (c:UInt8):VSpec (EN w (n+1)) 57 [strV l,strV [c],.sc (.int .i64 0)] (.fn 65 [] [.ptr 1 0,.ptr 0 0,.ptr 2 0]) ⟨[(2,.box 3 1 [.sc (.int .i64 0)]),(1,sBox [c]),(0,sBox l)],3,0⟩:=by
 refine vspec_g rfl rfl (fun _ _=>rfl) (Nat.le_of_ble_eq_true rfl) (oldVals w) (split_ret l c) rfl fun C hC hn=>?_
 repeat' (first|(simp (disch:=first|omega|assumption|(refine @id ((_:Bool)=_) ?_;exact id (by with_unfolding_all rfl))|(exact Or.inl rfl)|(exact Or.inl trivial)|(exact okL_map _ (fun _=>rfl) _)|(simp only[VVlen]<;>omega)|fail) only[VV0,VV1,VV2,VV3,VV4,VV5,VV6,VV7,VV8,VV9,mkFnV,vargs,slotsL,opdsA,Nat.reduceEqDiff,Nat.reduceLT,Nat.reduceAdd,Nat.reduceBEq,Int.reduceAdd,Int.reduceSub,Int.reduceLT,Int.reduceLE,Int.reduceEq,Int.reduceNeg,↓reduceIte,reduceCtorEq,scL,scD,expand,List.replicate,c57])|(refine gC_drawW ?_)|(refine gI_dec (fun _=>?_) (fun _=>?_))|(refine gG_dec (fun _=>?_) (fun _=>?_))|(refine gPG_dec (fun _=>?_) (fun _=>?_))|(refine gI_var (fun _=>?_) (fun _=>?_))|(refine gG_var (fun _=>?_) (fun _=>?_))|(refine gPG_var (fun _=>?_) (fun _=>?_)))
 exact weak_to [(2,2),(1,1),(0,0)] 3 hn rfl rfl rfl rfl
theorem splitSeq_p (l:List UInt8) (c:UInt8):VSpec (EN w (n+2)) 47 [strV l,strV [c]] (.fn 65 [] [.ptr 1 0,.ptr 0 0,.ptr 2 0]) ⟨[(2,.box 3 1 [.sc (.int .i64 0)]),(1,sBox [c]),(0,sBox l)],3,0⟩:=by
 refine vspec_g rfl rfl (fun _ _=>rfl) (Nat.le_of_ble_eq_true rfl) (oldVals w) (split_ret l c) rfl fun C hC hn=>?_
 repeat' (first|(simp (disch:=first|omega|assumption|(refine @id ((_:Bool)=_) ?_;exact id (by with_unfolding_all rfl))|(exact Or.inl rfl)|(exact Or.inl trivial)|(exact okL_map _ (fun _=>rfl) _)|(simp only[VVlen]<;>omega)|fail) only[VV0,VV1,VV2,VV3,VV4,VV5,VV6,VV7,VV8,VV9,mkFnV,vargs,slotsL,opdsA,Nat.reduceEqDiff,Nat.reduceLT,Nat.reduceAdd,Nat.reduceBEq,Int.reduceAdd,Int.reduceSub,Int.reduceLT,Int.reduceLE,Int.reduceEq,Int.reduceNeg,↓reduceIte,reduceCtorEq,scL,scD,expand,List.replicate,c47])|(refine gC_drawW ?_)|(refine gI_dec (fun _=>?_) (fun _=>?_))|(refine gG_dec (fun _=>?_) (fun _=>?_))|(refine gPG_dec (fun _=>?_) (fun _=>?_))|(refine gI_var (fun _=>?_) (fun _=>?_))|(refine gG_var (fun _=>?_) (fun _=>?_))|(refine gPG_var (fun _=>?_) (fun _=>?_)))
 refine callV_of (by rw[hC];exact splitSeq0_p w n l c) rfl rfl rfl ?_
 repeat' (first|(simp (disch:=first|omega|assumption|(refine @id ((_:Bool)=_) ?_;exact id (by with_unfolding_all rfl))|(exact Or.inl rfl)|(exact Or.inl trivial)|(exact okL_map _ (fun _=>rfl) _)|(simp only[VVlen]<;>omega)|fail) only[VV0,VV1,VV2,VV3,VV4,VV5,VV6,VV7,VV8,VV9,mkFnV,vargs,slotsL,opdsA,Nat.reduceEqDiff,Nat.reduceLT,Nat.reduceAdd,Nat.reduceBEq,Int.reduceAdd,Int.reduceSub,Int.reduceLT,Int.reduceLE,Int.reduceEq,Int.reduceNeg,↓reduceIte,reduceCtorEq,scL,scD,expand,List.replicate,vsh,vshL,shH,shO,fzSL,fzS])|(refine gC_drawW ?_)|(refine gI_dec (fun _=>?_) (fun _=>?_))|(refine gG_dec (fun _=>?_) (fun _=>?_))|(refine gPG_dec (fun _=>?_) (fun _=>?_))|(refine gI_var (fun _=>?_) (fun _=>?_))|(refine gG_var (fun _=>?_) (fun _=>?_))|(refine gPG_var (fun _=>?_) (fun _=>?_)))
 exact weak_to [(2,2),(1,1),(0,0)] 3 hn rfl rfl rfl rfl
end
theorem split_iter {C':Ctx} {E:Env} {a b:AC} {fr:VFr} {ps:List Nat} {d oP oS oV:Nat} {c:UInt8} {s:List UInt8} (w:World) (n:Nat) (J:List (List UInt8)→List UInt8→VSt→Prop) (S:VSt→Prop) {P:VPost}
  (hE:C'.E.pcall=(EN w (n+4)).pcall) (hO:C'.E.old=oldOf w) (hr:C'.E.rounds=many) (hl:s.length≤1000000) (hT:∀ xs st Q,RoundV E a b fr ps d xs st Q→CallT C' d xs st Q)
  (hbox:∀ dn r st,J dn r st→aget st.own oS=some (sBox r)∧aget st.own oP=some (sBox [c])∧aget st.own oV=some (.box 3 1 [.sc (.int .i64 0)])∧st.ro≤oS)
  (hround:∀ dn r x ws st (Q:V→VSt→Prop),words c s=dn++words c r→words c r=x::ws→J dn r st→(∀ st',J (dn++ [x]) r st'→Q (.sc (.bool true)) st')→(∀ st',S st'→Q (.sc (.bool false)) st')→RoundV E a b fr ps d [strV x] st Q)
  (hset:∀ dn r r' st,J dn r st→J dn r' ⟨aset st.own oS (sBox r'),st.next,st.ro⟩)
  (hend:∀ fr st r,J (words c s) r st→P .normal fr st) (hstop:∀ ex fr st,(∀ i,ex ≠ .exit i)→S st→P ex fr st) (st0:VSt) (h0:J [] s st0):
  gC C' c65.code [] (vargs 0 [.tok d,.ptr oP 0,.ptr oS 0,.ptr oV 0]) st0 P:=by
 obtain ⟨k1,k2,k3,k4⟩:=hbox _ _ _ h0
 have h1:(ByteArray.mk [c].toArray).size=1:=rfl
 have h1i:((1:Nat):Int)=1:=rfl
 have hidx:∀ (st:VSt) (r:List UInt8),r.length≤1000000→VSpecO C'.E 67 st [strV r,strV [c]] (.sc (.int .i64 (idxB c r))):=fun st r hr=>((index_p w n r c (by omega)).flat rfl rfl).env hE hO
 repeat' (first|(simp (disch:=first|omega|assumption|(refine @id ((_:Bool)=_) ?_;exact id (by with_unfolding_all rfl))|(exact Or.inl rfl)|(exact Or.inl trivial)|(exact okL_map _ (fun _=>rfl) _)|(simp only[VVlen]<;>omega)|fail) only[VV0,VV1,VV2,VV3,VV4,VV5,VV6,VV7,VV8,VV9,mkFnV,vargs,slotsL,opdsA,Nat.reduceEqDiff,Nat.reduceLT,Nat.reduceAdd,Nat.reduceBEq,Int.reduceAdd,Int.reduceSub,Int.reduceLT,Int.reduceLE,Int.reduceEq,Int.reduceNeg,↓reduceIte,reduceCtorEq,scL,scD,expand,List.replicate,c65,k2,h1,h1i])|(refine gC_drawW ?_)|(refine gI_dec (fun _=>?_) (fun _=>?_))|(refine gG_dec (fun _=>?_) (fun _=>?_))|(refine gPG_dec (fun _=>?_) (fun _=>?_))|(refine gI_var (fun _=>?_) (fun _=>?_))|(refine gG_var (fun _=>?_) (fun _=>?_))|(refine gPG_var (fun _=>?_) (fun _=>?_)))
 all_goals try (exfalso;omega)
 refine g_while (fun m fr st=>∃ dn r,m=r.length∧r.length≤1000000∧words c s=dn++words c r∧J dn r st∧fr= [(0,.tok d),(1,.ptr oP 0),(2,.ptr oS 0),(3,.ptr oV 0)]) s.length ?_ ⟨_,_,weak_akeep [0,1,2,3] rfl,[],s,rfl,hl,rfl,h0,rfl⟩ ?_
 ·rw[hr];unfold many;omega
 rintro _ fr1 st ⟨dn,r,rfl,hrl,hw,hJ,rfl⟩
 obtain ⟨k1,k2,k3,k4⟩:=hbox _ _ _ hJ
 rcases byte_split c r with hf|⟨x,r',rfl,hf⟩
 ·have hi:=idxB_free hf
  repeat' (first|(simp (disch:=first|omega|assumption|(refine @id ((_:Bool)=_) ?_;exact id (by with_unfolding_all rfl))|(exact Or.inl rfl)|(exact Or.inl trivial)|(exact okL_map _ (fun _=>rfl) _)|(simp only[VVlen]<;>omega)|fail) only[VV0,VV1,VV2,VV3,VV4,VV5,VV6,VV7,VV8,VV9,mkFnV,vargs,slotsL,opdsA,Nat.reduceEqDiff,Nat.reduceLT,Nat.reduceAdd,Nat.reduceBEq,Int.reduceAdd,Int.reduceSub,Int.reduceLT,Int.reduceLE,Int.reduceEq,Int.reduceNeg,↓reduceIte,reduceCtorEq,scL,scD,expand,List.replicate,c65l0,k1,k2,k3])|(refine gC_drawW ?_)|(refine gI_dec (fun _=>?_) (fun _=>?_))|(refine gG_dec (fun _=>?_) (fun _=>?_))|(refine gPG_dec (fun _=>?_) (fun _=>?_))|(refine gI_var (fun _=>?_) (fun _=>?_))|(refine gG_var (fun _=>?_) (fun _=>?_))|(refine gPG_var (fun _=>?_) (fun _=>?_)))
  refine callV_flat (hidx _ r hrl) ?_
  rw[hi]
  repeat' (first|(simp (disch:=first|omega|assumption|(refine @id ((_:Bool)=_) ?_;exact id (by with_unfolding_all rfl))|(exact Or.inl rfl)|(exact Or.inl trivial)|(exact okL_map _ (fun _=>rfl) _)|(simp only[VVlen]<;>omega)|fail) only[VV0,VV1,VV2,VV3,VV4,VV5,VV6,VV7,VV8,VV9,mkFnV,vargs,slotsL,opdsA,Nat.reduceEqDiff,Nat.reduceLT,Nat.reduceAdd,Nat.reduceBEq,Int.reduceAdd,Int.reduceSub,Int.reduceLT,Int.reduceLE,Int.reduceEq,Int.reduceNeg,↓reduceIte,reduceCtorEq,scL,scD,expand,List.replicate,k1,k2,k3])|(refine gC_drawW ?_)|(refine gI_dec (fun _=>?_) (fun _=>?_))|(refine gG_dec (fun _=>?_) (fun _=>?_))|(refine gPG_dec (fun _=>?_) (fun _=>?_))|(refine gI_var (fun _=>?_) (fun _=>?_))|(refine gG_var (fun _=>?_) (fun _=>?_))|(refine gPG_var (fun _=>?_) (fun _=>?_)))
  all_goals try (exfalso;omega)
  have hwr:=words_free hf
  refine hT _ _ _ (hround dn r r [] st _ hw hwr hJ (fun st' hJ'=>?_) (fun st' hS=>?_))
  ·repeat' (first|(simp (disch:=first|omega|assumption|(refine @id ((_:Bool)=_) ?_;exact id (by with_unfolding_all rfl))|(exact Or.inl rfl)|(exact Or.inl trivial)|(exact okL_map _ (fun _=>rfl) _)|(simp only[VVlen]<;>omega)|fail) only[VV0,VV1,VV2,VV3,VV4,VV5,VV6,VV7,VV8,VV9,mkFnV,vargs,slotsL,opdsA,Nat.reduceEqDiff,Nat.reduceLT,Nat.reduceAdd,Nat.reduceBEq,Int.reduceAdd,Int.reduceSub,Int.reduceLT,Int.reduceLE,Int.reduceEq,Int.reduceNeg,↓reduceIte,reduceCtorEq,scL,scD,expand,List.replicate])|(refine gC_drawW ?_)|(refine gI_dec (fun _=>?_) (fun _=>?_))|(refine gG_dec (fun _=>?_) (fun _=>?_))|(refine gPG_dec (fun _=>?_) (fun _=>?_))|(refine gI_var (fun _=>?_) (fun _=>?_))|(refine gG_var (fun _=>?_) (fun _=>?_))|(refine gPG_var (fun _=>?_) (fun _=>?_)))
   exact hend _ _ r (by rw[hw,hwr];exact hJ')
  ·repeat' (first|(simp (disch:=first|omega|assumption|(refine @id ((_:Bool)=_) ?_;exact id (by with_unfolding_all rfl))|(exact Or.inl rfl)|(exact Or.inl trivial)|(exact okL_map _ (fun _=>rfl) _)|(simp only[VVlen]<;>omega)|fail) only[VV0,VV1,VV2,VV3,VV4,VV5,VV6,VV7,VV8,VV9,mkFnV,vargs,slotsL,opdsA,Nat.reduceEqDiff,Nat.reduceLT,Nat.reduceAdd,Nat.reduceBEq,Int.reduceAdd,Int.reduceSub,Int.reduceLT,Int.reduceLE,Int.reduceEq,Int.reduceNeg,↓reduceIte,reduceCtorEq,scL,scD,expand,List.replicate])|(refine gC_drawW ?_)|(refine gI_dec (fun _=>?_) (fun _=>?_))|(refine gG_dec (fun _=>?_) (fun _=>?_))|(refine gPG_dec (fun _=>?_) (fun _=>?_))|(refine gI_var (fun _=>?_) (fun _=>?_))|(refine gG_var (fun _=>?_) (fun _=>?_))|(refine gPG_var (fun _=>?_) (fun _=>?_)))
   exact hstop _ _ _ (fun i h=>by cases h) hS
 ·have hi:=idxB_app r' hf
  have hlen:(x++c::r').length=x.length+r'.length+1:=by simp;omega
  have hwr:=words_app r' hf
  have e1:=slcS_hi (x++c::r') .i64 x.length (by omega) (by rw[hlen];omega)
  have e2:=slcS_lo (x++c::r') .i64 ((x.length:Int)+1) (by omega) (by rw[hlen];omega)
  rw[Int.toNat_natCast,List.take_left] at e1
  rw[show ((x.length:Int)+1).toNat=x.length+1 by omega,show (x++c::r').drop (x.length+1)=r' by rw[← List.drop_drop];simp] at e2
  repeat' (first|(simp (disch:=first|omega|assumption|(refine @id ((_:Bool)=_) ?_;exact id (by with_unfolding_all rfl))|(exact Or.inl rfl)|(exact Or.inl trivial)|(exact okL_map _ (fun _=>rfl) _)|(simp only[VVlen]<;>omega)|fail) only[VV0,VV1,VV2,VV3,VV4,VV5,VV6,VV7,VV8,VV9,mkFnV,vargs,slotsL,opdsA,Nat.reduceEqDiff,Nat.reduceLT,Nat.reduceAdd,Nat.reduceBEq,Int.reduceAdd,Int.reduceSub,Int.reduceLT,Int.reduceLE,Int.reduceEq,Int.reduceNeg,↓reduceIte,reduceCtorEq,scL,scD,expand,List.replicate,c65l0,k1,k2,k3])|(refine gC_drawW ?_)|(refine gI_dec (fun _=>?_) (fun _=>?_))|(refine gG_dec (fun _=>?_) (fun _=>?_))|(refine gPG_dec (fun _=>?_) (fun _=>?_))|(refine gI_var (fun _=>?_) (fun _=>?_))|(refine gG_var (fun _=>?_) (fun _=>?_))|(refine gPG_var (fun _=>?_) (fun _=>?_)))
  refine callV_flat (hidx _ _ hrl) ?_
  rw[hi]
  repeat' (first|(simp (disch:=first|omega|assumption|(refine @id ((_:Bool)=_) ?_;exact id (by with_unfolding_all rfl))|(exact Or.inl rfl)|(exact Or.inl trivial)|(exact okL_map _ (fun _=>rfl) _)|(simp only[VVlen]<;>omega)|fail) only[VV0,VV1,VV2,VV3,VV4,VV5,VV6,VV7,VV8,VV9,mkFnV,vargs,slotsL,opdsA,Nat.reduceEqDiff,Nat.reduceLT,Nat.reduceAdd,Nat.reduceBEq,Int.reduceAdd,Int.reduceSub,Int.reduceLT,Int.reduceLE,Int.reduceEq,Int.reduceNeg,↓reduceIte,reduceCtorEq,scL,scD,expand,List.replicate,k1,k2,k3,e1,Int.add_zero])|(refine gC_drawW ?_)|(refine gI_dec (fun _=>?_) (fun _=>?_))|(refine gG_dec (fun _=>?_) (fun _=>?_))|(refine gPG_dec (fun _=>?_) (fun _=>?_))|(refine gI_var (fun _=>?_) (fun _=>?_))|(refine gG_var (fun _=>?_) (fun _=>?_))|(refine gPG_var (fun _=>?_) (fun _=>?_)))
  all_goals try (exfalso;omega)
  refine hT _ _ _ (hround dn _ x (words c r') _ _ hw hwr hJ (fun st' hJ'=>?_) (fun st' hS=>?_))
  ·obtain ⟨k1,k2,k3,k4⟩:=hbox _ _ _ hJ'
   repeat' (first|(simp (disch:=first|omega|assumption|(refine @id ((_:Bool)=_) ?_;exact id (by with_unfolding_all rfl))|(exact Or.inl rfl)|(exact Or.inl trivial)|(exact okL_map _ (fun _=>rfl) _)|(simp only[VVlen]<;>omega)|fail) only[VV0,VV1,VV2,VV3,VV4,VV5,VV6,VV7,VV8,VV9,mkFnV,vargs,slotsL,opdsA,Nat.reduceEqDiff,Nat.reduceLT,Nat.reduceAdd,Nat.reduceBEq,Int.reduceAdd,Int.reduceSub,Int.reduceLT,Int.reduceLE,Int.reduceEq,Int.reduceNeg,↓reduceIte,reduceCtorEq,scL,scD,expand,List.replicate,k1,k2,k3,h1,h1i,e2])|(refine gC_drawW ?_)|(refine gI_dec (fun _=>?_) (fun _=>?_))|(refine gG_dec (fun _=>?_) (fun _=>?_))|(refine gPG_dec (fun _=>?_) (fun _=>?_))|(refine gI_var (fun _=>?_) (fun _=>?_))|(refine gG_var (fun _=>?_) (fun _=>?_))|(refine gPG_var (fun _=>?_) (fun _=>?_)))
   refine ⟨_,_,_,?_,.refl _ _,dn++ [x],r',rfl,by omega,?_,hset _ _ r' _ hJ',rfl⟩
   ·rw[hlen];omega
   ·rw[hw,hwr];simp
  ·repeat' (first|(simp (disch:=first|omega|assumption|(refine @id ((_:Bool)=_) ?_;exact id (by with_unfolding_all rfl))|(exact Or.inl rfl)|(exact Or.inl trivial)|(exact okL_map _ (fun _=>rfl) _)|(simp only[VVlen]<;>omega)|fail) only[VV0,VV1,VV2,VV3,VV4,VV5,VV6,VV7,VV8,VV9,mkFnV,vargs,slotsL,opdsA,Nat.reduceEqDiff,Nat.reduceLT,Nat.reduceAdd,Nat.reduceBEq,Int.reduceAdd,Int.reduceSub,Int.reduceLT,Int.reduceLE,Int.reduceEq,Int.reduceNeg,↓reduceIte,reduceCtorEq,scL,scD,expand,List.replicate])|(refine gC_drawW ?_)|(refine gI_dec (fun _=>?_) (fun _=>?_))|(refine gG_dec (fun _=>?_) (fun _=>?_))|(refine gPG_dec (fun _=>?_) (fun _=>?_))|(refine gI_var (fun _=>?_) (fun _=>?_))|(refine gG_var (fun _=>?_) (fun _=>?_))|(refine gPG_var (fun _=>?_) (fun _=>?_)))
   exact hstop _ _ _ (fun i h=>by cases h) hS
end Go.Proofs.YtgglaaldlegckaaDoor
namespace Go.Proofs.YtgglaaldlegckaaDoor
open Go Go.Itp
set_option maxRecDepth 100000
set_option maxHeartbeats 1000000
set_option linter.unusedSimpArgs false
set_option linter.unusedVariables false
def okW (p:Int × Int):Prop:=(1≤p.1∧p.1≤4000)∧0≤p.2∧p.2≤15
def okP (prev:Option Int) (p:Int × Int):Prop:=okW p∧prev ≠ some p.2
instance (prev:Option Int) (p:Int × Int):Decidable (okP prev p):=by unfold okP okW;exact inferInstance
def Canon:Option Int→List (Int × Int)→Prop
 |_,[]=>True
 |prev,p::R=>okP prev p∧Canon (some p.2) R
def wordF (prev:Option Int) (x:List UInt8):Option (Int × Int):=
 if (cutB 120 x).2.2=true∧(numF (cutB 120 x).1).2=true∧(numF (cutB 120 x).2.1).2=true∧okP prev ((numF (cutB 120 x).1).1,(numF (cutB 120 x).2.1).1) then some ((numF (cutB 120 x).1).1,(numF (cutB 120 x).2.1).1) else none
def parseR:Option Int→List (List UInt8)→Option (List (Int × Int))
 |_,[]=>some []
 |prev,x::ws=>(wordF prev x).bind fun p=>(parseR (some p.2) ws).map (p::·)
def expL (R:List (Int × Int)):List Int:=R.flatMap fun p=>List.replicate p.1.toNat p.2
def sumR (R:List (Int × Int)):Int:=(R.map (·.1)).sum
instance (p:Int × Int):Decidable (okW p):=by unfold okW;exact inferInstance
def expF (R:List (Int × Int)):List Int × Int:=if ∀ p ∈ R,okW p then (if sumR R≤4000 then (expL R,0) else ([],4)) else ([],8)
theorem dig_not {c:UInt8} (h:isDig c=true):c ≠ 32∧c ≠ 120:=by
 constructor<;>(rintro rfl;simp[isDig] at h)
theorem cut_txt1 {p:Int × Int} (h1:0≤p.1):cutB 120 (txt1 p)=(Lib.itoa p.1,Lib.itoa p.2,true):=by
 have hf:(120:UInt8) ∉ Lib.itoa p.1:=fun h=>(dig_not (itoa_dig h1 _ h)).2 rfl
 unfold cutB txt1
 rw[idxB_app _ hf,if_pos (by omega)]
 simp
theorem cut_true {x:List UInt8} (h:(cutB 120 x).2.2=true):x=(cutB 120 x).1++120::(cutB 120 x).2.1:=by
 rcases byte_split 120 x with hf|⟨a,r,rfl,hf⟩
 ·unfold cutB at h
  rw[idxB_free hf,if_neg (by omega)] at h
  cases h
 ·unfold cutB
  rw[idxB_app _ hf,if_pos (by omega)]
  simp
theorem wordF_txt {prev:Option Int} {p:Int × Int} (h:okP prev p):wordF prev (txt1 p)=some p:=by
 obtain ⟨⟨⟨a1,a2⟩,a3,a4⟩,a5⟩:=h
 unfold wordF
 rw[cut_txt1 (by omega)]
 simp only
 rw[numF_itoa (by omega) (by omega),numF_itoa (by omega) (by omega)]
 have hh:okP prev (p.1,p.2):=⟨⟨⟨a1,a2⟩,a3,a4⟩,a5⟩
 simp only[hh,and_self,if_true]
theorem wordF_some {prev:Option Int} {x:List UInt8} {p:Int × Int} (h:wordF prev x=some p):x=txt1 p∧okP prev p:=by
 unfold wordF at h
 split at h
 case isFalse=>cases h
 rename_i hc
 obtain ⟨h1,h2,h3,h4⟩:=hc
 cases h
 refine ⟨?_,h4⟩
 obtain ⟨_,_,e1⟩:=numF_some (l:=(cutB 120 x).1) (z:=(numF (cutB 120 x).1).1) (by rw[← h2])
 obtain ⟨_,_,e2⟩:=numF_some (l:=(cutB 120 x).2.1) (z:=(numF (cutB 120 x).2.1).1) (by rw[← h3])
 have:=cut_true h1
 unfold txt1
 rw[← e1,← e2]
 exact this
theorem parseR_txt:∀ {prev:Option Int} {R:List (Int × Int)},Canon prev R→parseR prev (R.map txt1)=some R
 |_,[],_=>rfl
 |prev,p::R,h=>by
  simp only[List.map_cons,parseR,wordF_txt h.1,Option.bind_some,parseR_txt h.2,Option.map_some]
theorem parseR_some:∀ {ws:List (List UInt8)} {prev:Option Int} {R:List (Int × Int)},parseR prev ws=some R→ws=R.map txt1∧Canon prev R
 | [],_,R,h=>by simp only[parseR,Option.some.injEq] at h;subst h;exact ⟨rfl,trivial⟩
 |x::ws,prev,R,h=>by
  simp only[parseR,Option.bind_eq_some_iff,Option.map_eq_some_iff] at h
  obtain ⟨p,h1,Q,h2,rfl⟩:=h
  obtain ⟨rfl,h3⟩:=wordF_some h1
  obtain ⟨rfl,h4⟩:=parseR_some h2
  exact ⟨rfl,h3,h4⟩
theorem canon_ok:∀ {prev:Option Int} {R:List (Int × Int)},Canon prev R→∀ p ∈ R,okW p
 |_,[],_,p,h=>by simp at h
 |prev,q::R,hc,p,h=>by
  rcases List.mem_cons.1 h with rfl|h
  ·exact hc.1.1
  ·exact canon_ok hc.2 p h
def lastC:Option Int→List (Int × Int)→Option Int
 |prev,[]=>prev
 |_,p::R=>lastC (some p.2) R
theorem lastC_snoc:∀ (prev:Option Int) (R:List (Int × Int)) (p:Int × Int),lastC prev (R++ [p])=some p.2
 |_,[],_=>rfl
 |_,q::R,p=>lastC_snoc (some q.2) R p
theorem canon_snoc:∀ {prev:Option Int} {R:List (Int × Int)} {p:Int × Int},Canon prev R→okP (lastC prev R) p→Canon prev (R++ [p])
 |prev,[],p,_,h=>⟨h,trivial⟩
 |prev,q::R,p,hc,h=>⟨hc.1,canon_snoc hc.2 h⟩
theorem canon_front:∀ {prev:Option Int} {R:List (Int × Int)} {p:Int × Int},Canon prev (R++ [p])→Canon prev R∧okP (lastC prev R) p
 |prev,[],p,h=>⟨trivial,h.1⟩
 |prev,q::R,p,h=>⟨⟨h.1,(canon_front h.2).1⟩,(canon_front h.2).2⟩
theorem txt_join:∀ (R:List (Int × Int)),txt R=join 32 (R.map txt1):=by
 intro R
 induction h:R.length generalizing R with
 |zero=>rw[List.eq_nil_of_length_eq_zero h];rfl
 |succ m ih=>
  have hne:R ≠ []:=by rintro rfl;simp at h
  obtain ⟨Q,p,rfl⟩:∃ Q p,R=Q++ [p]:=⟨R.dropLast,R.getLast hne,(List.dropLast_concat_getLast hne).symm⟩
  have ih:=ih Q (by simpa using h)
  rw[txt_snoc,List.map_append,List.map_cons,List.map_nil]
  by_cases hQ:Q= []
  ·subst hQ;rfl
  ·rw[if_neg (by rw[txt_nil_iff];exact hQ),join_snoc _ _ (by simpa using hQ),← ih]
   simp
theorem words_txt {R:List (Int × Int)} (hne:R ≠ []) (hR:∀ p ∈ R,okW p):words 32 (txt R)=R.map txt1:=by
 rw[txt_join]
 refine words_join (by simpa using hne) fun x hx=>?_
 obtain ⟨p,hp,rfl⟩:=List.mem_map.1 hx
 obtain ⟨⟨a1,a2⟩,a3,a4⟩:=hR p hp
 intro h
 unfold txt1 at h
 rcases List.mem_append.1 h with h|h
 ·exact (dig_not (itoa_dig (by omega) _ h)).1 rfl
 ·rcases List.mem_cons.1 h with h|h
  ·simp at h
  ·exact (dig_not (itoa_dig a3 _ h)).1 rfl
theorem expL_snoc (R:List (Int × Int)) (p:Int × Int):expL (R++ [p])=expL R++List.replicate p.1.toNat p.2:=by simp[expL]
theorem rep_succ (n:Int) (x:Int) (h:0≤n):List.replicate (n+1).toNat x=List.replicate n.toNat x++ [x]:=by
 rw[show (n+1).toNat=n.toNat+1 by omega,List.replicate_succ']
theorem runs_facts {l:List Int} (h:chk l=0):∀ k,k≤l.length→expL (runsP l k)=l.take k∧Canon none (runsP l k)∧(0<k→lastC none (runsP l k)=some l[k - 1]!)∧(∀ p ∈ runsP l k,0≤p.1∧p.1≤k)
 |0,_=>⟨rfl,trivial,(fun h=>absurd h (Nat.lt_irrefl 0)),(fun p hp=>by simp[runsP] at hp)⟩
 |k+1,hk=>by
  obtain ⟨i1,i2,i3,i4⟩:=runs_facts h k (by omega)
  obtain ⟨hl4,hcol⟩:=chk_facts h
  have hck:=hcol k (by omega)
  have ht:l.take (k+1)=l.take k++ [l[k]!]:=by
   rw[List.take_succ_eq_append_getElem (show k<l.length by omega),getElem!_pos l k (by omega)]
  refine ⟨?_,?_,?_,runsP_cnt l (k+1)⟩
  ·rw[runsP,ht,← i1]
   split
   ·rename_i hc
    obtain ⟨Q,p,h1,h2⟩:=incLast_ne (runsP_ne l hc.1)
    have hp:=i4 p (by rw[h1];simp)
    have e:=i3 hc.1
    rw[h1,lastC_snoc] at e
    have e2:p.2=l[k]! :=by rw[hc.2];exact Option.some.inj e
    rw[h2,h1,expL_snoc,expL_snoc,rep_succ _ _ hp.1,List.append_assoc,e2]
   ·rw[expL_snoc];rfl
  ·rw[runsP]
   split
   ·rename_i hc
    obtain ⟨Q,p,h1,h2⟩:=incLast_ne (runsP_ne l hc.1)
    have hp:=i4 p (by rw[h1];simp)
    rw[h1] at i2
    obtain ⟨j1,j2⟩:=canon_front i2
    rw[h2]
    refine canon_snoc j1 ⟨⟨?_,j2.1.2⟩,j2.2⟩
    have:=j2.1.1
    simp only
    omega
   ·rename_i hc
    refine canon_snoc i2 ⟨⟨by simp only;omega,hck⟩,?_⟩
    by_cases h0:0<k
    ·rw[i3 h0]
     intro e
     exact hc ⟨h0,(Option.some.inj e).symm⟩
    ·have:k=0:=by omega
     subst this
     simp[runsP,lastC]
  ·intro _
   rw[runsP]
   split
   ·rename_i hc
    obtain ⟨Q,p,h1,h2⟩:=incLast_ne (runsP_ne l hc.1)
    have e:=i3 hc.1
    rw[h1,lastC_snoc] at e
    rw[h2,lastC_snoc,Nat.add_sub_cancel,hc.2]
    exact e
   ·rw[lastC_snoc,Nat.add_sub_cancel]
theorem replicate_split (a b:Nat) (x:Int):List.replicate (a+b) x=List.replicate a x++List.replicate b x:=by rw[List.replicate_append_replicate]
theorem expL_inj:∀ {prev:Option Int} {R R':List (Int × Int)},Canon prev R→Canon prev R'→expL R=expL R'→R=R'
 |_,[],[],_,_,_=>rfl
 |_,[],p::R',_,h,e=>by
  exfalso
  have:=congrArg List.length e
  have:=h.1.1.1
  simp[expL] at*
  omega
 |_,p::R,[],h,_,e=>by
  exfalso
  have:=congrArg List.length e
  have:=h.1.1.1
  simp[expL] at*
  omega
 |prev,p::R,q::R',h,h',e=>by
  obtain ⟨n,c⟩:=p
  obtain ⟨m,d⟩:=q
  have hn:=h.1.1.1
  have hm:=h'.1.1.1
  simp only at hn hm
  obtain ⟨a,rfl⟩:=Int.eq_ofNat_of_zero_le (show 0≤n by omega)
  obtain ⟨b,rfl⟩:=Int.eq_ofNat_of_zero_le (show 0≤m by omega)
  have e':List.replicate a c++expL R=List.replicate b d++expL R':=by simpa [expL] using e
  have hcd:c=d:=by
   have:=congrArg List.head? e'
   obtain ⟨a',rfl⟩:∃ a',a=a'+1:=⟨a - 1,by omega⟩
   obtain ⟨b',rfl⟩:∃ b',b=b'+1:=⟨b - 1,by omega⟩
   simpa [List.replicate_succ] using this
  subst hcd
  have hnext:∀ {S:List (Int × Int)},Canon (some c) S→(expL S).head? ≠ some c:=by
   intro S hS
   cases S with
   |nil=>simp[expL]
   |cons r S=>
    have h1:=hS.1.1.1
    obtain ⟨k,hk⟩:∃ k,r.1.toNat=k+1:=⟨r.1.toNat - 1,by omega⟩
    have h2:=hS.1.2
    simp only[expL,List.flatMap_cons,hk,List.replicate_succ,List.cons_append,List.head?_cons]
    intro e
    exact h2 (by rw[Option.some.inj e])
  have hab:a=b:=by
   rcases Nat.lt_trichotomy a b with hl|he|hl
   ·exfalso
    obtain ⟨k,rfl⟩:∃ k,b=a+(k+1):=⟨b - a - 1,by omega⟩
    rw[replicate_split,List.append_assoc] at e'
    have:=List.append_cancel_left e'
    refine hnext h.2 ?_
    rw[this]
    simp[List.replicate_succ]
   ·exact he
   ·exfalso
    obtain ⟨k,rfl⟩:∃ k,a=b+(k+1):=⟨a - b - 1,by omega⟩
    rw[replicate_split,List.append_assoc] at e'
    have:=List.append_cancel_left e'
    refine hnext h'.2 ?_
    rw[← this]
    simp[List.replicate_succ]
  subst hab
  rw[expL_inj h.2 h'.2 (List.append_cancel_left e')]
end Go.Proofs.YtgglaaldlegckaaDoor
namespace Go.Proofs.YtgglaaldlegckaaDoor
open Go Go.Itp
set_option maxRecDepth 100000
set_option maxHeartbeats 1000000
set_option linter.unusedSimpArgs false
set_option linter.unusedVariables false
theorem sumR_take (R:List (Int × Int)) (k:Nat) (hk:k<R.length):sumR (R.take (k+1))=sumR (R.take k)+R[k]!.1:=by
 rw[List.take_succ_eq_append_getElem hk,getElem!_pos R k hk]
 simp only[sumR,List.map_append,List.map_cons,List.map_nil,List.sum_append,List.sum_cons,List.sum_nil,Int.add_zero]
theorem sumR_cons (p:Int × Int) (R:List (Int × Int)):sumR (p::R)=p.1+sumR R:=by simp[sumR]
theorem sumR_nn:∀ {R:List (Int × Int)},(∀ p ∈ R,okW p)→0≤sumR R∧((expL R).length:Int)=sumR R
 | [],_=>by simp[sumR,expL]
 |p::R,h=>by
  obtain ⟨h1,h2⟩:=sumR_nn (R:=R) fun q hq=>h q (List.mem_cons_of_mem _ hq)
  have:=(h p (by simp)).1
  rw[sumR_cons]
  have e:expL (p::R)=List.replicate p.1.toNat p.2++expL R:=by simp[expL]
  rw[e,List.length_append,List.length_replicate]
  omega
theorem sumR_mono {R:List (Int × Int)} (h:∀ p ∈ R,okW p) (k:Nat):sumR (R.take k)≤sumR R:=by
 have e:sumR R=sumR (R.take k)+sumR (R.drop k):=by
  conv=>lhs;rw[← List.take_append_drop k R]
  simp only[sumR,List.map_append,List.sum_append]
 have:=(sumR_nn (R:=R.drop k) fun q hq=>h q (List.mem_of_mem_drop hq)).1
 omega
theorem expL_take (R:List (Int × Int)) (k:Nat) (hk:k<R.length):expL (R.take (k+1))=expL (R.take k)++List.replicate R[k]!.1.toNat R[k]!.2:=by
 rw[List.take_succ_eq_append_getElem hk,getElem!_pos R k hk,expL_snoc]
theorem rep_stTo (c:Int) (q:Nat):stTo (repF [c]) q q=List.replicate q c:=by
 rw[stTo_end]
 refine List.ext_getElem (by simp) fun i h1 h2=>?_
 simp[repF,Nat.mod_one]
theorem okW_iff {N c:Int}:okW (N,c)↔¬ N<1∧¬ 4000<N∧col c=true:=by
 unfold okW col
 simp only[Bool.and_eq_true,decide_eq_true_eq]
 omega
section
variable (w:World) (n:Nat)
theorem expand_p (s:Nat) (R:List (Int × Int)) (hl:R.length≤1000000):VSpec (EN w (n+4)) 28 [.sl s R.length (runC R)] (sl2 (expF R)) ⟨[],0,0⟩:=by
 refine vspec_g rfl rfl (fun _ _=>rfl) (Nat.le_of_ble_eq_true rfl) (oldVals w) retOK_fin rfl fun C hC hn=>?_
 have hcl:=runC_len R
 repeat' (first|(simp (disch:=first|omega|assumption|(refine @id ((_:Bool)=_) ?_;exact id (by with_unfolding_all rfl))|(exact Or.inl rfl)|(exact Or.inl trivial)|(exact okL_map _ (fun _=>rfl) _)|(simp only[VVlen]<;>omega)|fail) only[VV0,VV1,VV2,VV3,VV4,VV5,VV6,VV7,VV8,VV9,mkFnV,vargs,slotsL,opdsA,Nat.reduceEqDiff,Nat.reduceLT,Nat.reduceAdd,Nat.reduceBEq,Int.reduceAdd,Int.reduceSub,Int.reduceLT,Int.reduceLE,Int.reduceEq,Int.reduceNeg,↓reduceIte,reduceCtorEq,scL,scD,expand,List.replicate,c28])|(refine gC_drawW ?_)|(refine gI_dec (fun _=>?_) (fun _=>?_))|(refine gG_dec (fun _=>?_) (fun _=>?_))|(refine gPG_dec (fun _=>?_) (fun _=>?_))|(refine gI_var (fun _=>?_) (fun _=>?_))|(refine gG_var (fun _=>?_) (fun _=>?_))|(refine gPG_var (fun _=>?_) (fun _=>?_)))
 refine g_while (fun m fr st=>∃ k:Nat,m=R.length - k∧k≤R.length∧(∀ j,j<k→okW R[j]!)∧fr= [(0,.sl s R.length (runC R)),(9,.sl s R.length (runC R)),(10,.sc (.int .i64 R.length)),(11,.sc (.int .i64 k))]∧st=⟨[],0,0⟩) R.length ?_ ⟨_,_,.refl _ _,0,?_⟩ ?_
 ·rw[hC,callP_rounds];unfold many;omega
 ·exact ⟨by omega,by omega,(fun j hj=>absurd hj (Nat.not_lt_zero _)),rfl,rfl⟩
 ·rintro m fr st ⟨k,rfl,hk,hok,rfl,rfl⟩
  by_cases hlt:k<R.length
  ·have hag:=runC_agg R k hlt
   by_cases hw:okW R[k]!
   ·have hnx:∀ j,j<k+1→okW R[j]! :=fun j hj=>by
     rcases Nat.lt_succ_iff_lt_or_eq.1 hj with h|h
     ·exact hok j h
     ·subst h;exact hw
    generalize R[k]! =p at hag hw
    obtain ⟨N,c⟩:=p
    obtain ⟨w1,w2,w3⟩:=okW_iff.1 hw
    repeat' (first|(simp (disch:=first|omega|assumption|(refine @id ((_:Bool)=_) ?_;exact id (by with_unfolding_all rfl))|(exact Or.inl rfl)|(exact Or.inl trivial)|(exact okL_map _ (fun _=>rfl) _)|(simp only[VVlen]<;>omega)|fail) only[VV0,VV1,VV2,VV3,VV4,VV5,VV6,VV7,VV8,VV9,mkFnV,vargs,slotsL,opdsA,Nat.reduceEqDiff,Nat.reduceLT,Nat.reduceAdd,Nat.reduceBEq,Int.reduceAdd,Int.reduceSub,Int.reduceLT,Int.reduceLE,Int.reduceEq,Int.reduceNeg,↓reduceIte,reduceCtorEq,scL,scD,expand,List.replicate,c28l1,hag])|(refine gC_drawW ?_)|(refine gI_dec (fun _=>?_) (fun _=>?_))|(refine gG_dec (fun _=>?_) (fun _=>?_))|(refine gPG_dec (fun _=>?_) (fun _=>?_))|(refine gI_var (fun _=>?_) (fun _=>?_))|(refine gG_var (fun _=>?_) (fun _=>?_))|(refine gPG_var (fun _=>?_) (fun _=>?_)))
    all_goals try (exfalso;omega)
    refine callV_flat ((colour_p w (n+2) c).of hC rfl _ rfl) ?_
    rw[w3]
    repeat' (first|(simp (disch:=first|omega|assumption|(refine @id ((_:Bool)=_) ?_;exact id (by with_unfolding_all rfl))|(exact Or.inl rfl)|(exact Or.inl trivial)|(exact okL_map _ (fun _=>rfl) _)|(simp only[VVlen]<;>omega)|fail) only[VV0,VV1,VV2,VV3,VV4,VV5,VV6,VV7,VV8,VV9,mkFnV,vargs,slotsL,opdsA,Nat.reduceEqDiff,Nat.reduceLT,Nat.reduceAdd,Nat.reduceBEq,Int.reduceAdd,Int.reduceSub,Int.reduceLT,Int.reduceLE,Int.reduceEq,Int.reduceNeg,↓reduceIte,reduceCtorEq,scL,scD,expand,List.replicate])|(refine gC_drawW ?_)|(refine gI_dec (fun _=>?_) (fun _=>?_))|(refine gG_dec (fun _=>?_) (fun _=>?_))|(refine gPG_dec (fun _=>?_) (fun _=>?_))|(refine gI_var (fun _=>?_) (fun _=>?_))|(refine gG_var (fun _=>?_) (fun _=>?_))|(refine gPG_var (fun _=>?_) (fun _=>?_)))
    exact ⟨_,_,_,by omega,weak_to [] 0 hn rfl rfl rfl rfl,k+1,rfl,hlt,hnx,rfl,rfl⟩
   ·have e:expF R=([],8):=if_neg fun h=>hw (h _ (by rw[getElem!_pos R k hlt];exact List.getElem_mem hlt))
    rw[e]
    generalize R[k]! =p at hag hw
    obtain ⟨N,c⟩:=p
    by_cases w1:N<1
    ·repeat' (first|(simp (disch:=first|omega|assumption|(refine @id ((_:Bool)=_) ?_;exact id (by with_unfolding_all rfl))|(exact Or.inl rfl)|(exact Or.inl trivial)|(exact okL_map _ (fun _=>rfl) _)|(simp only[VVlen]<;>omega)|fail) only[VV0,VV1,VV2,VV3,VV4,VV5,VV6,VV7,VV8,VV9,mkFnV,vargs,slotsL,opdsA,Nat.reduceEqDiff,Nat.reduceLT,Nat.reduceAdd,Nat.reduceBEq,Int.reduceAdd,Int.reduceSub,Int.reduceLT,Int.reduceLE,Int.reduceEq,Int.reduceNeg,↓reduceIte,reduceCtorEq,scL,scD,expand,List.replicate,c28l1,hag])|(refine gC_drawW ?_)|(refine gI_dec (fun _=>?_) (fun _=>?_))|(refine gG_dec (fun _=>?_) (fun _=>?_))|(refine gPG_dec (fun _=>?_) (fun _=>?_))|(refine gI_var (fun _=>?_) (fun _=>?_))|(refine gG_var (fun _=>?_) (fun _=>?_))|(refine gPG_var (fun _=>?_) (fun _=>?_)))
     all_goals try (exfalso;omega)
     exact weak_finNil hn rfl
    by_cases w2:4000<N
    ·repeat' (first|(simp (disch:=first|omega|assumption|(refine @id ((_:Bool)=_) ?_;exact id (by with_unfolding_all rfl))|(exact Or.inl rfl)|(exact Or.inl trivial)|(exact okL_map _ (fun _=>rfl) _)|(simp only[VVlen]<;>omega)|fail) only[VV0,VV1,VV2,VV3,VV4,VV5,VV6,VV7,VV8,VV9,mkFnV,vargs,slotsL,opdsA,Nat.reduceEqDiff,Nat.reduceLT,Nat.reduceAdd,Nat.reduceBEq,Int.reduceAdd,Int.reduceSub,Int.reduceLT,Int.reduceLE,Int.reduceEq,Int.reduceNeg,↓reduceIte,reduceCtorEq,scL,scD,expand,List.replicate,c28l1,hag])|(refine gC_drawW ?_)|(refine gI_dec (fun _=>?_) (fun _=>?_))|(refine gG_dec (fun _=>?_) (fun _=>?_))|(refine gPG_dec (fun _=>?_) (fun _=>?_))|(refine gI_var (fun _=>?_) (fun _=>?_))|(refine gG_var (fun _=>?_) (fun _=>?_))|(refine gPG_var (fun _=>?_) (fun _=>?_)))
     all_goals try (exfalso;omega)
     exact weak_finNil hn rfl
    have w3:col c=false:=by
     cases h:col c
     ·rfl
     ·exact absurd (okW_iff.2 ⟨w1,w2,h⟩) hw
    repeat' (first|(simp (disch:=first|omega|assumption|(refine @id ((_:Bool)=_) ?_;exact id (by with_unfolding_all rfl))|(exact Or.inl rfl)|(exact Or.inl trivial)|(exact okL_map _ (fun _=>rfl) _)|(simp only[VVlen]<;>omega)|fail) only[VV0,VV1,VV2,VV3,VV4,VV5,VV6,VV7,VV8,VV9,mkFnV,vargs,slotsL,opdsA,Nat.reduceEqDiff,Nat.reduceLT,Nat.reduceAdd,Nat.reduceBEq,Int.reduceAdd,Int.reduceSub,Int.reduceLT,Int.reduceLE,Int.reduceEq,Int.reduceNeg,↓reduceIte,reduceCtorEq,scL,scD,expand,List.replicate,c28l1,hag])|(refine gC_drawW ?_)|(refine gI_dec (fun _=>?_) (fun _=>?_))|(refine gG_dec (fun _=>?_) (fun _=>?_))|(refine gPG_dec (fun _=>?_) (fun _=>?_))|(refine gI_var (fun _=>?_) (fun _=>?_))|(refine gG_var (fun _=>?_) (fun _=>?_))|(refine gPG_var (fun _=>?_) (fun _=>?_)))
    all_goals try (exfalso;omega)
    refine callV_flat ((colour_p w (n+2) c).of hC rfl _ rfl) ?_
    rw[w3]
    repeat' (first|(simp (disch:=first|omega|assumption|(refine @id ((_:Bool)=_) ?_;exact id (by with_unfolding_all rfl))|(exact Or.inl rfl)|(exact Or.inl trivial)|(exact okL_map _ (fun _=>rfl) _)|(simp only[VVlen]<;>omega)|fail) only[VV0,VV1,VV2,VV3,VV4,VV5,VV6,VV7,VV8,VV9,mkFnV,vargs,slotsL,opdsA,Nat.reduceEqDiff,Nat.reduceLT,Nat.reduceAdd,Nat.reduceBEq,Int.reduceAdd,Int.reduceSub,Int.reduceLT,Int.reduceLE,Int.reduceEq,Int.reduceNeg,↓reduceIte,reduceCtorEq,scL,scD,expand,List.replicate])|(refine gC_drawW ?_)|(refine gI_dec (fun _=>?_) (fun _=>?_))|(refine gG_dec (fun _=>?_) (fun _=>?_))|(refine gPG_dec (fun _=>?_) (fun _=>?_))|(refine gI_var (fun _=>?_) (fun _=>?_))|(refine gG_var (fun _=>?_) (fun _=>?_))|(refine gPG_var (fun _=>?_) (fun _=>?_)))
    exact weak_finNil hn rfl
  have:k=R.length:=by omega
  subst this
  have hall:∀ p ∈ R,okW p:=fun p hp=>by
   obtain ⟨i,hi,rfl⟩:=List.getElem_of_mem hp
   have:=hok i hi
   rw[getElem!_pos R i hi] at this
   exact this
  have e:expF R=if sumR R≤4000 then (expL R,0) else ([],4):=if_pos hall
  have htk:∀ k,0≤sumR (R.take k)∧((expL (R.take k)).length:Int)=sumR (R.take k):=fun k=>sumR_nn fun p hp=>hall p (List.mem_of_mem_take hp)
  rw[e]
  repeat' (first|(simp (disch:=first|omega|assumption|(refine @id ((_:Bool)=_) ?_;exact id (by with_unfolding_all rfl))|(exact Or.inl rfl)|(exact Or.inl trivial)|(exact okL_map _ (fun _=>rfl) _)|(simp only[VVlen]<;>omega)|fail) only[VV0,VV1,VV2,VV3,VV4,VV5,VV6,VV7,VV8,VV9,mkFnV,vargs,slotsL,opdsA,Nat.reduceEqDiff,Nat.reduceLT,Nat.reduceAdd,Nat.reduceBEq,Int.reduceAdd,Int.reduceSub,Int.reduceLT,Int.reduceLE,Int.reduceEq,Int.reduceNeg,↓reduceIte,reduceCtorEq,scL,scD,expand,List.replicate,c28l1])|(refine gC_drawW ?_)|(refine gI_dec (fun _=>?_) (fun _=>?_))|(refine gG_dec (fun _=>?_) (fun _=>?_))|(refine gPG_dec (fun _=>?_) (fun _=>?_))|(refine gI_var (fun _=>?_) (fun _=>?_))|(refine gG_var (fun _=>?_) (fun _=>?_))|(refine gPG_var (fun _=>?_) (fun _=>?_)))
  all_goals try (exfalso;omega)
  refine g_while (fun m fr st=>∃ k:Nat,m=R.length - k∧k≤R.length∧sumR (R.take k)≤4000∧fr= [(6,.gr 2 0 (expL (R.take k)).length),(30,.sl s R.length (runC R)),(31,.sc (.int .i64 R.length)),(32,.sc (.int .i64 k))]∧st=⟨[(0,.gro 3 1 false ((expL (R.take k)).map iD))],1,0⟩) R.length ?_ ⟨_,_,weak_nilSlot 6 3 1 rfl,0,?_⟩ ?_
  ·rw[hC,callP_rounds];unfold many;omega
  ·refine ⟨by omega,by omega,by simp[sumR],?_,?_⟩
   ·simp[expL,aput,Nat.beq,Nat.blt]
   ·simp[expL]
  ·rintro m fr st ⟨k,rfl,hk,hs4,rfl,rfl⟩
   by_cases hlt:k<R.length
   ·have hag:=runC_agg R k hlt
    have hw:=hall R[k]! (by rw[getElem!_pos R k hlt];exact List.getElem_mem hlt)
    have hst:=sumR_take R k hlt
    have hex:=expL_take R k hlt
    obtain ⟨t1,t2⟩:=htk k
    have hmo:=sumR_mono hall (k+1)
    generalize R[k]! =p at hag hw hst hex
    obtain ⟨N,c⟩:=p
    obtain ⟨w1,w2,w3⟩:=okW_iff.1 hw
    obtain ⟨q,rfl⟩:=Int.eq_ofNat_of_zero_le (show 0≤N by omega)
    simp only at hst hex
    by_cases hov:4000<sumR (R.take (k+1))
    ·have hno:¬ sumR R≤4000:=by omega
     rw[if_neg hno]
     repeat' (first|(simp (disch:=first|omega|assumption|(refine @id ((_:Bool)=_) ?_;exact id (by with_unfolding_all rfl))|(exact Or.inl rfl)|(exact Or.inl trivial)|(exact okL_map _ (fun _=>rfl) _)|(simp only[VVlen]<;>omega)|fail) only[VV0,VV1,VV2,VV3,VV4,VV5,VV6,VV7,VV8,VV9,mkFnV,vargs,slotsL,opdsA,Nat.reduceEqDiff,Nat.reduceLT,Nat.reduceAdd,Nat.reduceBEq,Int.reduceAdd,Int.reduceSub,Int.reduceLT,Int.reduceLE,Int.reduceEq,Int.reduceNeg,↓reduceIte,reduceCtorEq,scL,scD,expand,List.replicate,c28l0,hag])|(refine gC_drawW ?_)|(refine gI_dec (fun _=>?_) (fun _=>?_))|(refine gG_dec (fun _=>?_) (fun _=>?_))|(refine gPG_dec (fun _=>?_) (fun _=>?_))|(refine gI_var (fun _=>?_) (fun _=>?_))|(refine gG_var (fun _=>?_) (fun _=>?_))|(refine gPG_var (fun _=>?_) (fun _=>?_)))
     all_goals try (exfalso;omega)
     exact weak_finNil hn rfl
    ·have hrp:=repeat_p w n 0 [c] q (by simp) (by simp) (by omega) (by simp;omega)
     rw[List.length_singleton,Nat.one_mul,rep_stTo] at hrp
     repeat' (first|(simp (disch:=first|omega|assumption|(refine @id ((_:Bool)=_) ?_;exact id (by with_unfolding_all rfl))|(exact Or.inl rfl)|(exact Or.inl trivial)|(exact okL_map _ (fun _=>rfl) _)|(simp only[VVlen]<;>omega)|fail) only[VV0,VV1,VV2,VV3,VV4,VV5,VV6,VV7,VV8,VV9,mkFnV,vargs,slotsL,opdsA,Nat.reduceEqDiff,Nat.reduceLT,Nat.reduceAdd,Nat.reduceBEq,Int.reduceAdd,Int.reduceSub,Int.reduceLT,Int.reduceLE,Int.reduceEq,Int.reduceNeg,↓reduceIte,reduceCtorEq,scL,scD,expand,List.replicate,c28l0,hag])|(refine gC_drawW ?_)|(refine gI_dec (fun _=>?_) (fun _=>?_))|(refine gG_dec (fun _=>?_) (fun _=>?_))|(refine gPG_dec (fun _=>?_) (fun _=>?_))|(refine gI_var (fun _=>?_) (fun _=>?_))|(refine gG_var (fun _=>?_) (fun _=>?_))|(refine gPG_var (fun _=>?_) (fun _=>?_)))
     all_goals try (exfalso;omega)
     refine callV_of (by rw[hC];exact hrp) rfl rfl rfl ?_
     have hrl:((List.replicate q c).map iD).length=q*1:=by simp
     have hxl:((expL (R.take k)).map iD).length=(expL (R.take k)).length*1:=by simp
     have hro:okL ((List.replicate q c).map iD)=true:=okL_map _ (fun _=>rfl) _
     have hq1:(1:Int)≤q:=by omega
     repeat' (first|(simp (disch:=first|omega|assumption|(refine @id ((_:Bool)=_) ?_;exact id (by with_unfolding_all rfl))|(exact Or.inl rfl)|(exact Or.inl trivial)|(exact okL_map _ (fun _=>rfl) _)|(simp only[VVlen]<;>omega)|fail) only[VV0,VV1,VV2,VV3,VV4,VV5,VV6,VV7,VV8,VV9,mkFnV,vargs,slotsL,opdsA,Nat.reduceEqDiff,Nat.reduceLT,Nat.reduceAdd,Nat.reduceBEq,Int.reduceAdd,Int.reduceSub,Int.reduceLT,Int.reduceLE,Int.reduceEq,Int.reduceNeg,↓reduceIte,reduceCtorEq,scL,scD,expand,List.replicate,vsh,vshL,shH,shO,fzSL,fzS,hrl,hro])|(refine gC_drawW ?_)|(refine gI_dec (fun _=>?_) (fun _=>?_))|(refine gG_dec (fun _=>?_) (fun _=>?_))|(refine gPG_dec (fun _=>?_) (fun _=>?_))|(refine gI_var (fun _=>?_) (fun _=>?_))|(refine gG_var (fun _=>?_) (fun _=>?_))|(refine gPG_var (fun _=>?_) (fun _=>?_)))
     rw[Int.toNat_natCast] at hex
     refine ⟨_,_,_,by omega,weak_to [(4,0)] 1 hn rfl rfl rfl rfl,k+1,rfl,hlt,by omega,?_,?_⟩
     ·rw[hex];simp[renF,vren,vrenL,aget_cons]
     ·rw[hex];simp[renH,aget_cons,renO]
   ·have:k=R.length:=by omega
    subst this
    rw[List.take_length] at hs4 ⊢
    rw[if_pos hs4]
    repeat' (first|(simp (disch:=first|omega|assumption|(refine @id ((_:Bool)=_) ?_;exact id (by with_unfolding_all rfl))|(exact Or.inl rfl)|(exact Or.inl trivial)|(exact okL_map _ (fun _=>rfl) _)|(simp only[VVlen]<;>omega)|fail) only[VV0,VV1,VV2,VV3,VV4,VV5,VV6,VV7,VV8,VV9,mkFnV,vargs,slotsL,opdsA,Nat.reduceEqDiff,Nat.reduceLT,Nat.reduceAdd,Nat.reduceBEq,Int.reduceAdd,Int.reduceSub,Int.reduceLT,Int.reduceLE,Int.reduceEq,Int.reduceNeg,↓reduceIte,reduceCtorEq,scL,scD,expand,List.replicate,c28l0])|(refine gC_drawW ?_)|(refine gI_dec (fun _=>?_) (fun _=>?_))|(refine gG_dec (fun _=>?_) (fun _=>?_))|(refine gPG_dec (fun _=>?_) (fun _=>?_))|(refine gI_var (fun _=>?_) (fun _=>?_))|(refine gG_var (fun _=>?_) (fun _=>?_))|(refine gPG_var (fun _=>?_) (fun _=>?_)))
    all_goals try (exfalso;omega)
    exact weak_fin (snap_ints rfl) rfl (.inl (by decide)) hn rfl
theorem rexpand_p (s:Nat) (R:List (Int × Int)) (hl:R.length≤1000000):VSpec (EN w (n+1)) 29 [.sl s R.length (runC R)] (sl2 (expF R)) ⟨[],0,0⟩:=by
 refine vspec_g rfl rfl (fun _ _=>rfl) (Nat.le_of_ble_eq_true rfl) (oldVals w) retOK_fin rfl fun C hC hn=>?_
 have hcl:=runC_len R
 repeat' (first|(simp (disch:=first|omega|assumption|(refine @id ((_:Bool)=_) ?_;exact id (by with_unfolding_all rfl))|(exact Or.inl rfl)|(exact Or.inl trivial)|(exact okL_map _ (fun _=>rfl) _)|(simp only[VVlen]<;>omega)|fail) only[VV0,VV1,VV2,VV3,VV4,VV5,VV6,VV7,VV8,VV9,mkFnV,vargs,slotsL,opdsA,Nat.reduceEqDiff,Nat.reduceLT,Nat.reduceAdd,Nat.reduceBEq,Int.reduceAdd,Int.reduceSub,Int.reduceLT,Int.reduceLE,Int.reduceEq,Int.reduceNeg,↓reduceIte,reduceCtorEq,scL,scD,expand,List.replicate,c29])|(refine gC_drawW ?_)|(refine gI_dec (fun _=>?_) (fun _=>?_))|(refine gG_dec (fun _=>?_) (fun _=>?_))|(refine gPG_dec (fun _=>?_) (fun _=>?_))|(refine gI_var (fun _=>?_) (fun _=>?_))|(refine gG_var (fun _=>?_) (fun _=>?_))|(refine gPG_var (fun _=>?_) (fun _=>?_)))
 refine g_while (fun m fr st=>∃ k:Nat,m=R.length - k∧k≤R.length∧(∀ j,j<k→okW R[j]!)∧fr= [(0,.sl s R.length (runC R)),(4,.sc (.int .i64 (min (sumR (R.take k)) 4001))),(5,.sc (.int .i64 k))]∧st=⟨[],0,0⟩) R.length ?_ ⟨_,_,.refl _ _,0,?_⟩ ?_
 ·rw[hC,callP_rounds];unfold many;omega
 ·exact ⟨by omega,by omega,(fun j hj=>absurd hj (Nat.not_lt_zero _)),by rw[show min (sumR (R.take 0)) 4001=0 by rw[List.take_zero];rfl];rfl,rfl⟩
 ·rintro m fr st ⟨k,rfl,hk,hok,rfl,rfl⟩
  by_cases hlt:k<R.length
  ·have f0:=runC_f0 R k hlt
   have f1:=runC_f1 R k hlt
   have hst:=sumR_take R k hlt
   by_cases hw:okW R[k]!
   ·have hnx:∀ j,j<k+1→okW R[j]! :=fun j hj=>by
     rcases Nat.lt_succ_iff_lt_or_eq.1 hj with h|h
     ·exact hok j h
     ·subst h;exact hw
    have ht0:0≤sumR (R.take k):=(sumR_nn (R:=R.take k) fun p hp=>by
     obtain ⟨i,hi,rfl⟩:=List.getElem_of_mem hp
     have h2:i<k:=by simp at hi;omega
     have:=hok i h2
     rw[getElem!_pos R i (by omega)] at this
     simpa using this).1
    generalize R[k]! =p at f0 f1 hw hst
    obtain ⟨N,c⟩:=p
    obtain ⟨⟨w1,w2⟩,w3,w4⟩:=hw
    simp only at w1 w2 w3 w4 f0 f1 hst
    have hmin:min (min (sumR (R.take k)) 4001+N) 4001=min (sumR (R.take (k+1))) 4001:=by omega
    have hb:min (sumR (R.take k)) 4001≤4001∧0≤min (sumR (R.take k)) 4001:=by omega
    generalize min (sumR (R.take k)) 4001=T at hmin hb
    repeat' (first|(simp (disch:=first|omega|assumption|(refine @id ((_:Bool)=_) ?_;exact id (by with_unfolding_all rfl))|(exact Or.inl rfl)|(exact Or.inl trivial)|(exact okL_map _ (fun _=>rfl) _)|(simp only[VVlen]<;>omega)|fail) only[VV0,VV1,VV2,VV3,VV4,VV5,VV6,VV7,VV8,VV9,mkFnV,vargs,slotsL,opdsA,Nat.reduceEqDiff,Nat.reduceLT,Nat.reduceAdd,Nat.reduceBEq,Int.reduceAdd,Int.reduceSub,Int.reduceLT,Int.reduceLE,Int.reduceEq,Int.reduceNeg,↓reduceIte,reduceCtorEq,scL,scD,expand,List.replicate,c29l2,f0,f1])|(refine gC_drawW ?_)|(refine gI_dec (fun _=>?_) (fun _=>?_))|(refine gG_dec (fun _=>?_) (fun _=>?_))|(refine gPG_dec (fun _=>?_) (fun _=>?_))|(refine gI_var (fun _=>?_) (fun _=>?_))|(refine gG_var (fun _=>?_) (fun _=>?_))|(refine gPG_var (fun _=>?_) (fun _=>?_)))
    all_goals try (exfalso;omega)
    refine ⟨_,_,_,by omega,.refl _ _,k+1,rfl,hlt,hnx,?_,rfl⟩
    rw[← hmin]
    simp
   ·have e:expF R=([],8):=if_neg fun h=>hw (h _ (by rw[getElem!_pos R k hlt];exact List.getElem_mem hlt))
    rw[e]
    generalize R[k]! =p at f0 f1 hw
    obtain ⟨N,c⟩:=p
    unfold okW at hw
    simp only at hw f0 f1
    repeat' (first|(simp (disch:=first|omega|assumption|(refine @id ((_:Bool)=_) ?_;exact id (by with_unfolding_all rfl))|(exact Or.inl rfl)|(exact Or.inl trivial)|(exact okL_map _ (fun _=>rfl) _)|(simp only[VVlen]<;>omega)|fail) only[VV0,VV1,VV2,VV3,VV4,VV5,VV6,VV7,VV8,VV9,mkFnV,vargs,slotsL,opdsA,Nat.reduceEqDiff,Nat.reduceLT,Nat.reduceAdd,Nat.reduceBEq,Int.reduceAdd,Int.reduceSub,Int.reduceLT,Int.reduceLE,Int.reduceEq,Int.reduceNeg,↓reduceIte,reduceCtorEq,scL,scD,expand,List.replicate,c29l2,f0,f1])|(refine gC_drawW ?_)|(refine gI_dec (fun _=>?_) (fun _=>?_))|(refine gG_dec (fun _=>?_) (fun _=>?_))|(refine gPG_dec (fun _=>?_) (fun _=>?_))|(refine gI_var (fun _=>?_) (fun _=>?_))|(refine gG_var (fun _=>?_) (fun _=>?_))|(refine gPG_var (fun _=>?_) (fun _=>?_)))
    all_goals try (exfalso;omega)
    all_goals exact weak_finNil hn rfl
  have:k=R.length:=by omega
  subst this
  have hall:∀ p ∈ R,okW p:=fun p hp=>by
   obtain ⟨i,hi,rfl⟩:=List.getElem_of_mem hp
   have:=hok i hi
   rw[getElem!_pos R i hi] at this
   exact this
  have e:expF R=if sumR R≤4000 then (expL R,0) else ([],4):=if_pos hall
  rw[e]
  by_cases hs4:sumR R≤4000
  case neg=>
   rw[if_neg hs4]
   rw[List.take_length]
   have hm:min (sumR R) 4001=4001:=by omega
   rw[hm]
   repeat' (first|(simp (disch:=first|omega|assumption|(refine @id ((_:Bool)=_) ?_;exact id (by with_unfolding_all rfl))|(exact Or.inl rfl)|(exact Or.inl trivial)|(exact okL_map _ (fun _=>rfl) _)|(simp only[VVlen]<;>omega)|fail) only[VV0,VV1,VV2,VV3,VV4,VV5,VV6,VV7,VV8,VV9,mkFnV,vargs,slotsL,opdsA,Nat.reduceEqDiff,Nat.reduceLT,Nat.reduceAdd,Nat.reduceBEq,Int.reduceAdd,Int.reduceSub,Int.reduceLT,Int.reduceLE,Int.reduceEq,Int.reduceNeg,↓reduceIte,reduceCtorEq,scL,scD,expand,List.replicate,c29l2])|(refine gC_drawW ?_)|(refine gI_dec (fun _=>?_) (fun _=>?_))|(refine gG_dec (fun _=>?_) (fun _=>?_))|(refine gPG_dec (fun _=>?_) (fun _=>?_))|(refine gI_var (fun _=>?_) (fun _=>?_))|(refine gG_var (fun _=>?_) (fun _=>?_))|(refine gPG_var (fun _=>?_) (fun _=>?_)))
   all_goals try (exfalso;omega)
   exact weak_finNil hn rfl
  rw[if_pos hs4,List.take_length]
  have hm:min (sumR R) 4001=sumR R:=by omega
  have htk:∀ k,0≤sumR (R.take k)∧((expL (R.take k)).length:Int)=sumR (R.take k):=fun k=>sumR_nn fun p hp=>hall p (List.mem_of_mem_take hp)
  rw[hm]
  have h0s:0≤sumR R:=by have:=(htk R.length).1;rw[List.take_length] at this;exact this
  repeat' (first|(simp (disch:=first|omega|assumption|(refine @id ((_:Bool)=_) ?_;exact id (by with_unfolding_all rfl))|(exact Or.inl rfl)|(exact Or.inl trivial)|(exact okL_map _ (fun _=>rfl) _)|(simp only[VVlen]<;>omega)|fail) only[VV0,VV1,VV2,VV3,VV4,VV5,VV6,VV7,VV8,VV9,mkFnV,vargs,slotsL,opdsA,Nat.reduceEqDiff,Nat.reduceLT,Nat.reduceAdd,Nat.reduceBEq,Int.reduceAdd,Int.reduceSub,Int.reduceLT,Int.reduceLE,Int.reduceEq,Int.reduceNeg,↓reduceIte,reduceCtorEq,scL,scD,expand,List.replicate,c29l2])|(refine gC_drawW ?_)|(refine gI_dec (fun _=>?_) (fun _=>?_))|(refine gG_dec (fun _=>?_) (fun _=>?_))|(refine gPG_dec (fun _=>?_) (fun _=>?_))|(refine gI_var (fun _=>?_) (fun _=>?_))|(refine gG_var (fun _=>?_) (fun _=>?_))|(refine gPG_var (fun _=>?_) (fun _=>?_)))
  all_goals try (exfalso;omega)
  refine g_while (fun m fr st=>∃ k:Nat,m=R.length - k∧k≤R.length∧fr= [(0,.sl s R.length (runC R)),(6,.gr 2 0 (expL (R.take k)).length),(7,.sc (.int .i64 k))]∧st=⟨[(0,.gro 3 1 false ((expL (R.take k)).map iD))],1,0⟩) R.length ?_ ⟨_,_,weak_nilSlot 6 3 1 rfl,0,?_⟩ ?_
  ·rw[hC,callP_rounds];unfold many;omega
  ·refine ⟨by omega,by omega,?_,?_⟩
   ·simp[expL,aput,Nat.beq,Nat.blt]
   ·simp[expL]
  ·rintro m fr st ⟨k,rfl,hk,rfl,rfl⟩
   by_cases hlt:k<R.length
   ·have f0:=runC_f0 R k hlt
    have f1:=runC_f1 R k hlt
    have hw:=hall R[k]! (by rw[getElem!_pos R k hlt];exact List.getElem_mem hlt)
    have hst:=sumR_take R k hlt
    have hex:=expL_take R k hlt
    obtain ⟨t1,t2⟩:=htk k
    have hmo:=sumR_mono hall (k+1)
    generalize R[k]! =p at f0 f1 hw hst hex
    obtain ⟨N,c⟩:=p
    obtain ⟨⟨w1,w2⟩,w3,w4⟩:=hw
    simp only at w1 w2 w3 w4 f0 f1 hst hex
    obtain ⟨q,rfl⟩:=Int.eq_ofNat_of_zero_le (show 0≤N by omega)
    rw[Int.toNat_natCast] at hex
    repeat' (first|(simp (disch:=first|omega|assumption|(refine @id ((_:Bool)=_) ?_;exact id (by with_unfolding_all rfl))|(exact Or.inl rfl)|(exact Or.inl trivial)|(exact okL_map _ (fun _=>rfl) _)|(simp only[VVlen]<;>omega)|fail) only[VV0,VV1,VV2,VV3,VV4,VV5,VV6,VV7,VV8,VV9,mkFnV,vargs,slotsL,opdsA,Nat.reduceEqDiff,Nat.reduceLT,Nat.reduceAdd,Nat.reduceBEq,Int.reduceAdd,Int.reduceSub,Int.reduceLT,Int.reduceLE,Int.reduceEq,Int.reduceNeg,↓reduceIte,reduceCtorEq,scL,scD,expand,List.replicate,c29l1])|(refine gC_drawW ?_)|(refine gI_dec (fun _=>?_) (fun _=>?_))|(refine gG_dec (fun _=>?_) (fun _=>?_))|(refine gPG_dec (fun _=>?_) (fun _=>?_))|(refine gI_var (fun _=>?_) (fun _=>?_))|(refine gG_var (fun _=>?_) (fun _=>?_))|(refine gPG_var (fun _=>?_) (fun _=>?_)))
    all_goals try (exfalso;omega)
    refine g_while (fun m fr st=>∃ j:Nat,m=q - j∧j≤q∧fr= [(0,.sl s R.length (runC R)),(6,.gr 2 0 (expL (R.take k)++List.replicate j c).length),(7,.sc (.int .i64 k)),(8,.sc (.int .i64 j))]∧st=⟨[(0,.gro 3 1 false ((expL (R.take k)++List.replicate j c).map iD))],1,0⟩) q ?_ ⟨_,_,.refl _ _,0,?_⟩ ?_
    ·rw[hC,callP_rounds];unfold many;omega
    ·refine ⟨by omega,by omega,?_,?_⟩
     ·simp
     ·simp
    ·rintro m fr st ⟨j,rfl,hj,rfl,rfl⟩
     have hlen:(expL (R.take k)++List.replicate j c).length≤4000:=by
      rw[List.length_append,List.length_replicate];omega
     by_cases hjq:j<q
     ·have hrs:expL (R.take k)++List.replicate (j+1) c=(expL (R.take k)++List.replicate j c)++ [c]:=by rw[List.replicate_succ',List.append_assoc]
      generalize expL (R.take k)++List.replicate j c=X at hlen hrs
      repeat' (first|(simp (disch:=first|omega|assumption|(refine @id ((_:Bool)=_) ?_;exact id (by with_unfolding_all rfl))|(exact Or.inl rfl)|(exact Or.inl trivial)|(exact okL_map _ (fun _=>rfl) _)|(simp only[VVlen]<;>omega)|fail) only[VV0,VV1,VV2,VV3,VV4,VV5,VV6,VV7,VV8,VV9,mkFnV,vargs,slotsL,opdsA,Nat.reduceEqDiff,Nat.reduceLT,Nat.reduceAdd,Nat.reduceBEq,Int.reduceAdd,Int.reduceSub,Int.reduceLT,Int.reduceLE,Int.reduceEq,Int.reduceNeg,↓reduceIte,reduceCtorEq,scL,scD,expand,List.replicate,c29l0,f0,f1])|(refine gC_drawW ?_)|(refine gI_dec (fun _=>?_) (fun _=>?_))|(refine gG_dec (fun _=>?_) (fun _=>?_))|(refine gPG_dec (fun _=>?_) (fun _=>?_))|(refine gI_var (fun _=>?_) (fun _=>?_))|(refine gG_var (fun _=>?_) (fun _=>?_))|(refine gPG_var (fun _=>?_) (fun _=>?_)))
      all_goals try (exfalso;omega)
      refine ⟨_,_,_,by omega,weak_to [(2,0)] 1 hn rfl rfl rfl rfl,j+1,rfl,hjq,?_,?_⟩
      ·rw[hrs];simp[renF,vren,vrenL,aget_cons]
      ·rw[hrs];simp[renH,aget_cons,renO,iD]
     ·have:j=q:=by omega
      subst this
      rw[← hex]
      repeat' (first|(simp (disch:=first|omega|assumption|(refine @id ((_:Bool)=_) ?_;exact id (by with_unfolding_all rfl))|(exact Or.inl rfl)|(exact Or.inl trivial)|(exact okL_map _ (fun _=>rfl) _)|(simp only[VVlen]<;>omega)|fail) only[VV0,VV1,VV2,VV3,VV4,VV5,VV6,VV7,VV8,VV9,mkFnV,vargs,slotsL,opdsA,Nat.reduceEqDiff,Nat.reduceLT,Nat.reduceAdd,Nat.reduceBEq,Int.reduceAdd,Int.reduceSub,Int.reduceLT,Int.reduceLE,Int.reduceEq,Int.reduceNeg,↓reduceIte,reduceCtorEq,scL,scD,expand,List.replicate,c29l0,f0])|(refine gC_drawW ?_)|(refine gI_dec (fun _=>?_) (fun _=>?_))|(refine gG_dec (fun _=>?_) (fun _=>?_))|(refine gPG_dec (fun _=>?_) (fun _=>?_))|(refine gI_var (fun _=>?_) (fun _=>?_))|(refine gG_var (fun _=>?_) (fun _=>?_))|(refine gPG_var (fun _=>?_) (fun _=>?_)))
      all_goals try (exfalso;omega)
      exact ⟨_,_,_,by omega,.refl _ _,k+1,rfl,hlt,rfl,rfl⟩
   ·have:k=R.length:=by omega
    subst this
    rw[List.take_length]
    repeat' (first|(simp (disch:=first|omega|assumption|(refine @id ((_:Bool)=_) ?_;exact id (by with_unfolding_all rfl))|(exact Or.inl rfl)|(exact Or.inl trivial)|(exact okL_map _ (fun _=>rfl) _)|(simp only[VVlen]<;>omega)|fail) only[VV0,VV1,VV2,VV3,VV4,VV5,VV6,VV7,VV8,VV9,mkFnV,vargs,slotsL,opdsA,Nat.reduceEqDiff,Nat.reduceLT,Nat.reduceAdd,Nat.reduceBEq,Int.reduceAdd,Int.reduceSub,Int.reduceLT,Int.reduceLE,Int.reduceEq,Int.reduceNeg,↓reduceIte,reduceCtorEq,scL,scD,expand,List.replicate,c29l1])|(refine gC_drawW ?_)|(refine gI_dec (fun _=>?_) (fun _=>?_))|(refine gG_dec (fun _=>?_) (fun _=>?_))|(refine gPG_dec (fun _=>?_) (fun _=>?_))|(refine gI_var (fun _=>?_) (fun _=>?_))|(refine gG_var (fun _=>?_) (fun _=>?_))|(refine gPG_var (fun _=>?_) (fun _=>?_)))
    all_goals try (exfalso;omega)
    exact weak_fin (snap_ints rfl) rfl (.inl (by decide)) hn rfl
end
end Go.Proofs.YtgglaaldlegckaaDoor
namespace Go.Proofs.YtgglaaldlegckaaDoor
open Go Go.Itp
set_option maxRecDepth 100000
set_option maxHeartbeats 1000000
set_option linter.unusedSimpArgs false
set_option linter.unusedVariables false
theorem dig_val {b:UInt8} (h:isDig b=true):Lib.digitVal b=some (b.toNat - 48):=by
 simp only[isDig,Bool.and_eq_true,decide_eq_true_eq] at h
 unfold Lib.digitVal
 rw[if_pos h]
theorem numF_not {l:List UInt8} {k:Nat} (hk:k<l.length) (h:isDig l[k]! =false∨9≤k):numF l=(0,false):=by
 unfold numF
 rw[if_neg]
 rintro ⟨h1,h2⟩
 rcases h with h|h
 ·have:=List.all_eq_true.1 h1 l[k]! (by rw[getElem!_pos l k hk];exact List.getElem_mem hk)
  rw[h] at this
  cases this
 ·omega
section
variable (w:World) (n:Nat)
theorem number_p (l:List UInt8) (hl:l.length≤1000000):VSpec (EN w (n+2)) 50 [strV l] (.tup [.sc (.int .i64 (numF l).1),.sc (.bool (numF l).2)]) ⟨[],0,0⟩:=by
 refine vspec_flat rfl rfl (fun _ _=>rfl) (Nat.le_of_ble_eq_true rfl) (oldVals w) rfl fun C hC h0=>?_
 have hsz:=mk_size l
 repeat' (first|(simp (disch:=first|omega|assumption|(refine @id ((_:Bool)=_) ?_;exact id (by with_unfolding_all rfl))|(exact Or.inl rfl)|(exact Or.inl trivial)|(exact okL_map _ (fun _=>rfl) _)|(simp only[VVlen]<;>omega)|fail) only[VV0,VV1,VV2,VV3,VV4,VV5,VV6,VV7,VV8,VV9,mkFnV,vargs,slotsL,opdsA,Nat.reduceEqDiff,Nat.reduceLT,Nat.reduceAdd,Nat.reduceBEq,Int.reduceAdd,Int.reduceSub,Int.reduceLT,Int.reduceLE,Int.reduceEq,Int.reduceNeg,↓reduceIte,reduceCtorEq,scL,scD,expand,List.replicate,c50])|(refine gC_drawW ?_)|(refine gI_dec (fun _=>?_) (fun _=>?_))|(refine gG_dec (fun _=>?_) (fun _=>?_))|(refine gPG_dec (fun _=>?_) (fun _=>?_))|(refine gI_var (fun _=>?_) (fun _=>?_))|(refine gG_var (fun _=>?_) (fun _=>?_))|(refine gPG_var (fun _=>?_) (fun _=>?_)))
 refine g_while (fun m fr st=>∃ k u:Nat,m=l.length - k∧k≤l.length∧k≤9∧u<10 ^ k∧(∀ j,j<k→isDig l[j]! =true)∧Lib.decFrom 0 (l.take k)=some u∧fr= [(0,strV l),(4,.sc (.int .i64 u)),(5,.sc (.int .i64 k))]∧st=⟨[],0,0⟩) l.length ?_ ⟨_,_,.refl _ _,0,0,?_⟩ ?_
 ·rw[hC,callP_rounds];unfold many;omega
 ·exact ⟨by omega,by omega,by omega,by decide,(fun j hj=>absurd hj (Nat.not_lt_zero _)),rfl,rfl,rfl⟩
 ·rintro m fr st ⟨k,u,rfl,hk,hk9,hu,hd,hf,rfl,rfl⟩
  have hu9:u<1000000000:=Nat.lt_of_lt_of_le hu (by have:=Nat.pow_le_pow_right (show 1≤10 by omega) hk9;simpa using this)
  by_cases hlt:k<l.length
  ·have hb:=idxStr_l l .i64 k (by omega) (by omega)
   rw[Int.toNat_natCast] at hb
   by_cases hdg:isDig l[k]! =true∧k≤8
   ·have hdg1:=hdg.1
    have hv:=dig_val hdg.1
    have hstep:=Lib.decFrom_take l k 0 u l[k]! _ hf (by rw[List.getElem?_eq_getElem hlt,getElem!_pos l k hlt]) hv
    have hnx:∀ j,j<k+1→isDig l[j]! =true:=fun j hj=>by
     rcases Nat.lt_succ_iff_lt_or_eq.1 hj with h|h
     ·exact hd j h
     ·subst h;exact hdg.1
    simp only[isDig,Bool.and_eq_true,decide_eq_true_eq] at hdg1
    have hk8:=hdg.2
    generalize l[k]!.toNat=b at hb hstep hdg1
    have e1:IntKind.u8.wrap ((b:Int) - 48)=((b - 48:Nat):Int):=by rw[wrap_u8 _ (by omega) (by omega)];omega
    repeat' (first|(simp (disch:=first|omega|assumption|(refine @id ((_:Bool)=_) ?_;exact id (by with_unfolding_all rfl))|(exact Or.inl rfl)|(exact Or.inl trivial)|(exact okL_map _ (fun _=>rfl) _)|(simp only[VVlen]<;>omega)|fail) only[VV0,VV1,VV2,VV3,VV4,VV5,VV6,VV7,VV8,VV9,mkFnV,vargs,slotsL,opdsA,Nat.reduceEqDiff,Nat.reduceLT,Nat.reduceAdd,Nat.reduceBEq,Int.reduceAdd,Int.reduceSub,Int.reduceLT,Int.reduceLE,Int.reduceEq,Int.reduceNeg,↓reduceIte,reduceCtorEq,scL,scD,expand,List.replicate,c50l0,hb,e1])|(refine gC_drawW ?_)|(refine gI_dec (fun _=>?_) (fun _=>?_))|(refine gG_dec (fun _=>?_) (fun _=>?_))|(refine gPG_dec (fun _=>?_) (fun _=>?_))|(refine gI_var (fun _=>?_) (fun _=>?_))|(refine gG_var (fun _=>?_) (fun _=>?_))|(refine gPG_var (fun _=>?_) (fun _=>?_)))
    all_goals try (exfalso;omega)
    refine ⟨_,_,_,by omega,.refl _ _,k+1,u*10+(b - 48),rfl,hlt,by omega,?_,hnx,hstep,?_,rfl⟩
    ·rw[Nat.pow_succ];omega
    ·have:(10:Int)*u+((b - 48:Nat):Int)=((u*10+(b - 48):Nat):Int):=by omega
     rw[this];simp
   ·have e:numF l=(0,false):=numF_not hlt (by
     cases h:isDig l[k]!
     ·exact .inl rfl
     ·exact .inr (by have:¬ k≤8:=fun h8=>hdg ⟨h,h8⟩;omega))
    rw[e]
    simp only[isDig,Bool.and_eq_true,decide_eq_true_eq] at hdg
    generalize l[k]!.toNat=b at hb hdg
    repeat' (first|(simp (disch:=first|omega|assumption|(refine @id ((_:Bool)=_) ?_;exact id (by with_unfolding_all rfl))|(exact Or.inl rfl)|(exact Or.inl trivial)|(exact okL_map _ (fun _=>rfl) _)|(simp only[VVlen]<;>omega)|fail) only[VV0,VV1,VV2,VV3,VV4,VV5,VV6,VV7,VV8,VV9,mkFnV,vargs,slotsL,opdsA,Nat.reduceEqDiff,Nat.reduceLT,Nat.reduceAdd,Nat.reduceBEq,Int.reduceAdd,Int.reduceSub,Int.reduceLT,Int.reduceLE,Int.reduceEq,Int.reduceNeg,↓reduceIte,reduceCtorEq,scL,scD,expand,List.replicate,c50l0,hb])|(refine gC_drawW ?_)|(refine gI_dec (fun _=>?_) (fun _=>?_))|(refine gG_dec (fun _=>?_) (fun _=>?_))|(refine gPG_dec (fun _=>?_) (fun _=>?_))|(refine gI_var (fun _=>?_) (fun _=>?_))|(refine gG_var (fun _=>?_) (fun _=>?_))|(refine gPG_var (fun _=>?_) (fun _=>?_)))
    all_goals try (exfalso;omega)
    all_goals exact weak_flat rfl h0 rfl
  ·have:k=l.length:=by omega
   subst this
   rw[List.take_length] at hf
   have hall:l.all isDig=true:=List.all_eq_true.2 fun c hc=>by
    obtain ⟨i,hi,rfl⟩:=List.getElem_of_mem hc
    have:=hd i hi
    rw[getElem!_pos l i hi] at this
    exact this
   have e:numF l=((u:Int),decide (l ≠ []) && decide (Lib.decDigits u=l)):=by
    unfold numF
    rw[if_pos ⟨hall,hk9⟩,hf]
    rfl
   rw[e]
   by_cases hz:l= []
   ·subst hz
    have hh:(decide (([]:List UInt8) ≠ []) && decide (Lib.decDigits u= []))=false:=by simp
    rw[hh]
    have hsz0:(ByteArray.mk #[]).size=0:=rfl
    repeat' (first|(simp (disch:=first|omega|assumption|(refine @id ((_:Bool)=_) ?_;exact id (by with_unfolding_all rfl))|(exact Or.inl rfl)|(exact Or.inl trivial)|(exact okL_map _ (fun _=>rfl) _)|(simp only[VVlen]<;>omega)|fail) only[VV0,VV1,VV2,VV3,VV4,VV5,VV6,VV7,VV8,VV9,mkFnV,vargs,slotsL,opdsA,Nat.reduceEqDiff,Nat.reduceLT,Nat.reduceAdd,Nat.reduceBEq,Int.reduceAdd,Int.reduceSub,Int.reduceLT,Int.reduceLE,Int.reduceEq,Int.reduceNeg,↓reduceIte,reduceCtorEq,scL,scD,expand,List.replicate,c50l0])|(refine gC_drawW ?_)|(refine gI_dec (fun _=>?_) (fun _=>?_))|(refine gG_dec (fun _=>?_) (fun _=>?_))|(refine gPG_dec (fun _=>?_) (fun _=>?_))|(refine gI_var (fun _=>?_) (fun _=>?_))|(refine gG_var (fun _=>?_) (fun _=>?_))|(refine gPG_var (fun _=>?_) (fun _=>?_)))
    all_goals try (exfalso;omega)
    exact weak_flat rfl h0 rfl
   ·have hp:0<l.length:=List.length_pos_iff.2 hz
    have hh:(decide (l ≠ []) && decide (Lib.decDigits u=l))=decide (Lib.decDigits u=l):=by simp[hz]
    rw[hh]
    repeat' (first|(simp (disch:=first|omega|assumption|(refine @id ((_:Bool)=_) ?_;exact id (by with_unfolding_all rfl))|(exact Or.inl rfl)|(exact Or.inl trivial)|(exact okL_map _ (fun _=>rfl) _)|(simp only[VVlen]<;>omega)|fail) only[VV0,VV1,VV2,VV3,VV4,VV5,VV6,VV7,VV8,VV9,mkFnV,vargs,slotsL,opdsA,Nat.reduceEqDiff,Nat.reduceLT,Nat.reduceAdd,Nat.reduceBEq,Int.reduceAdd,Int.reduceSub,Int.reduceLT,Int.reduceLE,Int.reduceEq,Int.reduceNeg,↓reduceIte,reduceCtorEq,scL,scD,expand,List.replicate,c50l0])|(refine gC_drawW ?_)|(refine gI_dec (fun _=>?_) (fun _=>?_))|(refine gG_dec (fun _=>?_) (fun _=>?_))|(refine gPG_dec (fun _=>?_) (fun _=>?_))|(refine gI_var (fun _=>?_) (fun _=>?_))|(refine gG_var (fun _=>?_) (fun _=>?_))|(refine gPG_var (fun _=>?_) (fun _=>?_)))
    all_goals try (exfalso;omega)
    refine callV_flat ((decimal_p w n u (by omega)).of hC rfl _ rfl) ?_
    repeat' (first|(simp (disch:=first|omega|assumption|(refine @id ((_:Bool)=_) ?_;exact id (by with_unfolding_all rfl))|(exact Or.inl rfl)|(exact Or.inl trivial)|(exact okL_map _ (fun _=>rfl) _)|(simp only[VVlen]<;>omega)|fail) only[VV0,VV1,VV2,VV3,VV4,VV5,VV6,VV7,VV8,VV9,mkFnV,vargs,slotsL,opdsA,Nat.reduceEqDiff,Nat.reduceLT,Nat.reduceAdd,Nat.reduceBEq,Int.reduceAdd,Int.reduceSub,Int.reduceLT,Int.reduceLE,Int.reduceEq,Int.reduceNeg,↓reduceIte,reduceCtorEq,scL,scD,expand,List.replicate,mk_inj])|(refine gC_drawW ?_)|(refine gI_dec (fun _=>?_) (fun _=>?_))|(refine gG_dec (fun _=>?_) (fun _=>?_))|(refine gPG_dec (fun _=>?_) (fun _=>?_))|(refine gI_var (fun _=>?_) (fun _=>?_))|(refine gG_var (fun _=>?_) (fun _=>?_))|(refine gPG_var (fun _=>?_) (fun _=>?_)))
    exact weak_flat rfl h0 rfl
end
end Go.Proofs.YtgglaaldlegckaaDoor
