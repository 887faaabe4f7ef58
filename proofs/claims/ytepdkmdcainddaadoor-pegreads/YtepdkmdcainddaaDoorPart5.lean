/- Part of the proof of Rows.PegReadsCardSaid: for every input the law returns true, with no condition.
   Texts: C18VA, S18D, H18V, VT, VT2, VT3, VT4, VT5, VT6, W18p, W18a, W18b, W18c, W18d, W18e, W18f, W18g, W18i, W18j, W18k, W18l, W18m, W18n, W18o.
-/
import Derived.Test.YtepdkmdcainddaaDoorPart4
import Derived.Test.YtepdkmdcainddaaDoorProg
import Derived.Shelf.Strings.Builder1
import Derived.Shelf.Strings.Builder2
import Derived.Shelf.Strings.OnBuilder
import Derived.Shelf.Strconv.Atoi
import Derived.Shelf.Strconv.Itoa0
import Derived.Shelf.Strconv.Itoa1
import Derived.Shelf.LaysM
import Derived.Shelf.Strconv.Itoa2
import Derived.Shelf.Strconv.Itoa3
import Derived.Shelf.Strconv.AtoiErrFast
import Derived.Shelf.Strconv.ParseIntEmpty
import Derived.Shelf.Strconv.AtoiFail
import Derived.Shelf.Strconv.Clone
import Derived.Shelf.Strconv.SyntaxError
import Derived.Shelf.LaysC
import Derived.Shelf.Strconv.ToError
import Derived.Shelf.Strconv.Lower
import Derived.Shelf.Strconv.ParseUint10
import Derived.Shelf.Strconv.ParseUint10Empty
import Derived.Shelf.Strconv.ParseUint10Any
import Derived.Shelf.Strconv.ParseInt10
import Derived.Shelf.Strconv.AtoiLong
import Derived.Shelf.Strconv.AtoiInnerAll
import Derived.Shelf.Strconv.RangeError
import Derived.Shelf.Strconv.ToErrorRange
import Derived.Shelf.Strconv.AtoiAll
import Derived.Shelf.Strconv.ErrVarAll
import Derived.Shelf.Strings.Search1
import Derived.Shelf.Strings.Search2
import Derived.Shelf.Strings.Search3
import Derived.Shelf.Strings.Count
import Derived.Shelf.Strings.Shaped
import Derived.Shelf.Unicode.DecodeSlow
import Derived.KernelRfl
import Derived.Lib.ItoaLen
import Derived.Lib.Join
import Derived.Lib.AtoiAllCases
import Derived.Lib.Bytealg
namespace Go.Proofs.YtepdkmdcainddaaDoor
open Go Go.Itp
set_option maxRecDepth 100000
/- raddle/raddlelaw18.PegReads -/
def c6:AFun:=⟨
 .seq (.ops [⟨(some 4),none,.mov (.const (.bool false))⟩] [0,1])
 (.seq (.seq (.ops [⟨(some 13),none,.mov (.tmp 0)⟩,
   ⟨(some 14),none,.len true (.tmp 13)⟩,
   ⟨(some 15),none,.bin .gtr (.tmp 14) (.const (.int .i64 4000))⟩] [0,1,15])
 (.cond (.tmp 15)
  (.seq (.ops [⟨(some 4),none,.mov (.const (.bool true))⟩] [4])
  (.ret))
  (.skip)))
 (.seq (.ops [⟨(some 17),none,.mov (.tmp 0)⟩,
   ⟨(some 18),none,.mov (.tmp 1)⟩,
   ⟨(some 19),none,.callF 25 [(.tmp 17),(.tmp 18)]⟩,
   ⟨(some 16),none,.mov (.tmp 19)⟩,
   ⟨(some 20),none,.ext (.tmp 16) 0⟩,
   ⟨(some 21),none,.ext (.tmp 16) 1⟩,
   ⟨(some 5),none,.alloc 24 [(2,(.int .i64 0)),(1,(.slice none 0 0))]⟩,
   ⟨none,none,.store 3 (.tmp 5) (.tmp 20)⟩,
   ⟨(some 6),none,.mov (.tmp 21)⟩] [0,1,5,6])
 (.seq (.ops [⟨(some 23),none,.mov (.tmp 0)⟩,
   ⟨(some 24),none,.mov (.tmp 1)⟩,
   ⟨(some 25),none,.callF 26 [(.tmp 23),(.tmp 24)]⟩,
   ⟨(some 22),none,.mov (.tmp 25)⟩,
   ⟨(some 26),none,.ext (.tmp 22) 0⟩,
   ⟨(some 27),none,.ext (.tmp 22) 1⟩,
   ⟨(some 7),none,.alloc 24 [(2,(.int .i64 0)),(1,(.slice none 0 0))]⟩,
   ⟨none,none,.store 3 (.tmp 7) (.tmp 26)⟩,
   ⟨(some 8),none,.mov (.tmp 27)⟩] [0,5,6,7,8])
 (.seq (.ops [⟨(some 29),none,.mov (.tmp 0)⟩,
   ⟨(some 30),none,.callF 27 [(.tmp 29)]⟩,
   ⟨(some 28),none,.mov (.tmp 30)⟩,
   ⟨(some 31),none,.ext (.tmp 28) 0⟩,
   ⟨(some 32),none,.ext (.tmp 28) 1⟩,
   ⟨(some 9),none,.alloc 34 [(1,(.int .i64 0)),(1,(.slice none 0 0))]⟩,
   ⟨none,none,.store 2 (.tmp 9) (.tmp 31)⟩,
   ⟨(some 10),none,.mov (.tmp 32)⟩] [0,5,6,7,8,9,10])
 (.seq (.ops [⟨(some 34),none,.mov (.tmp 0)⟩,
   ⟨(some 35),none,.callF 28 [(.tmp 34)]⟩,
   ⟨(some 33),none,.mov (.tmp 35)⟩,
   ⟨(some 36),none,.ext (.tmp 33) 0⟩,
   ⟨(some 37),none,.ext (.tmp 33) 1⟩,
   ⟨(some 11),none,.alloc 34 [(1,(.int .i64 0)),(1,(.slice none 0 0))]⟩,
   ⟨none,none,.store 2 (.tmp 11) (.tmp 36)⟩,
   ⟨(some 12),none,.mov (.tmp 37)⟩] [5,6,7,8,9,10,11,12])
 (.seq (.ops [⟨(some 38),none,.load (some 3) (.tmp 5)⟩,
   ⟨(some 39),none,.load (some 3) (.tmp 7)⟩,
   ⟨(some 40),none,.callF 18 [(.tmp 38),(.tmp 39)]⟩,
   ⟨(some 41),none,.mov (.tmp 40)⟩,
   ⟨(some 42),(some (41,true)),.mov (.tmp 6)⟩,
   ⟨(some 43),(some (41,true)),.mov (.tmp 8)⟩,
   ⟨(some 44),(some (41,true)),.bin .eql (.tmp 42) (.tmp 43)⟩,
   ⟨(some 45),none,.pick (.tmp 41) (.tmp 44) (.const (.bool false))⟩,
   ⟨(some 46),none,.mov (.tmp 45)⟩,
   ⟨(some 47),(some (46,true)),.load (some 2) (.tmp 9)⟩,
   ⟨(some 48),(some (46,true)),.load (some 2) (.tmp 11)⟩,
   ⟨(some 49),(some (46,true)),.callF 17 [(.tmp 47),(.tmp 48)]⟩,
   ⟨(some 50),none,.pick (.tmp 46) (.tmp 49) (.const (.bool false))⟩,
   ⟨(some 51),none,.mov (.tmp 50)⟩,
   ⟨(some 52),(some (51,true)),.mov (.tmp 10)⟩,
   ⟨(some 53),(some (51,true)),.mov (.tmp 12)⟩,
   ⟨(some 54),(some (51,true)),.bin .eql (.tmp 52) (.tmp 53)⟩,
   ⟨(some 55),none,.pick (.tmp 51) (.tmp 54) (.const (.bool false))⟩,
   ⟨(some 4),none,.mov (.tmp 55)⟩] [4])
 (.ret))))))),
 56,[(4,none)],true⟩
theorem ok6:FunOK Tryd.prog 6 c6:= .code ⟨Tryd.f6,_,c6.code,Tryd.func6,rfl,by kernel_rfl,rfl,by kernel_rfl,by kernel_rfl⟩
/- raddle/peg.Plan -/
def c11l0:AC:=
 .seq (.ops [⟨(some 34),none,.bin .lss (.tmp 33) (.tmp 32)⟩] [1,5,7,16,17,31,32,33,34])
      (.seq (.cond (.tmp 34)
       (.skip)
       (.exit 2))
      (.seq (.block 3
       (.seq (.ops [⟨(some 35),none,.mov (.tmp 33)⟩,
         ⟨(some 36),none,.idxS 1 (.tmp 31) (.tmp 33)⟩,
         ⟨(some 37),none,.load none (.tmp 36)⟩,
         ⟨(some 8),none,.mov (.tmp 35)⟩,
         ⟨(some 9),none,.mov (.tmp 37)⟩] [1,5,7,8,9,16,17,31,32,33])
       (.seq (.ops [⟨(some 38),none,.mov (.tmp 9)⟩] [1,5,7,8,16,17,31,32,33,38])
       (.cond (.tmp 38)
        (.ops [⟨(some 39),none,.mov (.tmp 7)⟩,
          ⟨(some 40),none,.mov (.tmp 8)⟩,
          ⟨(some 41),none,.bin .add (.tmp 40) (.const (.int .i64 1))⟩,
          ⟨(some 42),none,.callF 32 [(.tmp 41)]⟩,
          ⟨(some 43),none,.mkRow 9 1 1 [(.string ⟨#[]⟩)] [(0,1,(.tmp 42))]⟩,
          ⟨(some 44),none,.app 9 1 16 (.tmp 39) (.tmp 43)⟩,
          ⟨(some 7),none,.mov (.tmp 44)⟩] [1,5,7,16,17,31,32,33])
        (.skip)))))
      (.ops [⟨(some 45),none,.bin .add (.tmp 33) (.const (.int .i64 1))⟩,
        ⟨(some 33),none,.mov (.tmp 45)⟩] [1,5,7,16,17,31,32,33])))
def c11l1:AC:=
 .seq (.ops [⟨(some 18),none,.bin .lss (.tmp 17) (.tmp 16)⟩] [1,5,16,17,18])
   (.seq (.cond (.tmp 18)
    (.skip)
    (.exit 0))
   (.seq (.block 1
    (.seq (.ops [⟨(some 19),none,.mov (.tmp 17)⟩,
      ⟨(some 6),none,.mov (.tmp 19)⟩] [1,5,6,16,17])
    (.seq (.ops [⟨(some 7),none,.mov (.const (.slice none 0 0))⟩] [1,5,6,7,16,17])
    (.seq (.seq (.ops [⟨(some 20),none,.fldA 2 (.tmp 1)⟩,
      ⟨(some 21),none,.load none (.tmp 20)⟩,
      ⟨(some 22),none,.mov (.tmp 6)⟩,
      ⟨(some 23),none,.fldA 0 (.tmp 1)⟩,
      ⟨(some 24),none,.load none (.tmp 23)⟩,
      ⟨(some 25),none,.bin .mul (.tmp 22) (.tmp 24)⟩,
      ⟨(some 26),none,.mov (.tmp 6)⟩,
      ⟨(some 27),none,.bin .add (.tmp 26) (.const (.int .i64 1))⟩,
      ⟨(some 28),none,.fldA 0 (.tmp 1)⟩,
      ⟨(some 29),none,.load none (.tmp 28)⟩,
      ⟨(some 30),none,.bin .mul (.tmp 27) (.tmp 29)⟩,
      ⟨(some 31),none,.slc 1 (.tmp 21) (some (.tmp 25)) (some (.tmp 30)) none⟩,
      ⟨(some 32),none,.len false (.tmp 31)⟩,
      ⟨(some 33),none,.mov (.const (.int .i64 0))⟩] [1,5,7,16,17,31,32,33])
    (.block 2
     (.loop [1,5,7,16,17,31,32,33]
      c11l0)))
    (.seq (.seq (.ops [⟨(some 46),none,.mov (.tmp 7)⟩,
      ⟨(some 47),none,.eqNil 1 false (.tmp 46) (.const (.slice none 0 0))⟩] [1,5,7,16,17,47])
    (.cond (.tmp 47)
     (.ops [⟨(some 48),none,.mkRow 9 1 1 [(.string ⟨#[]⟩)] [(0,1,(.const (.string ⟨#[45]⟩)))]⟩,
       ⟨(some 7),none,.mov (.tmp 48)⟩] [1,5,7,16,17])
     (.skip)))
    (.ops [⟨(some 49),none,.mov (.tmp 7)⟩,
      ⟨(some 50),none,.callF 34 [(.tmp 49),(.const (.string ⟨#[32]⟩))]⟩,
      ⟨(some 51),none,.bin .add (.tmp 50) (.const (.string ⟨#[10]⟩))⟩,
      ⟨(some 52),none,.callF 33 [(.tmp 5),(.tmp 51)]⟩] [1,5,16,17]))))))
   (.ops [⟨(some 53),none,.bin .add (.tmp 17) (.const (.int .i64 1))⟩,
     ⟨(some 17),none,.mov (.tmp 53)⟩] [1,5,16,17])))
def c11:AFun:=⟨
 .seq (.ops [⟨(some 1),none,.box 24 (.tmp 0)⟩,
   ⟨(some 2),none,.mov (.const (.string ⟨#[]⟩))⟩,
   ⟨(some 3),none,.mov (.const (.int .i64 0))⟩] [1])
 (.seq (.seq (.ops [⟨(some 10),none,.load (some 3) (.tmp 1)⟩,
   ⟨(some 11),none,.callF 15 [(.tmp 10)]⟩,
   ⟨(some 4),none,.mov (.tmp 11)⟩] [1,4])
 (.seq (.ops [⟨(some 12),none,.mov (.tmp 4)⟩,
   ⟨(some 13),none,.bin .neq (.tmp 12) (.const (.int .i64 0))⟩] [1,4,13])
 (.cond (.tmp 13)
  (.seq (.ops [⟨(some 14),none,.mov (.tmp 4)⟩,
    ⟨(some 2),none,.mov (.const (.string ⟨#[]⟩))⟩,
    ⟨(some 3),none,.mov (.tmp 14)⟩] [2,3])
  (.ret))
  (.skip))))
 (.seq (.ops [⟨(some 5),none,.alloc 69 [(1,(.pointer none)),(1,(.slice none 0 0))]⟩] [1,5])
 (.seq (.seq (.ops [⟨(some 15),none,.fldA 1 (.tmp 1)⟩,
   ⟨(some 16),none,.load none (.tmp 15)⟩,
   ⟨(some 17),none,.mov (.const (.int .i64 0))⟩] [1,5,16,17])
 (.block 0
  (.loop [1,5,16,17]
   c11l1)))
 (.seq (.ops [⟨(some 54),none,.callF 35 [(.tmp 5)]⟩,
   ⟨(some 2),none,.mov (.tmp 54)⟩,
   ⟨(some 3),none,.mov (.const (.int .i64 0))⟩] [2,3])
 (.ret))))),
 55,[(2,none),(3,none)],true⟩
theorem ok11:FunOK Tryd.prog 11 c11:= .code ⟨Tryd.f11,_,c11.code,Tryd.func11,rfl,by kernel_rfl,rfl,by kernel_rfl,by kernel_rfl⟩
/- raddle/peg.Check -/
def c15:AFun:=⟨
 .seq (.ops [⟨(some 1),none,.box 24 (.tmp 0)⟩,
   ⟨(some 2),none,.mov (.const (.int .i64 0))⟩] [1])
 (.seq (.seq (.ops [⟨(some 4),none,.load (some 3) (.tmp 1)⟩,
   ⟨(some 5),none,.callF 43 [(.tmp 4)]⟩,
   ⟨(some 3),none,.mov (.tmp 5)⟩] [1,3])
 (.seq (.ops [⟨(some 6),none,.mov (.tmp 3)⟩,
   ⟨(some 7),none,.bin .neq (.tmp 6) (.const (.int .i64 0))⟩] [1,3,7])
 (.cond (.tmp 7)
  (.seq (.ops [⟨(some 8),none,.mov (.tmp 3)⟩,
    ⟨(some 2),none,.mov (.tmp 8)⟩] [2])
  (.ret))
  (.skip))))
 (.seq (.seq (.ops [⟨(some 9),none,.fldA 0 (.tmp 1)⟩,
   ⟨(some 10),none,.load none (.tmp 9)⟩,
   ⟨(some 11),none,.bin .gtr (.tmp 10) (.const (.int .i64 40))⟩] [11])
 (.cond (.tmp 11)
  (.seq (.ops [⟨(some 2),none,.mov (.const (.int .i64 8))⟩] [2])
  (.ret))
  (.skip)))
 (.seq (.ops [⟨(some 2),none,.mov (.const (.int .i64 0))⟩] [2])
 (.ret)))),
 12,[(2,none)],true⟩
theorem ok15:FunOK Tryd.prog 15 c15:= .code ⟨Tryd.f15,_,c15.code,Tryd.func15,rfl,by kernel_rfl,rfl,by kernel_rfl,by kernel_rfl⟩
/- raddle/raddleref18.Same -/
def c17l0:AC:=
 .seq (.seq (.ops [⟨(some 41),none,.mov (.tmp 6)⟩,
        ⟨(some 42),none,.fldA 1 (.tmp 2)⟩,
        ⟨(some 43),none,.load none (.tmp 42)⟩,
        ⟨(some 44),none,.mov (.tmp 5)⟩,
        ⟨(some 45),none,.idxS 1 (.tmp 43) (.tmp 44)⟩,
        ⟨(some 46),none,.load none (.tmp 45)⟩,
        ⟨(some 47),none,.len false (.tmp 46)⟩,
        ⟨(some 48),none,.bin .lss (.tmp 41) (.tmp 47)⟩] [2,3,5,6,48])
      (.cond (.tmp 48)
       (.skip)
       (.exit 2)))
      (.seq (.block 3
       (.seq (.draw [⟨(some 51),none,.fldA 1 (.tmp 2)⟩,
         ⟨(some 52),none,.load none (.tmp 51)⟩,
         ⟨(some 53),none,.mov (.tmp 5)⟩,
         ⟨(some 54),none,.idxS 1 (.tmp 52) (.tmp 53)⟩,
         ⟨(some 55),none,.load none (.tmp 54)⟩,
         ⟨(some 56),none,.mov (.tmp 6)⟩,
         ⟨(some 57),none,.idxS 1 (.tmp 55) (.tmp 56)⟩,
         ⟨(some 58),none,.load none (.tmp 57)⟩,
         ⟨(some 59),none,.fldA 1 (.tmp 3)⟩,
         ⟨(some 60),none,.load none (.tmp 59)⟩,
         ⟨(some 61),none,.mov (.tmp 5)⟩,
         ⟨(some 62),none,.idxS 1 (.tmp 60) (.tmp 61)⟩,
         ⟨(some 63),none,.load none (.tmp 62)⟩,
         ⟨(some 64),none,.mov (.tmp 6)⟩,
         ⟨(some 65),none,.idxS 1 (.tmp 63) (.tmp 64)⟩,
         ⟨(some 66),none,.load none (.tmp 65)⟩] [⟨(some 67),none,.eqB true (.tmp 58) (.tmp 66)⟩] [[],[],[],[],[],[],[],[],[],[],[],[],[],[],[],[]] [2,3,5,6,67])
       (.cond (.tmp 67)
        (.seq (.ops [⟨(some 4),none,.mov (.const (.bool false))⟩] [4])
        (.ret))
        (.skip))))
      (.ops [⟨(some 49),none,.mov (.tmp 6)⟩,
        ⟨(some 50),none,.bin .add (.tmp 49) (.const (.int .i64 1))⟩,
        ⟨(some 6),none,.mov (.tmp 50)⟩] [2,3,5,6]))
def c17l1:AC:=
 .seq (.seq (.ops [⟨(some 21),none,.mov (.tmp 5)⟩,
     ⟨(some 22),none,.fldA 1 (.tmp 2)⟩,
     ⟨(some 23),none,.load none (.tmp 22)⟩,
     ⟨(some 24),none,.len false (.tmp 23)⟩,
     ⟨(some 25),none,.bin .lss (.tmp 21) (.tmp 24)⟩] [2,3,5,25])
   (.cond (.tmp 25)
    (.skip)
    (.exit 0)))
   (.seq (.block 1
    (.seq (.seq (.draw [⟨(some 28),none,.fldA 1 (.tmp 2)⟩,
      ⟨(some 29),none,.load none (.tmp 28)⟩,
      ⟨(some 30),none,.mov (.tmp 5)⟩,
      ⟨(some 31),none,.idxS 1 (.tmp 29) (.tmp 30)⟩,
      ⟨(some 32),none,.load none (.tmp 31)⟩,
      ⟨(some 33),none,.len false (.tmp 32)⟩,
      ⟨(some 34),none,.fldA 1 (.tmp 3)⟩,
      ⟨(some 35),none,.load none (.tmp 34)⟩,
      ⟨(some 36),none,.mov (.tmp 5)⟩,
      ⟨(some 37),none,.idxS 1 (.tmp 35) (.tmp 36)⟩,
      ⟨(some 38),none,.load none (.tmp 37)⟩,
      ⟨(some 39),none,.len false (.tmp 38)⟩] [⟨(some 40),none,.bin .neq (.tmp 33) (.tmp 39)⟩] [[],[],[],[],[],[],[],[],[],[],[],[]] [2,3,5,40])
    (.cond (.tmp 40)
     (.seq (.ops [⟨(some 4),none,.mov (.const (.bool false))⟩] [4])
     (.ret))
     (.skip)))
    (.seq (.ops [⟨(some 6),none,.mov (.const (.int .i64 0))⟩] [2,3,5,6])
    (.block 2
     (.loop [2,3,5,6]
      c17l0)))))
   (.ops [⟨(some 26),none,.mov (.tmp 5)⟩,
     ⟨(some 27),none,.bin .add (.tmp 26) (.const (.int .i64 1))⟩,
     ⟨(some 5),none,.mov (.tmp 27)⟩] [2,3,5]))
def c17:AFun:=⟨
 .seq (.ops [⟨(some 2),none,.box 34 (.tmp 0)⟩,
   ⟨(some 3),none,.box 34 (.tmp 1)⟩,
   ⟨(some 4),none,.mov (.const (.bool false))⟩] [2,3])
 (.seq (.seq (.ops [⟨(some 7),none,.fldA 0 (.tmp 2)⟩,
   ⟨(some 8),none,.load none (.tmp 7)⟩,
   ⟨(some 9),none,.fldA 0 (.tmp 3)⟩,
   ⟨(some 10),none,.load none (.tmp 9)⟩,
   ⟨(some 11),none,.bin .neq (.tmp 8) (.tmp 10)⟩,
   ⟨(some 12),none,.mov (.tmp 11)⟩,
   ⟨(some 13),(some (12,false)),.fldA 1 (.tmp 2)⟩,
   ⟨(some 14),(some (12,false)),.load none (.tmp 13)⟩,
   ⟨(some 15),(some (12,false)),.len false (.tmp 14)⟩,
   ⟨(some 16),(some (12,false)),.fldA 1 (.tmp 3)⟩,
   ⟨(some 17),(some (12,false)),.load none (.tmp 16)⟩,
   ⟨(some 18),(some (12,false)),.len false (.tmp 17)⟩,
   ⟨(some 19),(some (12,false)),.bin .neq (.tmp 15) (.tmp 18)⟩,
   ⟨(some 20),none,.pick (.tmp 12) (.const (.bool true)) (.tmp 19)⟩] [2,3,20])
 (.cond (.tmp 20)
  (.seq (.ops [⟨(some 4),none,.mov (.const (.bool false))⟩] [4])
  (.ret))
  (.skip)))
 (.seq (.seq (.ops [⟨(some 5),none,.mov (.const (.int .i64 0))⟩] [2,3,5])
 (.block 0
  (.loop [2,3,5]
   c17l1)))
 (.seq (.ops [⟨(some 4),none,.mov (.const (.bool true))⟩] [4])
 (.ret)))),
 68,[(4,none)],true⟩
theorem ok17:FunOK Tryd.prog 17 c17:= .code ⟨Tryd.f17,_,c17.code,Tryd.func17,rfl,by kernel_rfl,rfl,by kernel_rfl,by kernel_rfl⟩
/- raddle/raddleref01.Same -/
def c18l0:AC:=
 .seq (.seq (.ops [⟨(some 27),none,.mov (.tmp 5)⟩,
     ⟨(some 28),none,.fldA 2 (.tmp 2)⟩,
     ⟨(some 29),none,.load none (.tmp 28)⟩,
     ⟨(some 30),none,.len false (.tmp 29)⟩,
     ⟨(some 31),none,.bin .lss (.tmp 27) (.tmp 30)⟩] [2,3,5,31])
   (.cond (.tmp 31)
    (.skip)
    (.exit 0)))
   (.seq (.block 1
    (.seq (.draw [⟨(some 34),none,.fldA 2 (.tmp 2)⟩,
      ⟨(some 35),none,.load none (.tmp 34)⟩,
      ⟨(some 36),none,.mov (.tmp 5)⟩,
      ⟨(some 37),none,.idxS 1 (.tmp 35) (.tmp 36)⟩,
      ⟨(some 38),none,.load none (.tmp 37)⟩,
      ⟨(some 39),none,.fldA 2 (.tmp 3)⟩,
      ⟨(some 40),none,.load none (.tmp 39)⟩,
      ⟨(some 41),none,.mov (.tmp 5)⟩,
      ⟨(some 42),none,.idxS 1 (.tmp 40) (.tmp 41)⟩,
      ⟨(some 43),none,.load none (.tmp 42)⟩] [⟨(some 44),none,.eqB true (.tmp 38) (.tmp 43)⟩] [[],[],[],[],[],[],[],[],[],[]] [2,3,5,44])
    (.cond (.tmp 44)
     (.seq (.ops [⟨(some 4),none,.mov (.const (.bool false))⟩] [4])
     (.ret))
     (.skip))))
   (.ops [⟨(some 32),none,.mov (.tmp 5)⟩,
     ⟨(some 33),none,.bin .add (.tmp 32) (.const (.int .i64 1))⟩,
     ⟨(some 5),none,.mov (.tmp 33)⟩] [2,3,5]))
def c18:AFun:=⟨
 .seq (.ops [⟨(some 2),none,.box 24 (.tmp 0)⟩,
   ⟨(some 3),none,.box 24 (.tmp 1)⟩,
   ⟨(some 4),none,.mov (.const (.bool false))⟩] [2,3])
 (.seq (.seq (.ops [⟨(some 6),none,.fldA 0 (.tmp 2)⟩,
   ⟨(some 7),none,.load none (.tmp 6)⟩,
   ⟨(some 8),none,.fldA 0 (.tmp 3)⟩,
   ⟨(some 9),none,.load none (.tmp 8)⟩,
   ⟨(some 10),none,.bin .neq (.tmp 7) (.tmp 9)⟩,
   ⟨(some 11),none,.mov (.tmp 10)⟩,
   ⟨(some 12),(some (11,false)),.fldA 1 (.tmp 2)⟩,
   ⟨(some 13),(some (11,false)),.load none (.tmp 12)⟩,
   ⟨(some 14),(some (11,false)),.fldA 1 (.tmp 3)⟩,
   ⟨(some 15),(some (11,false)),.load none (.tmp 14)⟩,
   ⟨(some 16),(some (11,false)),.bin .neq (.tmp 13) (.tmp 15)⟩,
   ⟨(some 17),none,.pick (.tmp 11) (.const (.bool true)) (.tmp 16)⟩,
   ⟨(some 18),none,.mov (.tmp 17)⟩,
   ⟨(some 19),(some (18,false)),.fldA 2 (.tmp 2)⟩,
   ⟨(some 20),(some (18,false)),.load none (.tmp 19)⟩,
   ⟨(some 21),(some (18,false)),.len false (.tmp 20)⟩,
   ⟨(some 22),(some (18,false)),.fldA 2 (.tmp 3)⟩,
   ⟨(some 23),(some (18,false)),.load none (.tmp 22)⟩,
   ⟨(some 24),(some (18,false)),.len false (.tmp 23)⟩,
   ⟨(some 25),(some (18,false)),.bin .neq (.tmp 21) (.tmp 24)⟩,
   ⟨(some 26),none,.pick (.tmp 18) (.const (.bool true)) (.tmp 25)⟩] [2,3,26])
 (.cond (.tmp 26)
  (.seq (.ops [⟨(some 4),none,.mov (.const (.bool false))⟩] [4])
  (.ret))
  (.skip)))
 (.seq (.seq (.ops [⟨(some 5),none,.mov (.const (.int .i64 0))⟩] [2,3,5])
 (.block 0
  (.loop [2,3,5]
   c18l0)))
 (.seq (.ops [⟨(some 4),none,.mov (.const (.bool true))⟩] [4])
 (.ret)))),
 45,[(4,none)],true⟩
theorem ok18:FunOK Tryd.prog 18 c18:= .code ⟨Tryd.f18,_,c18.code,Tryd.func18,rfl,by kernel_rfl,rfl,by kernel_rfl,by kernel_rfl⟩
/- raddle/raddleref18.Chain -/
def c21l0:AC:=
 .seq (.seq (.ops [⟨(some 24),none,.mov (.tmp 3)⟩,
     ⟨(some 25),none,.fldA 1 (.tmp 1)⟩,
     ⟨(some 26),none,.load none (.tmp 25)⟩,
     ⟨(some 27),none,.len false (.tmp 26)⟩,
     ⟨(some 28),none,.bin .lss (.tmp 24) (.tmp 27)⟩] [1,3,28])
   (.cond (.tmp 28)
    (.skip)
    (.exit 0)))
   (.seq (.block 1
    (.seq (.draw [⟨(some 31),none,.fldA 1 (.tmp 1)⟩,
      ⟨(some 32),none,.load none (.tmp 31)⟩,
      ⟨(some 33),none,.mov (.tmp 3)⟩,
      ⟨(some 34),none,.idxS 1 (.tmp 32) (.tmp 33)⟩,
      ⟨(some 35),none,.load none (.tmp 34)⟩,
      ⟨(some 36),none,.len false (.tmp 35)⟩,
      ⟨(some 37),none,.fldA 0 (.tmp 1)⟩,
      ⟨(some 38),none,.load none (.tmp 37)⟩,
      ⟨(some 39),none,.bin .add (.tmp 38) (.const (.int .i64 1))⟩] [⟨(some 40),none,.bin .neq (.tmp 36) (.tmp 39)⟩] [[],[],[],[],[],[],[],[],[]] [1,3,40])
    (.cond (.tmp 40)
     (.seq (.ops [⟨(some 2),none,.mov (.const (.int .i64 8))⟩] [2])
     (.ret))
     (.skip))))
   (.ops [⟨(some 29),none,.mov (.tmp 3)⟩,
     ⟨(some 30),none,.bin .add (.tmp 29) (.const (.int .i64 1))⟩,
     ⟨(some 3),none,.mov (.tmp 30)⟩] [1,3]))
def c21:AFun:=⟨
 .seq (.ops [⟨(some 1),none,.box 34 (.tmp 0)⟩,
   ⟨(some 2),none,.mov (.const (.int .i64 0))⟩] [1])
 (.seq (.seq (.ops [⟨(some 4),none,.fldA 0 (.tmp 1)⟩,
   ⟨(some 5),none,.load none (.tmp 4)⟩,
   ⟨(some 6),none,.bin .lss (.tmp 5) (.const (.int .i64 1))⟩,
   ⟨(some 7),none,.mov (.tmp 6)⟩,
   ⟨(some 8),(some (7,false)),.fldA 0 (.tmp 1)⟩,
   ⟨(some 9),(some (7,false)),.load none (.tmp 8)⟩,
   ⟨(some 10),(some (7,false)),.bin .gtr (.tmp 9) (.const (.int .i64 40))⟩,
   ⟨(some 11),none,.pick (.tmp 7) (.const (.bool true)) (.tmp 10)⟩,
   ⟨(some 12),none,.mov (.tmp 11)⟩,
   ⟨(some 13),(some (12,false)),.fldA 1 (.tmp 1)⟩,
   ⟨(some 14),(some (12,false)),.load none (.tmp 13)⟩,
   ⟨(some 15),(some (12,false)),.len false (.tmp 14)⟩,
   ⟨(some 16),(some (12,false)),.bin .lss (.tmp 15) (.const (.int .i64 2))⟩,
   ⟨(some 17),none,.pick (.tmp 12) (.const (.bool true)) (.tmp 16)⟩,
   ⟨(some 18),none,.mov (.tmp 17)⟩,
   ⟨(some 19),(some (18,false)),.fldA 1 (.tmp 1)⟩,
   ⟨(some 20),(some (18,false)),.load none (.tmp 19)⟩,
   ⟨(some 21),(some (18,false)),.len false (.tmp 20)⟩,
   ⟨(some 22),(some (18,false)),.bin .gtr (.tmp 21) (.const (.int .i64 65))⟩,
   ⟨(some 23),none,.pick (.tmp 18) (.const (.bool true)) (.tmp 22)⟩] [1,23])
 (.cond (.tmp 23)
  (.seq (.ops [⟨(some 2),none,.mov (.const (.int .i64 8))⟩] [2])
  (.ret))
  (.skip)))
 (.seq (.seq (.ops [⟨(some 3),none,.mov (.const (.int .i64 0))⟩] [1,3])
 (.block 0
  (.loop [1,3]
   c21l0)))
 (.seq (.ops [⟨(some 2),none,.mov (.const (.int .i64 0))⟩] [2])
 (.ret)))),
 41,[(2,none)],true⟩
theorem ok21:FunOK Tryd.prog 21 c21:= .code ⟨Tryd.f21,_,c21.code,Tryd.func21,rfl,by kernel_rfl,rfl,by kernel_rfl,by kernel_rfl⟩
/- raddle/peg.Read -/
def c25a0:AC:=
 (.ops [⟨(some 13),none,.mov (.tmp 52)⟩] [3,12,13])
def c25b0:AC:=
 (.block 3
       (.seq (.ops [⟨(some 54),none,.mov (.tmp 13)⟩,
         ⟨(some 55),none,.callF 50 [(.tmp 54)]⟩,
         ⟨(some 53),none,.mov (.tmp 55)⟩,
         ⟨(some 56),none,.ext (.tmp 53) 0⟩,
         ⟨(some 57),none,.ext (.tmp 53) 1⟩,
         ⟨(some 14),none,.mov (.tmp 56)⟩,
         ⟨(some 15),none,.mov (.tmp 57)⟩] [3,12,14,15])
       (.seq (.ops [⟨(some 58),none,.mov (.tmp 15)⟩,
         ⟨(some 59),none,.eqIf false true [2,3,5,6,12,21,27,111,119,129,137,159,160,162,163] (.tmp 58) (.const .nilIface)⟩,
         ⟨(some 60),none,.mov (.tmp 59)⟩,
         ⟨(some 61),(some (60,true)),.mov (.tmp 14)⟩,
         ⟨(some 62),(some (60,true)),.bin .geq (.tmp 61) (.const (.int .i64 1))⟩,
         ⟨(some 63),none,.pick (.tmp 60) (.tmp 62) (.const (.bool false))⟩,
         ⟨(some 64),none,.mov (.tmp 63)⟩,
         ⟨(some 65),(some (64,true)),.mov (.tmp 14)⟩,
         ⟨(some 66),(some (64,true)),.load none (.tmp 3)⟩,
         ⟨(some 67),(some (64,true)),.bin .leq (.tmp 65) (.tmp 66)⟩,
         ⟨(some 68),none,.pick (.tmp 64) (.tmp 67) (.const (.bool false))⟩] [12,14,68])
       (.cond (.tmp 68)
        (.ops [⟨(some 69),none,.load none (.tmp 12)⟩,
          ⟨(some 70),none,.mov (.tmp 14)⟩,
          ⟨(some 71),none,.bin .sub (.tmp 70) (.const (.int .i64 1))⟩,
          ⟨(some 72),none,.idxS 1 (.tmp 69) (.tmp 71)⟩,
          ⟨none,none,.store 1 (.tmp 72) (.const (.bool true))⟩] [])
        (.skip)))))
def c25l0:AC:=
 .seq (.ops [⟨(some 45),none,.bin .lss (.tmp 44) (.tmp 43)⟩] [0,3,4,5,6,42,43,44,45])
   (.seq (.cond (.tmp 45)
    (.skip)
    (.exit 0))
   (.seq (.block 1
    (.seq (.ops [⟨(some 46),none,.idxS 1 (.tmp 42) (.tmp 44)⟩,
      ⟨(some 47),none,.load none (.tmp 46)⟩,
      ⟨(some 11),none,.mov (.tmp 47)⟩] [0,3,4,5,6,11,42,43,44])
    (.seq (.ops [⟨(some 48),none,.load none (.tmp 3)⟩,
      ⟨(some 49),none,.mkSlice 4 1 1 [(.bool false)] (.tmp 48) (.tmp 48)⟩,
      ⟨(some 12),none,.alloc 22 [(1,(.slice none 0 0))]⟩,
      ⟨none,none,.store 1 (.tmp 12) (.tmp 49)⟩] [0,3,4,5,6,11,12,42,43,44])
    (.seq (.seq (.ops [⟨(some 50),none,.mov (.tmp 11)⟩,
      ⟨(some 51),none,.callF 49 [(.tmp 50),(.const (.string ⟨#[32]⟩))]⟩] [0,3,4,5,6,12,42,43,44,51])
    (.block 2
     (.rangeF (.tmp 51) [52] [0,3,4,5,6,12,42,43,44]
      c25a0 c25b0)))
    (.seq (.ops [⟨(some 73),none,.fldA 2 (.tmp 6)⟩,
      ⟨(some 74),none,.load none (.tmp 73)⟩,
      ⟨(some 75),none,.load none (.tmp 12)⟩,
      ⟨(some 76),none,.app 4 1 1 (.tmp 74) (.tmp 75)⟩,
      ⟨(some 77),none,.fldA 2 (.tmp 6)⟩,
      ⟨none,none,.store 1 (.tmp 77) (.tmp 76)⟩] [0,3,4,5,6,42,43,44])
    (.ops [⟨(some 78),none,.fldA 1 (.tmp 6)⟩,
      ⟨(some 79),none,.load none (.tmp 78)⟩,
      ⟨(some 80),none,.bin .add (.tmp 79) (.const (.int .i64 1))⟩,
      ⟨(some 81),none,.fldA 1 (.tmp 6)⟩,
      ⟨none,none,.store 1 (.tmp 81) (.tmp 80)⟩] [0,3,4,5,6,42,43,44]))))))
   (.ops [⟨(some 82),none,.bin .add (.tmp 44) (.const (.int .i64 1))⟩,
     ⟨(some 44),none,.mov (.tmp 82)⟩] [0,3,4,5,6,42,43,44])))
def c25:AFun:=⟨
 .seq (.ops [⟨(some 3),none,.box 3 (.tmp 1)⟩,
   ⟨(some 4),none,.alloc 24 [(2,(.int .i64 0)),(1,(.slice none 0 0))]⟩,
   ⟨(some 5),none,.mov (.const (.int .i64 0))⟩] [0,3,4,5])
 (.seq (.seq (.ops [⟨(some 18),none,.load none (.tmp 3)⟩,
   ⟨(some 19),none,.bin .lss (.tmp 18) (.const (.int .i64 1))⟩,
   ⟨(some 20),none,.mov (.tmp 19)⟩,
   ⟨(some 21),(some (20,false)),.load none (.tmp 3)⟩,
   ⟨(some 22),(some (20,false)),.bin .gtr (.tmp 21) (.const (.int .i64 40))⟩,
   ⟨(some 23),none,.pick (.tmp 20) (.const (.bool true)) (.tmp 22)⟩] [0,3,4,5,23])
 (.cond (.tmp 23)
  (.seq (.ops [⟨(some 24),none,.build [(.int .i64 0),(.int .i64 0),(.slice none 0 0)] []⟩,
    ⟨none,none,.store 3 (.tmp 4) (.tmp 24)⟩,
    ⟨(some 5),none,.mov (.const (.int .i64 2))⟩] [4,5])
  (.ret))
  (.skip)))
 (.seq (.ops [⟨(some 25),none,.load none (.tmp 3)⟩,
   ⟨(some 26),none,.build [(.int .i64 0),(.int .i64 0),(.slice none 0 0)] [(0,1,(.tmp 25))]⟩,
   ⟨(some 6),none,.alloc 24 [(2,(.int .i64 0)),(1,(.slice none 0 0))]⟩,
   ⟨none,none,.store 3 (.tmp 6) (.tmp 26)⟩] [0,3,4,5,6])
 (.seq (.ops [⟨(some 28),none,.mov (.tmp 0)⟩,
   ⟨(some 29),none,.callF 47 [(.tmp 28),(.const (.string ⟨#[10]⟩))]⟩,
   ⟨(some 27),none,.mov (.tmp 29)⟩,
   ⟨(some 30),none,.ext (.tmp 27) 0⟩,
   ⟨(some 31),none,.ext (.tmp 27) 1⟩,
   ⟨(some 7),none,.mov (.tmp 30)⟩,
   ⟨(some 8),none,.mov (.tmp 31)⟩] [0,3,4,5,6,7,8])
 (.seq (.ops [⟨(some 32),none,.mov (.tmp 7)⟩,
   ⟨(some 33),none,.callF 48 [(.tmp 32),(.const (.string ⟨#[10]⟩))]⟩,
   ⟨(some 9),none,.mov (.tmp 33)⟩] [0,3,4,5,6,8,9])
 (.seq (.seq (.ops [⟨(some 34),none,.mov (.tmp 8)⟩,
   ⟨(some 35),none,.un .not (.tmp 34)⟩,
   ⟨(some 36),none,.mov (.tmp 35)⟩,
   ⟨(some 37),(some (36,false)),.mov (.tmp 9)⟩,
   ⟨(some 38),(some (36,false)),.len false (.tmp 37)⟩,
   ⟨(some 39),(some (36,false)),.bin .gtr (.tmp 38) (.const (.int .i64 64))⟩,
   ⟨(some 40),none,.pick (.tmp 36) (.const (.bool true)) (.tmp 39)⟩] [0,3,4,5,6,9,40])
 (.cond (.tmp 40)
  (.seq (.ops [⟨(some 41),none,.build [(.int .i64 0),(.int .i64 0),(.slice none 0 0)] []⟩,
    ⟨none,none,.store 3 (.tmp 4) (.tmp 41)⟩,
    ⟨(some 5),none,.mov (.const (.int .i64 12))⟩] [4,5])
  (.ret))
  (.skip)))
 (.seq (.seq (.ops [⟨(some 42),none,.mov (.tmp 9)⟩,
   ⟨(some 43),none,.len false (.tmp 42)⟩,
   ⟨(some 44),none,.mov (.const (.int .i64 0))⟩] [0,3,4,5,6,42,43,44])
 (.block 0
  (.loop [0,3,4,5,6,42,43,44]
   c25l0)))
 (.seq (.seq (.ops [⟨(some 84),none,.load (some 3) (.tmp 6)⟩,
   ⟨(some 85),none,.callF 11 [(.tmp 84)]⟩,
   ⟨(some 83),none,.mov (.tmp 85)⟩,
   ⟨(some 86),none,.ext (.tmp 83) 0⟩,
   ⟨(some 87),none,.ext (.tmp 83) 1⟩,
   ⟨(some 16),none,.mov (.tmp 86)⟩,
   ⟨(some 17),none,.mov (.tmp 87)⟩] [0,4,6,16,17])
 (.seq (.ops [⟨(some 88),none,.mov (.tmp 17)⟩,
   ⟨(some 89),none,.bin .neq (.tmp 88) (.const (.int .i64 0))⟩,
   ⟨(some 90),none,.mov (.tmp 89)⟩,
   ⟨(some 91),(some (90,false)),.mov (.tmp 16)⟩,
   ⟨(some 92),(some (90,false)),.mov (.tmp 0)⟩,
   ⟨(some 93),(some (90,false)),.bin .neq (.tmp 91) (.tmp 92)⟩,
   ⟨(some 94),none,.pick (.tmp 90) (.const (.bool true)) (.tmp 93)⟩] [4,6,94])
 (.cond (.tmp 94)
  (.seq (.ops [⟨(some 95),none,.build [(.int .i64 0),(.int .i64 0),(.slice none 0 0)] []⟩,
    ⟨none,none,.store 3 (.tmp 4) (.tmp 95)⟩,
    ⟨(some 5),none,.mov (.const (.int .i64 12))⟩] [4,5])
  (.ret))
  (.skip))))
 (.seq (.ops [⟨(some 96),none,.load (some 3) (.tmp 6)⟩,
   ⟨none,none,.store 3 (.tmp 4) (.tmp 96)⟩,
   ⟨(some 5),none,.mov (.const (.int .i64 0))⟩] [4,5])
 (.ret))))))))),
 97,[(4,(some (some 3))),(5,none)],true⟩
theorem ok25:FunOK Tryd.prog 25 c25:= .code ⟨Tryd.f25,_,c25.code,Tryd.func25,rfl,by kernel_rfl,rfl,by kernel_rfl,by kernel_rfl⟩
/- raddle/raddleref18.Read -/
def c26l0:AC:=
 .seq (.seq (.ops [⟨(some 25),none,.mov (.tmp 8)⟩,
        ⟨(some 26),none,.mov (.tmp 0)⟩,
        ⟨(some 27),none,.len true (.tmp 26)⟩,
        ⟨(some 28),none,.bin .lss (.tmp 25) (.tmp 27)⟩,
        ⟨(some 29),none,.mov (.tmp 28)⟩,
        ⟨(some 30),(some (29,true)),.mov (.tmp 0)⟩,
        ⟨(some 31),(some (29,true)),.mov (.tmp 8)⟩,
        ⟨(some 32),(some (29,true)),.idxStr (.tmp 30) (.tmp 31)⟩,
        ⟨(some 33),(some (29,true)),.bin .neq (.tmp 32) (.const (.int .u8 10))⟩,
        ⟨(some 34),none,.pick (.tmp 29) (.tmp 33) (.const (.bool false))⟩] [0,1,4,6,7,8,34])
      (.cond (.tmp 34)
       (.skip)
       (.exit 2)))
      (.block 3
       (.ops [⟨(some 35),none,.mov (.tmp 8)⟩,
         ⟨(some 36),none,.bin .add (.tmp 35) (.const (.int .i64 1))⟩,
         ⟨(some 8),none,.mov (.tmp 36)⟩] [0,1,4,6,7,8]))
def c26l1:AC:=
 .seq (.seq (.ops [⟨(some 20),none,.mov (.tmp 7)⟩,
     ⟨(some 21),none,.mov (.tmp 0)⟩,
     ⟨(some 22),none,.len true (.tmp 21)⟩,
     ⟨(some 23),none,.bin .lss (.tmp 20) (.tmp 22)⟩] [0,1,4,6,7,23])
   (.cond (.tmp 23)
    (.skip)
    (.exit 0)))
   (.block 1
    (.seq (.ops [⟨(some 24),none,.mov (.tmp 7)⟩,
      ⟨(some 8),none,.mov (.tmp 24)⟩] [0,1,4,6,7,8])
    (.seq (.block 2
     (.loop [0,1,4,6,7,8]
      c26l0))
    (.seq (.ops [⟨(some 38),none,.mov (.tmp 0)⟩,
      ⟨(some 39),none,.mov (.tmp 7)⟩,
      ⟨(some 40),none,.mov (.tmp 8)⟩,
      ⟨(some 41),none,.slcS (.tmp 38) (some (.tmp 39)) (some (.tmp 40))⟩,
      ⟨(some 42),none,.mov (.tmp 1)⟩,
      ⟨(some 43),none,.callF 51 [(.tmp 41),(.tmp 42)]⟩,
      ⟨(some 37),none,.mov (.tmp 43)⟩,
      ⟨(some 44),none,.ext (.tmp 37) 0⟩,
      ⟨(some 45),none,.ext (.tmp 37) 1⟩,
      ⟨(some 9),none,.mov (.tmp 44)⟩,
      ⟨(some 10),none,.mov (.tmp 45)⟩] [0,1,4,6,8,9,10])
    (.seq (.seq (.ops [⟨(some 46),none,.mov (.tmp 8)⟩,
      ⟨(some 47),none,.mov (.tmp 0)⟩,
      ⟨(some 48),none,.len true (.tmp 47)⟩,
      ⟨(some 49),none,.bin .eql (.tmp 46) (.tmp 48)⟩,
      ⟨(some 50),none,.mov (.tmp 49)⟩,
      ⟨(some 51),(some (50,false)),.mov (.tmp 10)⟩,
      ⟨(some 52),(some (50,false)),.un .not (.tmp 51)⟩,
      ⟨(some 53),none,.pick (.tmp 50) (.const (.bool true)) (.tmp 52)⟩,
      ⟨(some 54),none,.mov (.tmp 53)⟩,
      ⟨(some 55),(some (54,false)),.fldA 1 (.tmp 6)⟩,
      ⟨(some 56),(some (54,false)),.load none (.tmp 55)⟩,
      ⟨(some 57),(some (54,false)),.bin .eql (.tmp 56) (.const (.int .i64 64))⟩,
      ⟨(some 58),none,.pick (.tmp 54) (.const (.bool true)) (.tmp 57)⟩] [0,1,4,6,8,9,58])
    (.cond (.tmp 58)
     (.seq (.ops [⟨(some 59),none,.build [(.int .i64 0),(.int .i64 0),(.slice none 0 0)] []⟩,
       ⟨none,none,.store 3 (.tmp 4) (.tmp 59)⟩,
       ⟨(some 5),none,.mov (.const (.int .i64 12))⟩] [4,5])
     (.ret))
     (.skip)))
    (.seq (.ops [⟨(some 60),none,.fldA 2 (.tmp 6)⟩,
      ⟨(some 61),none,.load none (.tmp 60)⟩,
      ⟨(some 62),none,.mov (.tmp 9)⟩,
      ⟨(some 63),none,.app 4 1 1 (.tmp 61) (.tmp 62)⟩,
      ⟨(some 64),none,.fldA 2 (.tmp 6)⟩,
      ⟨none,none,.store 1 (.tmp 64) (.tmp 63)⟩] [0,1,4,6,8])
    (.seq (.ops [⟨(some 65),none,.fldA 1 (.tmp 6)⟩,
      ⟨(some 66),none,.load none (.tmp 65)⟩,
      ⟨(some 67),none,.bin .add (.tmp 66) (.const (.int .i64 1))⟩,
      ⟨(some 68),none,.fldA 1 (.tmp 6)⟩,
      ⟨none,none,.store 1 (.tmp 68) (.tmp 67)⟩] [0,1,4,6,8])
    (.ops [⟨(some 69),none,.mov (.tmp 8)⟩,
      ⟨(some 70),none,.bin .add (.tmp 69) (.const (.int .i64 1))⟩,
      ⟨(some 7),none,.mov (.tmp 70)⟩] [0,1,4,6,7]))))))))
def c26:AFun:=⟨
 .seq (.ops [⟨(some 4),none,.alloc 24 [(2,(.int .i64 0)),(1,(.slice none 0 0))]⟩,
   ⟨(some 5),none,.mov (.const (.int .i64 0))⟩] [0,1,4])
 (.seq (.seq (.ops [⟨(some 11),none,.mov (.tmp 1)⟩,
   ⟨(some 12),none,.bin .lss (.tmp 11) (.const (.int .i64 1))⟩,
   ⟨(some 13),none,.mov (.tmp 12)⟩,
   ⟨(some 14),(some (13,false)),.mov (.tmp 1)⟩,
   ⟨(some 15),(some (13,false)),.bin .gtr (.tmp 14) (.const (.int .i64 40))⟩,
   ⟨(some 16),none,.pick (.tmp 13) (.const (.bool true)) (.tmp 15)⟩] [0,1,4,16])
 (.cond (.tmp 16)
  (.seq (.ops [⟨(some 17),none,.build [(.int .i64 0),(.int .i64 0),(.slice none 0 0)] []⟩,
    ⟨none,none,.store 3 (.tmp 4) (.tmp 17)⟩,
    ⟨(some 5),none,.mov (.const (.int .i64 2))⟩] [4,5])
  (.ret))
  (.skip)))
 (.seq (.ops [⟨(some 18),none,.mov (.tmp 1)⟩,
   ⟨(some 19),none,.build [(.int .i64 0),(.int .i64 0),(.slice none 0 0)] [(0,1,(.tmp 18))]⟩,
   ⟨(some 6),none,.alloc 24 [(2,(.int .i64 0)),(1,(.slice none 0 0))]⟩,
   ⟨none,none,.store 3 (.tmp 6) (.tmp 19)⟩] [0,1,4,6])
 (.seq (.seq (.ops [⟨(some 7),none,.mov (.const (.int .i64 0))⟩] [0,1,4,6,7])
 (.block 0
  (.loop [0,1,4,6,7]
   c26l1)))
 (.seq (.seq (.ops [⟨(some 71),none,.fldA 1 (.tmp 6)⟩,
   ⟨(some 72),none,.load none (.tmp 71)⟩,
   ⟨(some 73),none,.bin .eql (.tmp 72) (.const (.int .i64 0))⟩] [4,6,73])
 (.cond (.tmp 73)
  (.seq (.ops [⟨(some 74),none,.build [(.int .i64 0),(.int .i64 0),(.slice none 0 0)] []⟩,
    ⟨none,none,.store 3 (.tmp 4) (.tmp 74)⟩,
    ⟨(some 5),none,.mov (.const (.int .i64 12))⟩] [4,5])
  (.ret))
  (.skip)))
 (.seq (.ops [⟨(some 75),none,.load (some 3) (.tmp 6)⟩,
   ⟨none,none,.store 3 (.tmp 4) (.tmp 75)⟩,
   ⟨(some 5),none,.mov (.const (.int .i64 0))⟩] [4,5])
 (.ret)))))),
 76,[(4,(some (some 3))),(5,none)],true⟩
theorem ok26:FunOK Tryd.prog 26 c26:= .code ⟨Tryd.f26,_,c26.code,Tryd.func26,rfl,by kernel_rfl,rfl,by kernel_rfl,by kernel_rfl⟩
/- raddle/peg.Parse -/
def c27l0:AC:=
 .seq (.ops [⟨(some 10),none,.nextS (.tmp 9)⟩,
     ⟨(some 11),none,.ext (.tmp 10) 0⟩] [2,4,5,9,10,11])
   (.seq (.cond (.tmp 11)
    (.skip)
    (.exit 0))
   (.block 1
    (.seq (.ops [⟨(some 12),none,.ext (.tmp 10) 2⟩,
      ⟨(some 7),none,.mov (.tmp 12)⟩] [2,4,5,7,9])
    (.seq (.ops [⟨(some 13),none,.mov (.tmp 7)⟩] [2,4,5,7,9,13])
    (.block 2
     (.seq (.seq (.ops [⟨(some 16),none,.bin .eql (.tmp 13) (.const (.int .i32 111))⟩,
       ⟨(some 15),none,.mov (.tmp 16)⟩] [2,4,5,7,9,13,15])
     (.cond (.tmp 15)
      (.skip)
      (.ops [⟨(some 17),none,.bin .eql (.tmp 13) (.const (.int .i32 46))⟩,
        ⟨(some 15),none,.mov (.tmp 17)⟩] [2,4,5,7,9,13,15])))
     (.cond (.tmp 15)
      (.ops [⟨(some 18),none,.mov (.tmp 5)⟩,
        ⟨(some 19),none,.mov (.tmp 7)⟩,
        ⟨(some 20),none,.bin .eql (.tmp 19) (.const (.int .i32 111))⟩,
        ⟨(some 21),none,.mkRow 4 1 1 [(.bool false)] [(0,1,(.tmp 20))]⟩,
        ⟨(some 22),none,.app 4 1 1 (.tmp 18) (.tmp 21)⟩,
        ⟨(some 5),none,.mov (.tmp 22)⟩] [2,4,5,9])
      (.seq (.ops [⟨(some 24),none,.bin .eql (.tmp 13) (.const (.int .i32 10))⟩,
        ⟨(some 23),none,.mov (.tmp 24)⟩] [2,4,5,9,23])
      (.cond (.tmp 23)
       (.seq (.ops [⟨(some 25),none,.fldA 1 (.tmp 4)⟩,
         ⟨(some 26),none,.load none (.tmp 25)⟩,
         ⟨(some 27),none,.mov (.tmp 5)⟩,
         ⟨(some 28),none,.mkRow 22 1 1 [(.slice none 0 0)] [(0,1,(.tmp 27))]⟩,
         ⟨(some 29),none,.app 22 1 24 (.tmp 26) (.tmp 28)⟩,
         ⟨(some 30),none,.fldA 1 (.tmp 4)⟩,
         ⟨none,none,.store 1 (.tmp 30) (.tmp 29)⟩] [2,4,9])
       (.ops [⟨(some 5),none,.mov (.const (.slice none 0 0))⟩] [2,4,5,9]))
       (.seq (.ops [⟨(some 14),none,.build [(.int .i64 0),(.slice none 0 0)] []⟩,
         ⟨none,none,.store 2 (.tmp 2) (.tmp 14)⟩,
         ⟨(some 3),none,.mov (.const (.int .i64 12))⟩] [2,3])
       (.ret)))))))))))
def c27:AFun:=⟨
 .seq (.ops [⟨(some 2),none,.alloc 34 [(1,(.int .i64 0)),(1,(.slice none 0 0))]⟩,
   ⟨(some 3),none,.mov (.const (.int .i64 0))⟩] [0,2])
 (.seq (.ops [⟨(some 4),none,.alloc 34 [(1,(.int .i64 0)),(1,(.slice none 0 0))]⟩] [0,2,4])
 (.seq (.ops [⟨(some 5),none,.mov (.const (.slice none 0 0))⟩] [0,2,4,5])
 (.seq (.seq (.ops [⟨(some 8),none,.mov (.tmp 0)⟩,
   ⟨(some 9),none,.rangeS (.tmp 8)⟩] [2,4,5,9])
 (.block 0
  (.loop [2,4,5,9]
   c27l0)))
 (.seq (.seq (.ops [⟨(some 31),none,.mov (.tmp 5)⟩,
   ⟨(some 32),none,.eqNil 1 true (.tmp 31) (.const (.slice none 0 0))⟩,
   ⟨(some 33),none,.mov (.tmp 32)⟩,
   ⟨(some 34),(some (33,false)),.fldA 1 (.tmp 4)⟩,
   ⟨(some 35),(some (33,false)),.load none (.tmp 34)⟩,
   ⟨(some 36),(some (33,false)),.len false (.tmp 35)⟩,
   ⟨(some 37),(some (33,false)),.bin .eql (.tmp 36) (.const (.int .i64 0))⟩,
   ⟨(some 38),none,.pick (.tmp 33) (.const (.bool true)) (.tmp 37)⟩] [2,4,38])
 (.cond (.tmp 38)
  (.seq (.ops [⟨(some 39),none,.build [(.int .i64 0),(.slice none 0 0)] []⟩,
    ⟨none,none,.store 2 (.tmp 2) (.tmp 39)⟩,
    ⟨(some 3),none,.mov (.const (.int .i64 12))⟩] [2,3])
  (.ret))
  (.skip)))
 (.seq (.ops [⟨(some 40),none,.fldA 1 (.tmp 4)⟩,
   ⟨(some 41),none,.load none (.tmp 40)⟩,
   ⟨(some 42),none,.idxS 1 (.tmp 41) (.const (.int .i64 0))⟩,
   ⟨(some 43),none,.load none (.tmp 42)⟩,
   ⟨(some 44),none,.len false (.tmp 43)⟩,
   ⟨(some 45),none,.bin .sub (.tmp 44) (.const (.int .i64 1))⟩,
   ⟨(some 46),none,.fldA 0 (.tmp 4)⟩,
   ⟨none,none,.store 1 (.tmp 46) (.tmp 45)⟩] [2,4])
 (.seq (.seq (.ops [⟨(some 47),none,.load (some 2) (.tmp 4)⟩,
   ⟨(some 48),none,.callF 52 [(.tmp 47)]⟩,
   ⟨(some 49),none,.un .not (.tmp 48)⟩] [2,4,49])
 (.cond (.tmp 49)
  (.seq (.ops [⟨(some 50),none,.build [(.int .i64 0),(.slice none 0 0)] []⟩,
    ⟨none,none,.store 2 (.tmp 2) (.tmp 50)⟩,
    ⟨(some 3),none,.mov (.const (.int .i64 12))⟩] [2,3])
  (.ret))
  (.skip)))
 (.seq (.ops [⟨(some 51),none,.load (some 2) (.tmp 4)⟩,
   ⟨none,none,.store 2 (.tmp 2) (.tmp 51)⟩,
   ⟨(some 3),none,.mov (.const (.int .i64 0))⟩] [2,3])
 (.ret)))))))),
 52,[(2,(some (some 2))),(3,none)],true⟩
theorem ok27:FunOK Tryd.prog 27 c27:= .code ⟨Tryd.f27,_,c27.code,Tryd.func27,rfl,by kernel_rfl,rfl,by kernel_rfl,by kernel_rfl⟩
/- raddle/raddleref18.Parse -/
def c28l0:AC:=
 .seq (.seq (.ops [⟨(some 11),none,.mov (.tmp 5)⟩,
        ⟨(some 12),none,.mov (.tmp 0)⟩,
        ⟨(some 13),none,.len true (.tmp 12)⟩,
        ⟨(some 14),none,.bin .lss (.tmp 11) (.tmp 13)⟩,
        ⟨(some 15),none,.mov (.tmp 14)⟩,
        ⟨(some 16),(some (15,true)),.mov (.tmp 0)⟩,
        ⟨(some 17),(some (15,true)),.mov (.tmp 5)⟩,
        ⟨(some 18),(some (15,true)),.idxStr (.tmp 16) (.tmp 17)⟩,
        ⟨(some 19),(some (15,true)),.bin .eql (.tmp 18) (.const (.int .u8 111))⟩,
        ⟨(some 20),(some (15,true)),.mov (.tmp 19)⟩,
        ⟨(some 21),(some (20,false)),.mov (.tmp 0)⟩,
        ⟨(some 22),(some (20,false)),.mov (.tmp 5)⟩,
        ⟨(some 23),(some (20,false)),.idxStr (.tmp 21) (.tmp 22)⟩,
        ⟨(some 24),(some (20,false)),.bin .eql (.tmp 23) (.const (.int .u8 46))⟩,
        ⟨(some 25),(some (15,true)),.pick (.tmp 20) (.const (.bool true)) (.tmp 24)⟩,
        ⟨(some 26),none,.pick (.tmp 15) (.tmp 25) (.const (.bool false))⟩] [0,2,4,5,6,26])
      (.cond (.tmp 26)
       (.skip)
       (.exit 2)))
      (.block 3
       (.seq (.ops [⟨(some 27),none,.mov (.tmp 6)⟩,
         ⟨(some 28),none,.mov (.tmp 0)⟩,
         ⟨(some 29),none,.mov (.tmp 5)⟩,
         ⟨(some 30),none,.idxStr (.tmp 28) (.tmp 29)⟩,
         ⟨(some 31),none,.bin .eql (.tmp 30) (.const (.int .u8 111))⟩,
         ⟨(some 32),none,.mkRow 4 1 1 [(.bool false)] [(0,1,(.tmp 31))]⟩,
         ⟨(some 33),none,.app 4 1 1 (.tmp 27) (.tmp 32)⟩,
         ⟨(some 6),none,.mov (.tmp 33)⟩] [0,2,4,5,6])
       (.ops [⟨(some 34),none,.mov (.tmp 5)⟩,
         ⟨(some 35),none,.bin .add (.tmp 34) (.const (.int .i64 1))⟩,
         ⟨(some 5),none,.mov (.tmp 35)⟩] [0,2,4,5,6])))
def c28l1:AC:=
 .seq (.seq (.ops [⟨(some 7),none,.mov (.tmp 5)⟩,
     ⟨(some 8),none,.mov (.tmp 0)⟩,
     ⟨(some 9),none,.len true (.tmp 8)⟩,
     ⟨(some 10),none,.bin .lss (.tmp 7) (.tmp 9)⟩] [0,2,4,5,10])
   (.cond (.tmp 10)
    (.skip)
    (.exit 0)))
   (.block 1
    (.seq (.ops [⟨(some 6),none,.mov (.const (.slice none 0 0))⟩] [0,2,4,5,6])
    (.seq (.block 2
     (.loop [0,2,4,5,6]
      c28l0))
    (.seq (.seq (.ops [⟨(some 36),none,.mov (.tmp 5)⟩,
      ⟨(some 37),none,.mov (.tmp 0)⟩,
      ⟨(some 38),none,.len true (.tmp 37)⟩,
      ⟨(some 39),none,.bin .eql (.tmp 36) (.tmp 38)⟩,
      ⟨(some 40),none,.mov (.tmp 39)⟩,
      ⟨(some 41),(some (40,false)),.mov (.tmp 0)⟩,
      ⟨(some 42),(some (40,false)),.mov (.tmp 5)⟩,
      ⟨(some 43),(some (40,false)),.idxStr (.tmp 41) (.tmp 42)⟩,
      ⟨(some 44),(some (40,false)),.bin .neq (.tmp 43) (.const (.int .u8 10))⟩,
      ⟨(some 45),none,.pick (.tmp 40) (.const (.bool true)) (.tmp 44)⟩] [0,2,4,5,6,45])
    (.cond (.tmp 45)
     (.seq (.ops [⟨(some 46),none,.build [(.int .i64 0),(.slice none 0 0)] []⟩,
       ⟨none,none,.store 2 (.tmp 2) (.tmp 46)⟩,
       ⟨(some 3),none,.mov (.const (.int .i64 12))⟩] [2,3])
     (.ret))
     (.skip)))
    (.seq (.ops [⟨(some 47),none,.fldA 1 (.tmp 4)⟩,
      ⟨(some 48),none,.load none (.tmp 47)⟩,
      ⟨(some 49),none,.mov (.tmp 6)⟩,
      ⟨(some 50),none,.mkRow 22 1 1 [(.slice none 0 0)] [(0,1,(.tmp 49))]⟩,
      ⟨(some 51),none,.app 22 1 24 (.tmp 48) (.tmp 50)⟩,
      ⟨(some 52),none,.fldA 1 (.tmp 4)⟩,
      ⟨none,none,.store 1 (.tmp 52) (.tmp 51)⟩] [0,2,4,5,6])
    (.seq (.ops [⟨(some 53),none,.mov (.tmp 6)⟩,
      ⟨(some 54),none,.len false (.tmp 53)⟩,
      ⟨(some 55),none,.bin .sub (.tmp 54) (.const (.int .i64 1))⟩,
      ⟨(some 56),none,.fldA 0 (.tmp 4)⟩,
      ⟨none,none,.store 1 (.tmp 56) (.tmp 55)⟩] [0,2,4,5])
    (.ops [⟨(some 57),none,.mov (.tmp 5)⟩,
      ⟨(some 58),none,.bin .add (.tmp 57) (.const (.int .i64 1))⟩,
      ⟨(some 5),none,.mov (.tmp 58)⟩] [0,2,4,5])))))))
def c28:AFun:=⟨
 .seq (.ops [⟨(some 2),none,.alloc 34 [(1,(.int .i64 0)),(1,(.slice none 0 0))]⟩,
   ⟨(some 3),none,.mov (.const (.int .i64 0))⟩] [0,2])
 (.seq (.ops [⟨(some 4),none,.alloc 34 [(1,(.int .i64 0)),(1,(.slice none 0 0))]⟩] [0,2,4])
 (.seq (.seq (.ops [⟨(some 5),none,.mov (.const (.int .i64 0))⟩] [0,2,4,5])
 (.block 0
  (.loop [0,2,4,5]
   c28l1)))
 (.seq (.seq (.ops [⟨(some 59),none,.load (some 2) (.tmp 4)⟩,
   ⟨(some 60),none,.callF 21 [(.tmp 59)]⟩,
   ⟨(some 61),none,.bin .neq (.tmp 60) (.const (.int .i64 0))⟩] [2,4,61])
 (.cond (.tmp 61)
  (.seq (.ops [⟨(some 62),none,.build [(.int .i64 0),(.slice none 0 0)] []⟩,
    ⟨none,none,.store 2 (.tmp 2) (.tmp 62)⟩,
    ⟨(some 3),none,.mov (.const (.int .i64 12))⟩] [2,3])
  (.ret))
  (.skip)))
 (.seq (.ops [⟨(some 63),none,.load (some 2) (.tmp 4)⟩,
   ⟨none,none,.store 2 (.tmp 2) (.tmp 63)⟩,
   ⟨(some 3),none,.mov (.const (.int .i64 0))⟩] [2,3])
 (.ret))))),
 64,[(2,(some (some 2))),(3,none)],true⟩
theorem ok28:FunOK Tryd.prog 28 c28:= .code ⟨Tryd.f28,_,c28.code,Tryd.func28,rfl,by kernel_rfl,rfl,by kernel_rfl,by kernel_rfl⟩
/- (*strings.Builder).WriteString -/
def c33:AFun:=⟨
 .seq (.ops [⟨(some 4),none,.mov (.const (.int .i64 0))⟩,
   ⟨(some 5),none,.mov (.const .nilIface)⟩] [0,1])
 (.seq (.ops [⟨(some 6),none,.mov (.tmp 0)⟩,
   ⟨(some 7),none,.callF 57 [(.tmp 6)]⟩] [0,1])
 (.seq (.ops [⟨(some 8),none,.mov (.tmp 0)⟩,
   ⟨(some 9),none,.mov (.tmp 0)⟩,
   ⟨(some 10),none,.nilChk (.tmp 9)⟩,
   ⟨(some 11),none,.fldA 1 (.tmp 10)⟩,
   ⟨(some 12),none,.load none (.tmp 11)⟩,
   ⟨(some 13),none,.mov (.tmp 1)⟩,
   ⟨(some 14),none,.app 5 1 1 (.tmp 12) (.tmp 13)⟩,
   ⟨(some 15),none,.nilChk (.tmp 8)⟩,
   ⟨(some 16),none,.fldA 1 (.tmp 15)⟩,
   ⟨none,none,.store 1 (.tmp 16) (.tmp 14)⟩] [1])
 (.seq (.ops [⟨(some 17),none,.mov (.tmp 1)⟩,
   ⟨(some 18),none,.len true (.tmp 17)⟩,
   ⟨(some 4),none,.mov (.tmp 18)⟩,
   ⟨(some 5),none,.mov (.const .nilIface)⟩] [4,5])
 (.ret)))),
 19,[(4,none),(5,none)],false⟩
theorem ok33:FunOK Tryd.prog 33 c33:= .code ⟨Tryd.f33,_,c33.code,Tryd.func33,rfl,by kernel_rfl,rfl,by kernel_rfl,by kernel_rfl⟩
/- (*strings.Builder).String -/
def c35:AFun:=⟨
 .seq (.ops [⟨(some 2),none,.mov (.const (.string ⟨#[]⟩))⟩] [0])
 (.seq (.draw [⟨(some 3),none,.mov (.tmp 0)⟩,
   ⟨(some 4),none,.nilChk (.tmp 3)⟩,
   ⟨(some 5),none,.fldA 1 (.tmp 4)⟩,
   ⟨(some 6),none,.load none (.tmp 5)⟩,
   ⟨(some 7),none,.sdata (.tmp 6)⟩,
   ⟨(some 8),none,.mov (.tmp 0)⟩,
   ⟨(some 9),none,.nilChk (.tmp 8)⟩,
   ⟨(some 10),none,.fldA 1 (.tmp 9)⟩,
   ⟨(some 11),none,.load none (.tmp 10)⟩,
   ⟨(some 12),none,.len false (.tmp 11)⟩] [⟨(some 13),none,.ustr 5 (.tmp 7) (.tmp 12)⟩,
   ⟨(some 2),none,.mov (.tmp 13)⟩] [[],[],[],[],[],[],[],[],[],[]] [2])
 (.ret)),
 14,[(2,none)],false⟩
theorem ok35:FunOK Tryd.prog 35 c35:= .code ⟨Tryd.f35,_,c35.code,Tryd.func35,rfl,by kernel_rfl,rfl,by kernel_rfl,by kernel_rfl⟩
/- raddle/raddleref02.Decimal -/
def c37l0:AC:=
 .seq (.seq (.ops [⟨(some 4),none,.mov (.tmp 0)⟩,
     ⟨(some 5),none,.bin .gtr (.tmp 4) (.const (.int .i64 9))⟩] [0,3,5])
   (.cond (.tmp 5)
    (.skip)
    (.exit 0)))
   (.block 1
    (.seq (.ops [⟨(some 6),none,.mov (.tmp 0)⟩,
      ⟨(some 7),none,.bin .rem (.tmp 6) (.const (.int .i64 10))⟩,
      ⟨(some 8),none,.bin .add (.const (.int .i64 48)) (.tmp 7)⟩,
      ⟨(some 9),none,.convI .u8 (.tmp 8)⟩,
      ⟨(some 10),none,.mkRow 5 1 1 [(.int .u8 0)] [(0,1,(.tmp 9))]⟩,
      ⟨(some 11),none,.b2s (.tmp 10)⟩,
      ⟨(some 12),none,.mov (.tmp 3)⟩,
      ⟨(some 13),none,.bin .add (.tmp 11) (.tmp 12)⟩,
      ⟨(some 3),none,.mov (.tmp 13)⟩] [0,3])
    (.ops [⟨(some 14),none,.mov (.tmp 0)⟩,
      ⟨(some 15),none,.bin .quo (.tmp 14) (.const (.int .i64 10))⟩,
      ⟨(some 0),none,.mov (.tmp 15)⟩] [0,3])))
def c37:AFun:=⟨
 .seq (.ops [⟨(some 2),none,.mov (.const (.string ⟨#[]⟩))⟩] [0])
 (.seq (.ops [⟨(some 3),none,.mov (.const (.string ⟨#[]⟩))⟩] [0,3])
 (.seq (.block 0
  (.loop [0,3]
   c37l0))
 (.seq (.ops [⟨(some 16),none,.mov (.tmp 0)⟩,
   ⟨(some 17),none,.bin .add (.const (.int .i64 48)) (.tmp 16)⟩,
   ⟨(some 18),none,.convI .u8 (.tmp 17)⟩,
   ⟨(some 19),none,.mkRow 5 1 1 [(.int .u8 0)] [(0,1,(.tmp 18))]⟩,
   ⟨(some 20),none,.b2s (.tmp 19)⟩,
   ⟨(some 21),none,.mov (.tmp 3)⟩,
   ⟨(some 22),none,.bin .add (.tmp 20) (.tmp 21)⟩,
   ⟨(some 2),none,.mov (.tmp 22)⟩] [2])
 (.ret)))),
 23,[(2,none)],true⟩
theorem ok37:FunOK Tryd.prog 37 c37:= .code ⟨Tryd.f37,_,c37.code,Tryd.func37,rfl,by kernel_rfl,rfl,by kernel_rfl,by kernel_rfl⟩
/- raddle/grid.Check -/
def c43:AFun:=⟨
 .seq (.ops [⟨(some 1),none,.box 24 (.tmp 0)⟩,
   ⟨(some 2),none,.mov (.const (.int .i64 0))⟩] [1])
 (.seq (.block 0
  (.seq (.ops [⟨(some 4),none,.fldA 0 (.tmp 1)⟩,
    ⟨(some 5),none,.load none (.tmp 4)⟩,
    ⟨(some 6),none,.fldA 1 (.tmp 1)⟩,
    ⟨(some 7),none,.load none (.tmp 6)⟩,
    ⟨(some 8),none,.mm true (.tmp 5) (.tmp 7)⟩,
    ⟨(some 9),none,.bin .gtr (.tmp 8) (.const (.int .i64 64))⟩,
    ⟨(some 3),none,.mov (.tmp 9)⟩] [1,3])
  (.cond (.tmp 3)
   (.seq (.ops [⟨(some 2),none,.mov (.const (.int .i64 4))⟩] [2])
   (.ret))
   (.seq (.ops [⟨(some 11),none,.fldA 0 (.tmp 1)⟩,
     ⟨(some 12),none,.load none (.tmp 11)⟩,
     ⟨(some 13),none,.fldA 1 (.tmp 1)⟩,
     ⟨(some 14),none,.load none (.tmp 13)⟩,
     ⟨(some 15),none,.mm false (.tmp 12) (.tmp 14)⟩,
     ⟨(some 16),none,.bin .lss (.tmp 15) (.const (.int .i64 1))⟩,
     ⟨(some 17),none,.mov (.tmp 16)⟩,
     ⟨(some 18),(some (17,false)),.fldA 2 (.tmp 1)⟩,
     ⟨(some 19),(some (17,false)),.load none (.tmp 18)⟩,
     ⟨(some 20),(some (17,false)),.len false (.tmp 19)⟩,
     ⟨(some 21),(some (17,false)),.fldA 0 (.tmp 1)⟩,
     ⟨(some 22),(some (17,false)),.load none (.tmp 21)⟩,
     ⟨(some 23),(some (17,false)),.fldA 1 (.tmp 1)⟩,
     ⟨(some 24),(some (17,false)),.load none (.tmp 23)⟩,
     ⟨(some 25),(some (17,false)),.bin .mul (.tmp 22) (.tmp 24)⟩,
     ⟨(some 26),(some (17,false)),.bin .neq (.tmp 20) (.tmp 25)⟩,
     ⟨(some 27),none,.pick (.tmp 17) (.const (.bool true)) (.tmp 26)⟩,
     ⟨(some 10),none,.mov (.tmp 27)⟩] [10])
   (.cond (.tmp 10)
    (.seq (.ops [⟨(some 2),none,.mov (.const (.int .i64 8))⟩] [2])
    (.ret))
    (.skip))))))
 (.seq (.ops [⟨(some 2),none,.mov (.const (.int .i64 0))⟩] [2])
 (.ret))),
 28,[(2,none)],true⟩
theorem ok43:FunOK Tryd.prog 43 c43:= .code ⟨Tryd.f43,_,c43.code,Tryd.func43,rfl,by kernel_rfl,rfl,by kernel_rfl,by kernel_rfl⟩
/- strings.CutSuffix -/
def c47:AFun:=⟨
 .seq (.ops [⟨(some 4),none,.mov (.const (.string ⟨#[]⟩))⟩,
   ⟨(some 5),none,.mov (.const (.bool false))⟩] [0,1])
 (.seq (.ops [⟨(some 6),none,.mov (.tmp 0)⟩,
   ⟨(some 7),none,.mov (.tmp 1)⟩,
   ⟨(some 8),none,.callF 59 [(.tmp 6),(.tmp 7)]⟩,
   ⟨(some 9),none,.ext (.tmp 8) 0⟩,
   ⟨(some 10),none,.ext (.tmp 8) 1⟩,
   ⟨(some 4),none,.mov (.tmp 9)⟩,
   ⟨(some 5),none,.mov (.tmp 10)⟩] [4,5])
 (.ret)),
 11,[(4,none),(5,none)],true⟩
theorem ok47:FunOK Tryd.prog 47 c47:= .code ⟨Tryd.f47,_,c47.code,Tryd.func47,rfl,by kernel_rfl,rfl,by kernel_rfl,by kernel_rfl⟩
/- strings.Split -/
def c48:AFun:=⟨
 .seq (.ops [⟨(some 4),none,.mov (.const (.slice none 0 0))⟩] [0,1])
 (.seq (.ops [⟨(some 5),none,.mov (.tmp 0)⟩,
   ⟨(some 6),none,.mov (.tmp 1)⟩,
   ⟨(some 7),none,.callF 60 [(.tmp 5),(.tmp 6),(.const (.int .i64 0)),(.const (.int .i64 (-1)))]⟩,
   ⟨(some 4),none,.mov (.tmp 7)⟩] [4])
 (.ret)),
 8,[(4,none)],true⟩
theorem ok48:FunOK Tryd.prog 48 c48:= .code ⟨Tryd.f48,_,c48.code,Tryd.func48,rfl,by kernel_rfl,rfl,by kernel_rfl,by kernel_rfl⟩
/- strings.SplitSeq -/
def c49:AFun:=⟨
 .seq (.ops [⟨(some 4),none,.mov (.const .nilFunc)⟩] [0,1])
 (.seq (.ops [⟨(some 5),none,.mov (.tmp 0)⟩,
   ⟨(some 6),none,.mov (.tmp 1)⟩,
   ⟨(some 7),none,.callF 61 [(.tmp 5),(.tmp 6),(.const (.int .i64 0))]⟩,
   ⟨(some 4),none,.mov (.tmp 7)⟩] [4])
 (.ret)),
 8,[(4,none)],true⟩
theorem ok49:FunOK Tryd.prog 49 c49:= .code ⟨Tryd.f49,_,c49.code,Tryd.func49,rfl,by kernel_rfl,rfl,by kernel_rfl,by kernel_rfl⟩
/- raddle/raddleref18.row -/
def c51l0:AC:=
 .seq (.seq (.ops [⟨(some 22),none,.mov (.tmp 9)⟩,
        ⟨(some 23),none,.mov (.tmp 0)⟩,
        ⟨(some 24),none,.len true (.tmp 23)⟩,
        ⟨(some 25),none,.bin .lss (.tmp 22) (.tmp 24)⟩,
        ⟨(some 26),none,.mov (.tmp 25)⟩,
        ⟨(some 27),(some (26,true)),.mov (.tmp 0)⟩,
        ⟨(some 28),(some (26,true)),.mov (.tmp 9)⟩,
        ⟨(some 29),(some (26,true)),.idxStr (.tmp 27) (.tmp 28)⟩,
        ⟨(some 30),(some (26,true)),.bin .neq (.tmp 29) (.const (.int .u8 32))⟩,
        ⟨(some 31),none,.pick (.tmp 26) (.tmp 30) (.const (.bool false))⟩] [0,1,6,7,8,9,31])
      (.cond (.tmp 31)
       (.skip)
       (.exit 2)))
      (.block 3
       (.ops [⟨(some 32),none,.mov (.tmp 9)⟩,
         ⟨(some 33),none,.bin .add (.tmp 32) (.const (.int .i64 1))⟩,
         ⟨(some 9),none,.mov (.tmp 33)⟩] [0,1,6,7,8,9]))
def c51l1:AC:=
 .seq (.seq (.ops [⟨(some 17),none,.mov (.tmp 8)⟩,
     ⟨(some 18),none,.mov (.tmp 0)⟩,
     ⟨(some 19),none,.len true (.tmp 18)⟩,
     ⟨(some 20),none,.bin .leq (.tmp 17) (.tmp 19)⟩] [0,1,6,7,8,20])
   (.cond (.tmp 20)
    (.skip)
    (.exit 0)))
   (.block 1
    (.seq (.ops [⟨(some 21),none,.mov (.tmp 8)⟩,
      ⟨(some 9),none,.mov (.tmp 21)⟩] [0,1,6,7,8,9])
    (.seq (.block 2
     (.loop [0,1,6,7,8,9]
      c51l0))
    (.seq (.ops [⟨(some 35),none,.mov (.tmp 0)⟩,
      ⟨(some 36),none,.mov (.tmp 8)⟩,
      ⟨(some 37),none,.mov (.tmp 9)⟩,
      ⟨(some 38),none,.slcS (.tmp 35) (some (.tmp 36)) (some (.tmp 37))⟩,
      ⟨(some 39),none,.callF 64 [(.tmp 38)]⟩,
      ⟨(some 34),none,.mov (.tmp 39)⟩,
      ⟨(some 40),none,.ext (.tmp 34) 0⟩,
      ⟨(some 41),none,.ext (.tmp 34) 1⟩,
      ⟨(some 10),none,.mov (.tmp 40)⟩,
      ⟨(some 11),none,.mov (.tmp 41)⟩] [0,1,6,7,9,10,11])
    (.seq (.seq (.ops [⟨(some 42),none,.mov (.tmp 11)⟩,
      ⟨(some 43),none,.un .not (.tmp 42)⟩,
      ⟨(some 44),none,.mov (.tmp 43)⟩,
      ⟨(some 45),(some (44,false)),.mov (.tmp 10)⟩,
      ⟨(some 46),(some (44,false)),.mov (.tmp 7)⟩,
      ⟨(some 47),(some (44,false)),.bin .leq (.tmp 45) (.tmp 46)⟩,
      ⟨(some 48),none,.pick (.tmp 44) (.const (.bool true)) (.tmp 47)⟩,
      ⟨(some 49),none,.mov (.tmp 48)⟩,
      ⟨(some 50),(some (49,false)),.mov (.tmp 10)⟩,
      ⟨(some 51),(some (49,false)),.mov (.tmp 1)⟩,
      ⟨(some 52),(some (49,false)),.bin .gtr (.tmp 50) (.tmp 51)⟩,
      ⟨(some 53),none,.pick (.tmp 49) (.const (.bool true)) (.tmp 52)⟩] [0,1,6,9,10,53])
    (.cond (.tmp 53)
     (.seq (.ops [⟨(some 4),none,.mov (.const (.slice none 0 0))⟩,
       ⟨(some 5),none,.mov (.const (.bool false))⟩] [4,5])
     (.ret))
     (.skip)))
    (.seq (.ops [⟨(some 54),none,.mov (.tmp 6)⟩,
      ⟨(some 55),none,.mov (.tmp 10)⟩,
      ⟨(some 56),none,.bin .sub (.tmp 55) (.const (.int .i64 1))⟩,
      ⟨(some 57),none,.idxS 1 (.tmp 54) (.tmp 56)⟩,
      ⟨none,none,.store 1 (.tmp 57) (.const (.bool true))⟩] [0,1,6,9,10])
    (.seq (.ops [⟨(some 58),none,.mov (.tmp 10)⟩,
      ⟨(some 7),none,.mov (.tmp 58)⟩] [0,1,6,7,9])
    (.ops [⟨(some 59),none,.mov (.tmp 9)⟩,
      ⟨(some 60),none,.bin .add (.tmp 59) (.const (.int .i64 1))⟩,
      ⟨(some 8),none,.mov (.tmp 60)⟩] [0,1,6,7,8]))))))))
def c51:AFun:=⟨
 .seq (.ops [⟨(some 4),none,.mov (.const (.slice none 0 0))⟩,
   ⟨(some 5),none,.mov (.const (.bool false))⟩] [0,1])
 (.seq (.ops [⟨(some 12),none,.mov (.tmp 1)⟩,
   ⟨(some 13),none,.mkSlice 4 1 1 [(.bool false)] (.tmp 12) (.tmp 12)⟩,
   ⟨(some 6),none,.mov (.tmp 13)⟩] [0,1,6])
 (.seq (.seq (.ops [⟨(some 14),none,.mov (.tmp 0)⟩,
   ⟨(some 15),none,.bin .eql (.tmp 14) (.const (.string ⟨#[45]⟩))⟩] [0,1,6,15])
 (.cond (.tmp 15)
  (.seq (.ops [⟨(some 16),none,.mov (.tmp 6)⟩,
    ⟨(some 4),none,.mov (.tmp 16)⟩,
    ⟨(some 5),none,.mov (.const (.bool true))⟩] [4,5])
  (.ret))
  (.skip)))
 (.seq (.ops [⟨(some 7),none,.mov (.const (.int .i64 0))⟩] [0,1,6,7])
 (.seq (.seq (.ops [⟨(some 8),none,.mov (.const (.int .i64 0))⟩] [0,1,6,7,8])
 (.block 0
  (.loop [0,1,6,7,8]
   c51l1)))
 (.seq (.ops [⟨(some 61),none,.mov (.tmp 6)⟩,
   ⟨(some 4),none,.mov (.tmp 61)⟩,
   ⟨(some 5),none,.mov (.const (.bool true))⟩] [4,5])
 (.ret)))))),
 62,[(4,none),(5,none)],true⟩
theorem ok51:FunOK Tryd.prog 51 c51:= .code ⟨Tryd.f51,_,c51.code,Tryd.func51,rfl,by kernel_rfl,rfl,by kernel_rfl,by kernel_rfl⟩
/- raddle/peg.valid -/
def c52:AFun:=⟨
 .seq (.ops [⟨(some 1),none,.box 34 (.tmp 0)⟩,
   ⟨(some 2),none,.mov (.const (.bool false))⟩] [1])
 (.seq (.seq (.ops [⟨(some 3),none,.fldA 0 (.tmp 1)⟩,
   ⟨(some 4),none,.load none (.tmp 3)⟩,
   ⟨(some 5),none,.bin .lss (.tmp 4) (.const (.int .i64 1))⟩,
   ⟨(some 6),none,.mov (.tmp 5)⟩,
   ⟨(some 7),(some (6,false)),.fldA 0 (.tmp 1)⟩,
   ⟨(some 8),(some (6,false)),.load none (.tmp 7)⟩,
   ⟨(some 9),(some (6,false)),.bin .gtr (.tmp 8) (.const (.int .i64 40))⟩,
   ⟨(some 10),none,.pick (.tmp 6) (.const (.bool true)) (.tmp 9)⟩,
   ⟨(some 11),none,.mov (.tmp 10)⟩,
   ⟨(some 12),(some (11,false)),.fldA 1 (.tmp 1)⟩,
   ⟨(some 13),(some (11,false)),.load none (.tmp 12)⟩,
   ⟨(some 14),(some (11,false)),.len false (.tmp 13)⟩,
   ⟨(some 15),(some (11,false)),.bin .lss (.tmp 14) (.const (.int .i64 2))⟩,
   ⟨(some 16),none,.pick (.tmp 11) (.const (.bool true)) (.tmp 15)⟩,
   ⟨(some 17),none,.mov (.tmp 16)⟩,
   ⟨(some 18),(some (17,false)),.fldA 1 (.tmp 1)⟩,
   ⟨(some 19),(some (17,false)),.load none (.tmp 18)⟩,
   ⟨(some 20),(some (17,false)),.len false (.tmp 19)⟩,
   ⟨(some 21),(some (17,false)),.bin .gtr (.tmp 20) (.const (.int .i64 65))⟩,
   ⟨(some 22),none,.pick (.tmp 17) (.const (.bool true)) (.tmp 21)⟩] [1,22])
 (.cond (.tmp 22)
  (.seq (.ops [⟨(some 2),none,.mov (.const (.bool false))⟩] [2])
  (.ret))
  (.skip)))
 (.seq (.ops [⟨(some 23),none,.fldA 1 (.tmp 1)⟩,
   ⟨(some 24),none,.load none (.tmp 23)⟩,
   ⟨(some 25),none,.mkFn 66 [] [(.tmp 1)]⟩,
   ⟨(some 26),none,.callF 65 [(.tmp 24),(.tmp 25)]⟩,
   ⟨(some 27),none,.un .not (.tmp 26)⟩,
   ⟨(some 2),none,.mov (.tmp 27)⟩] [2])
 (.ret))),
 28,[(2,none)],true⟩
theorem ok52:FunOK Tryd.prog 52 c52:= .code ⟨Tryd.f52,_,c52.code,Tryd.func52,rfl,by kernel_rfl,rfl,by kernel_rfl,by kernel_rfl⟩
/- (*strings.Builder).copyCheck (1 operations that the interpreter lacks) -/
def c57:AFun:=⟨
 .seq (.ops [⟨(some 2),none,.mov (.tmp 0)⟩,
   ⟨(some 3),none,.nilChk (.tmp 2)⟩,
   ⟨(some 4),none,.fldA 0 (.tmp 3)⟩,
   ⟨(some 5),none,.load none (.tmp 4)⟩,
   ⟨(some 6),none,.eqNil 0 false (.tmp 5) (.const (.pointer none))⟩] [0,6])
 (.cond (.tmp 6)
  (.ops [⟨(some 7),none,.mov (.tmp 0)⟩,
    ⟨(some 8),none,.mov (.tmp 0)⟩,
    ⟨(some 9),none,.toUns (.tmp 8)⟩,
    ⟨(some 10),none,.callF 68 [(.tmp 9)]⟩,
    ⟨(some 11),none,.fromUns 69 2 (.tmp 10)⟩,
    ⟨(some 12),none,.nilChk (.tmp 7)⟩,
    ⟨(some 13),none,.fldA 0 (.tmp 12)⟩,
    ⟨none,none,.store 1 (.tmp 13) (.tmp 11)⟩] [])
  (.seq (.ops [⟨(some 14),none,.mov (.tmp 0)⟩,
    ⟨(some 15),none,.nilChk (.tmp 14)⟩,
    ⟨(some 16),none,.fldA 0 (.tmp 15)⟩,
    ⟨(some 17),none,.load none (.tmp 16)⟩,
    ⟨(some 18),none,.mov (.tmp 0)⟩,
    ⟨(some 19),none,.eqPtr true (.tmp 17) (.tmp 18)⟩] [19])
  (.cond (.tmp 19)
   (.bad)
   (.skip)))),
 20,[],false⟩
theorem ok57:FunOK Tryd.prog 57 c57:= .code ⟨Tryd.f57,_,c57.code,Tryd.func57,rfl,by kernel_rfl,rfl,by kernel_rfl,by kernel_rfl⟩
/- internal/stringslite.CutSuffix -/
def c59:AFun:=⟨
 .seq (.ops [⟨(some 4),none,.mov (.const (.string ⟨#[]⟩))⟩,
   ⟨(some 5),none,.mov (.const (.bool false))⟩] [0,1])
 (.seq (.seq (.ops [⟨(some 6),none,.mov (.tmp 0)⟩,
   ⟨(some 7),none,.mov (.tmp 1)⟩,
   ⟨(some 8),none,.callF 70 [(.tmp 6),(.tmp 7)]⟩,
   ⟨(some 9),none,.un .not (.tmp 8)⟩] [0,1,9])
 (.cond (.tmp 9)
  (.seq (.ops [⟨(some 10),none,.mov (.tmp 0)⟩,
    ⟨(some 4),none,.mov (.tmp 10)⟩,
    ⟨(some 5),none,.mov (.const (.bool false))⟩] [4,5])
  (.ret))
  (.skip)))
 (.seq (.ops [⟨(some 11),none,.mov (.tmp 0)⟩,
   ⟨(some 12),none,.mov (.tmp 0)⟩,
   ⟨(some 13),none,.len true (.tmp 12)⟩,
   ⟨(some 14),none,.mov (.tmp 1)⟩,
   ⟨(some 15),none,.len true (.tmp 14)⟩,
   ⟨(some 16),none,.bin .sub (.tmp 13) (.tmp 15)⟩,
   ⟨(some 17),none,.slcS (.tmp 11) none (some (.tmp 16))⟩,
   ⟨(some 4),none,.mov (.tmp 17)⟩,
   ⟨(some 5),none,.mov (.const (.bool true))⟩] [4,5])
 (.ret))),
 18,[(4,none),(5,none)],true⟩
theorem ok59:FunOK Tryd.prog 59 c59:= .code ⟨Tryd.f59,_,c59.code,Tryd.func59,rfl,by kernel_rfl,rfl,by kernel_rfl,by kernel_rfl⟩
/- strings.genSplit -/
def c60l0:AC:=
 .seq (.seq (.ops [⟨(some 34),none,.mov (.tmp 10)⟩,
     ⟨(some 35),none,.mov (.tmp 3)⟩,
     ⟨(some 36),none,.bin .lss (.tmp 34) (.tmp 35)⟩] [0,1,2,3,9,10,36])
   (.cond (.tmp 36)
    (.skip)
    (.exit 0)))
   (.block 1
    (.seq (.ops [⟨(some 37),none,.mov (.tmp 0)⟩,
      ⟨(some 38),none,.mov (.tmp 1)⟩,
      ⟨(some 39),none,.callF 73 [(.tmp 37),(.tmp 38)]⟩,
      ⟨(some 11),none,.mov (.tmp 39)⟩] [0,1,2,3,9,10,11])
    (.seq (.seq (.ops [⟨(some 40),none,.mov (.tmp 11)⟩,
      ⟨(some 41),none,.bin .lss (.tmp 40) (.const (.int .i64 0))⟩] [0,1,2,3,9,10,11,41])
    (.cond (.tmp 41)
     (.exit 0)
     (.skip)))
    (.seq (.ops [⟨(some 42),none,.mov (.tmp 9)⟩,
      ⟨(some 43),none,.mov (.tmp 10)⟩,
      ⟨(some 44),none,.mov (.tmp 0)⟩,
      ⟨(some 45),none,.mov (.tmp 11)⟩,
      ⟨(some 46),none,.mov (.tmp 2)⟩,
      ⟨(some 47),none,.bin .add (.tmp 45) (.tmp 46)⟩,
      ⟨(some 48),none,.slcS (.tmp 44) none (some (.tmp 47))⟩,
      ⟨(some 49),none,.idxS 1 (.tmp 42) (.tmp 43)⟩,
      ⟨none,none,.store 1 (.tmp 49) (.tmp 48)⟩] [0,1,2,3,9,10,11])
    (.seq (.ops [⟨(some 50),none,.mov (.tmp 0)⟩,
      ⟨(some 51),none,.mov (.tmp 11)⟩,
      ⟨(some 52),none,.mov (.tmp 1)⟩,
      ⟨(some 53),none,.len true (.tmp 52)⟩,
      ⟨(some 54),none,.bin .add (.tmp 51) (.tmp 53)⟩,
      ⟨(some 55),none,.slcS (.tmp 50) (some (.tmp 54)) none⟩,
      ⟨(some 0),none,.mov (.tmp 55)⟩] [0,1,2,3,9,10])
    (.ops [⟨(some 56),none,.mov (.tmp 10)⟩,
      ⟨(some 57),none,.bin .add (.tmp 56) (.const (.int .i64 1))⟩,
      ⟨(some 10),none,.mov (.tmp 57)⟩] [0,1,2,3,9,10]))))))
def c60:AFun:=⟨
 .seq (.ops [⟨(some 8),none,.mov (.const (.slice none 0 0))⟩] [0,1,2,3])
 (.seq (.seq (.ops [⟨(some 12),none,.mov (.tmp 3)⟩,
   ⟨(some 13),none,.bin .eql (.tmp 12) (.const (.int .i64 0))⟩] [0,1,2,3,13])
 (.cond (.tmp 13)
  (.seq (.ops [⟨(some 8),none,.mov (.const (.slice none 0 0))⟩] [8])
  (.ret))
  (.skip)))
 (.seq (.seq (.ops [⟨(some 14),none,.mov (.tmp 1)⟩,
   ⟨(some 15),none,.bin .eql (.tmp 14) (.const (.string ⟨#[]⟩))⟩] [0,1,2,3,15])
 (.cond (.tmp 15)
  (.seq (.ops [⟨(some 16),none,.mov (.tmp 0)⟩,
    ⟨(some 17),none,.mov (.tmp 3)⟩,
    ⟨(some 18),none,.callF 71 [(.tmp 16),(.tmp 17)]⟩,
    ⟨(some 8),none,.mov (.tmp 18)⟩] [8])
  (.ret))
  (.skip)))
 (.seq (.seq (.ops [⟨(some 19),none,.mov (.tmp 3)⟩,
   ⟨(some 20),none,.bin .lss (.tmp 19) (.const (.int .i64 0))⟩] [0,1,2,3,20])
 (.cond (.tmp 20)
  (.ops [⟨(some 21),none,.mov (.tmp 0)⟩,
    ⟨(some 22),none,.mov (.tmp 1)⟩,
    ⟨(some 23),none,.callF 72 [(.tmp 21),(.tmp 22)]⟩,
    ⟨(some 24),none,.bin .add (.tmp 23) (.const (.int .i64 1))⟩,
    ⟨(some 3),none,.mov (.tmp 24)⟩] [0,1,2,3])
  (.skip)))
 (.seq (.ops [⟨(some 25),none,.mov (.tmp 3)⟩,
   ⟨(some 26),none,.mov (.tmp 0)⟩,
   ⟨(some 27),none,.len true (.tmp 26)⟩,
   ⟨(some 28),none,.bin .add (.tmp 27) (.const (.int .i64 1))⟩,
   ⟨(some 29),none,.mm false (.tmp 25) (.tmp 28)⟩,
   ⟨(some 3),none,.mov (.tmp 29)⟩] [0,1,2,3])
 (.seq (.ops [⟨(some 30),none,.mov (.tmp 3)⟩,
   ⟨(some 31),none,.mkSlice 9 1 16 [(.string ⟨#[]⟩)] (.tmp 30) (.tmp 30)⟩,
   ⟨(some 9),none,.mov (.tmp 31)⟩] [0,1,2,3,9])
 (.seq (.ops [⟨(some 32),none,.mov (.tmp 3)⟩,
   ⟨(some 33),none,.bin .sub (.tmp 32) (.const (.int .i64 1))⟩,
   ⟨(some 3),none,.mov (.tmp 33)⟩] [0,1,2,3,9])
 (.seq (.ops [⟨(some 10),none,.mov (.const (.int .i64 0))⟩] [0,1,2,3,9,10])
 (.seq (.block 0
  (.loop [0,1,2,3,9,10]
   c60l0))
 (.seq (.ops [⟨(some 58),none,.mov (.tmp 9)⟩,
   ⟨(some 59),none,.mov (.tmp 10)⟩,
   ⟨(some 60),none,.mov (.tmp 0)⟩,
   ⟨(some 61),none,.idxS 1 (.tmp 58) (.tmp 59)⟩,
   ⟨none,none,.store 1 (.tmp 61) (.tmp 60)⟩] [9,10])
 (.seq (.ops [⟨(some 62),none,.mov (.tmp 9)⟩,
   ⟨(some 63),none,.mov (.tmp 10)⟩,
   ⟨(some 64),none,.bin .add (.tmp 63) (.const (.int .i64 1))⟩,
   ⟨(some 65),none,.slc 1 (.tmp 62) none (some (.tmp 64)) none⟩,
   ⟨(some 8),none,.mov (.tmp 65)⟩] [8])
 (.ret))))))))))),
 66,[(8,none)],true⟩
theorem ok60:FunOK Tryd.prog 60 c60:= .code ⟨Tryd.f60,_,c60.code,Tryd.func60,rfl,by kernel_rfl,rfl,by kernel_rfl,by kernel_rfl⟩
/- strings.splitSeq -/
def c61:AFun:=⟨
 .seq (.ops [⟨(some 3),none,.box 9 (.tmp 0)⟩,
   ⟨(some 4),none,.box 9 (.tmp 1)⟩,
   ⟨(some 5),none,.box 3 (.tmp 2)⟩,
   ⟨(some 6),none,.mov (.const .nilFunc)⟩] [3,4,5])
 (.seq (.ops [⟨(some 7),none,.mkFn 74 [] [(.tmp 4),(.tmp 3),(.tmp 5)]⟩,
   ⟨(some 6),none,.mov (.tmp 7)⟩] [6])
 (.ret)),
 8,[(6,none)],true⟩
theorem ok61:FunOK Tryd.prog 61 c61:= .code ⟨Tryd.f61,_,c61.code,Tryd.func61,rfl,by kernel_rfl,rfl,by kernel_rfl,by kernel_rfl⟩
/- raddle/raddleref18.Number -/
def c64l0:AC:=
 .seq (.seq (.ops [⟨(some 6),none,.mov (.tmp 5)⟩,
     ⟨(some 7),none,.mov (.tmp 0)⟩,
     ⟨(some 8),none,.len true (.tmp 7)⟩,
     ⟨(some 9),none,.bin .lss (.tmp 6) (.tmp 8)⟩] [0,4,5,9])
   (.cond (.tmp 9)
    (.skip)
    (.exit 0)))
   (.seq (.block 1
    (.seq (.seq (.ops [⟨(some 12),none,.mov (.tmp 0)⟩,
      ⟨(some 13),none,.mov (.tmp 5)⟩,
      ⟨(some 14),none,.idxStr (.tmp 12) (.tmp 13)⟩,
      ⟨(some 15),none,.bin .lss (.tmp 14) (.const (.int .u8 48))⟩,
      ⟨(some 16),none,.mov (.tmp 15)⟩,
      ⟨(some 17),(some (16,false)),.mov (.tmp 0)⟩,
      ⟨(some 18),(some (16,false)),.mov (.tmp 5)⟩,
      ⟨(some 19),(some (16,false)),.idxStr (.tmp 17) (.tmp 18)⟩,
      ⟨(some 20),(some (16,false)),.bin .gtr (.tmp 19) (.const (.int .u8 57))⟩,
      ⟨(some 21),none,.pick (.tmp 16) (.const (.bool true)) (.tmp 20)⟩,
      ⟨(some 22),none,.mov (.tmp 21)⟩,
      ⟨(some 23),(some (22,false)),.mov (.tmp 5)⟩,
      ⟨(some 24),(some (22,false)),.bin .gtr (.tmp 23) (.const (.int .i64 8))⟩,
      ⟨(some 25),none,.pick (.tmp 22) (.const (.bool true)) (.tmp 24)⟩] [0,4,5,25])
    (.cond (.tmp 25)
     (.seq (.ops [⟨(some 2),none,.mov (.const (.int .i64 0))⟩,
       ⟨(some 3),none,.mov (.const (.bool false))⟩] [2,3])
     (.ret))
     (.skip)))
    (.ops [⟨(some 26),none,.mov (.tmp 4)⟩,
      ⟨(some 27),none,.bin .mul (.const (.int .i64 10)) (.tmp 26)⟩,
      ⟨(some 28),none,.mov (.tmp 0)⟩,
      ⟨(some 29),none,.mov (.tmp 5)⟩,
      ⟨(some 30),none,.idxStr (.tmp 28) (.tmp 29)⟩,
      ⟨(some 31),none,.bin .sub (.tmp 30) (.const (.int .u8 48))⟩,
      ⟨(some 32),none,.convI .i64 (.tmp 31)⟩,
      ⟨(some 33),none,.bin .add (.tmp 27) (.tmp 32)⟩,
      ⟨(some 4),none,.mov (.tmp 33)⟩] [0,4,5])))
   (.ops [⟨(some 10),none,.mov (.tmp 5)⟩,
     ⟨(some 11),none,.bin .add (.tmp 10) (.const (.int .i64 1))⟩,
     ⟨(some 5),none,.mov (.tmp 11)⟩] [0,4,5]))
def c64:AFun:=⟨
 .seq (.ops [⟨(some 2),none,.mov (.const (.int .i64 0))⟩,
   ⟨(some 3),none,.mov (.const (.bool false))⟩] [0])
 (.seq (.ops [⟨(some 4),none,.mov (.const (.int .i64 0))⟩] [0,4])
 (.seq (.seq (.ops [⟨(some 5),none,.mov (.const (.int .i64 0))⟩] [0,4,5])
 (.block 0
  (.loop [0,4,5]
   c64l0)))
 (.seq (.ops [⟨(some 34),none,.mov (.tmp 4)⟩,
   ⟨(some 35),none,.mov (.tmp 0)⟩,
   ⟨(some 36),none,.len true (.tmp 35)⟩,
   ⟨(some 37),none,.bin .gtr (.tmp 36) (.const (.int .i64 0))⟩,
   ⟨(some 38),none,.mov (.tmp 37)⟩,
   ⟨(some 39),(some (38,true)),.mov (.tmp 4)⟩,
   ⟨(some 40),(some (38,true)),.callF 37 [(.tmp 39)]⟩,
   ⟨(some 41),(some (38,true)),.mov (.tmp 0)⟩,
   ⟨(some 42),(some (38,true)),.bin .eql (.tmp 40) (.tmp 41)⟩,
   ⟨(some 43),none,.pick (.tmp 38) (.tmp 42) (.const (.bool false))⟩,
   ⟨(some 2),none,.mov (.tmp 34)⟩,
   ⟨(some 3),none,.mov (.tmp 43)⟩] [2,3])
 (.ret)))),
 44,[(2,none),(3,none)],true⟩
theorem ok64:FunOK Tryd.prog 64 c64:= .code ⟨Tryd.f64,_,c64.code,Tryd.func64,rfl,by kernel_rfl,rfl,by kernel_rfl,by kernel_rfl⟩
/- slices.ContainsFunc[[][]bool,[]bool] -/
def c65:AFun:=⟨
 .seq (.ops [⟨(some 4),none,.mov (.const (.bool false))⟩] [0,1])
 (.seq (.ops [⟨(some 5),none,.mov (.tmp 0)⟩,
   ⟨(some 6),none,.mov (.tmp 1)⟩,
   ⟨(some 7),none,.callF 81 [(.tmp 5),(.tmp 6)]⟩,
   ⟨(some 8),none,.bin .geq (.tmp 7) (.const (.int .i64 0))⟩,
   ⟨(some 4),none,.mov (.tmp 8)⟩] [4])
 (.ret)),
 9,[(4,none)],true⟩
theorem ok65:FunOK Tryd.prog 65 c65:= .code ⟨Tryd.f65,_,c65.code,Tryd.func65,rfl,by kernel_rfl,rfl,by kernel_rfl,by kernel_rfl⟩
/- raddle/peg.valid$1 -/
def c66:AFun:=⟨
 .seq (.ops [⟨(some 3),none,.mov (.const (.bool false))⟩] [0,1])
 (.seq (.ops [⟨(some 4),none,.mov (.tmp 0)⟩,
   ⟨(some 5),none,.len false (.tmp 4)⟩,
   ⟨(some 6),none,.fldA 0 (.tmp 1)⟩,
   ⟨(some 7),none,.load none (.tmp 6)⟩,
   ⟨(some 8),none,.bin .add (.tmp 7) (.const (.int .i64 1))⟩,
   ⟨(some 9),none,.bin .neq (.tmp 5) (.tmp 8)⟩,
   ⟨(some 3),none,.mov (.tmp 9)⟩] [3])
 (.ret)),
 10,[(3,none)],true⟩
theorem ok66:FunOK Tryd.prog 66 c66:= .code ⟨Tryd.f66,_,c66.code,Tryd.func66,rfl,by kernel_rfl,rfl,by kernel_rfl,by kernel_rfl⟩
/- internal/stringslite.HasSuffix -/
def c70:AFun:=⟨
 .seq (.ops [⟨(some 4),none,.mov (.const (.bool false))⟩] [0,1])
 (.seq (.ops [⟨(some 5),none,.mov (.tmp 0)⟩,
   ⟨(some 6),none,.len true (.tmp 5)⟩,
   ⟨(some 7),none,.mov (.tmp 1)⟩,
   ⟨(some 8),none,.len true (.tmp 7)⟩,
   ⟨(some 9),none,.bin .geq (.tmp 6) (.tmp 8)⟩,
   ⟨(some 10),none,.mov (.tmp 9)⟩,
   ⟨(some 11),(some (10,true)),.mov (.tmp 0)⟩,
   ⟨(some 12),(some (10,true)),.mov (.tmp 0)⟩,
   ⟨(some 13),(some (10,true)),.len true (.tmp 12)⟩,
   ⟨(some 14),(some (10,true)),.mov (.tmp 1)⟩,
   ⟨(some 15),(some (10,true)),.len true (.tmp 14)⟩,
   ⟨(some 16),(some (10,true)),.bin .sub (.tmp 13) (.tmp 15)⟩,
   ⟨(some 17),(some (10,true)),.slcS (.tmp 11) (some (.tmp 16)) none⟩,
   ⟨(some 18),(some (10,true)),.mov (.tmp 1)⟩,
   ⟨(some 19),(some (10,true)),.bin .eql (.tmp 17) (.tmp 18)⟩,
   ⟨(some 20),none,.pick (.tmp 10) (.tmp 19) (.const (.bool false))⟩,
   ⟨(some 4),none,.mov (.tmp 20)⟩] [4])
 (.ret)),
 21,[(4,none)],true⟩
theorem ok70:FunOK Tryd.prog 70 c70:= .code ⟨Tryd.f70,_,c70.code,Tryd.func70,rfl,by kernel_rfl,rfl,by kernel_rfl,by kernel_rfl⟩
/- strings.explode -/
def c71l0:AC:=
 .seq (.seq (.ops [⟨(some 22),none,.mov (.tmp 7)⟩,
     ⟨(some 23),none,.mov (.tmp 1)⟩,
     ⟨(some 24),none,.bin .sub (.tmp 23) (.const (.int .i64 1))⟩,
     ⟨(some 25),none,.bin .lss (.tmp 22) (.tmp 24)⟩] [0,1,6,7,25])
   (.cond (.tmp 25)
    (.skip)
    (.exit 0)))
   (.seq (.block 1
    (.seq (.ops [⟨(some 29),none,.mov (.tmp 0)⟩,
      ⟨(some 30),none,.callF 75 [(.tmp 29)]⟩,
      ⟨(some 28),none,.mov (.tmp 30)⟩,
      ⟨(some 31),none,.ext (.tmp 28) 0⟩,
      ⟨(some 32),none,.ext (.tmp 28) 1⟩,
      ⟨(some 8),none,.mov (.tmp 31)⟩,
      ⟨(some 9),none,.mov (.tmp 32)⟩] [0,1,6,7,9])
    (.seq (.ops [⟨(some 33),none,.mov (.tmp 6)⟩,
      ⟨(some 34),none,.mov (.tmp 7)⟩,
      ⟨(some 35),none,.mov (.tmp 0)⟩,
      ⟨(some 36),none,.mov (.tmp 9)⟩,
      ⟨(some 37),none,.slcS (.tmp 35) none (some (.tmp 36))⟩,
      ⟨(some 38),none,.idxS 1 (.tmp 33) (.tmp 34)⟩,
      ⟨none,none,.store 1 (.tmp 38) (.tmp 37)⟩] [0,1,6,7,9])
    (.ops [⟨(some 39),none,.mov (.tmp 0)⟩,
      ⟨(some 40),none,.mov (.tmp 9)⟩,
      ⟨(some 41),none,.slcS (.tmp 39) (some (.tmp 40)) none⟩,
      ⟨(some 0),none,.mov (.tmp 41)⟩] [0,1,6,7]))))
   (.ops [⟨(some 26),none,.mov (.tmp 7)⟩,
     ⟨(some 27),none,.bin .add (.tmp 26) (.const (.int .i64 1))⟩,
     ⟨(some 7),none,.mov (.tmp 27)⟩] [0,1,6,7]))
def c71:AFun:=⟨
 .seq (.ops [⟨(some 4),none,.mov (.const (.slice none 0 0))⟩] [0,1])
 (.seq (.ops [⟨(some 10),none,.mov (.tmp 0)⟩,
   ⟨(some 11),none,.callF 87 [(.tmp 10)]⟩,
   ⟨(some 5),none,.mov (.tmp 11)⟩] [0,1,5])
 (.seq (.seq (.ops [⟨(some 12),none,.mov (.tmp 1)⟩,
   ⟨(some 13),none,.bin .lss (.tmp 12) (.const (.int .i64 0))⟩,
   ⟨(some 14),none,.mov (.tmp 13)⟩,
   ⟨(some 15),(some (14,false)),.mov (.tmp 1)⟩,
   ⟨(some 16),(some (14,false)),.mov (.tmp 5)⟩,
   ⟨(some 17),(some (14,false)),.bin .gtr (.tmp 15) (.tmp 16)⟩,
   ⟨(some 18),none,.pick (.tmp 14) (.const (.bool true)) (.tmp 17)⟩] [0,1,5,18])
 (.cond (.tmp 18)
  (.ops [⟨(some 19),none,.mov (.tmp 5)⟩,
    ⟨(some 1),none,.mov (.tmp 19)⟩] [0,1])
  (.skip)))
 (.seq (.ops [⟨(some 20),none,.mov (.tmp 1)⟩,
   ⟨(some 21),none,.mkSlice 9 1 16 [(.string ⟨#[]⟩)] (.tmp 20) (.tmp 20)⟩,
   ⟨(some 6),none,.mov (.tmp 21)⟩] [0,1,6])
 (.seq (.seq (.ops [⟨(some 7),none,.mov (.const (.int .i64 0))⟩] [0,1,6,7])
 (.block 0
  (.loop [0,1,6,7]
   c71l0)))
 (.seq (.seq (.ops [⟨(some 42),none,.mov (.tmp 1)⟩,
   ⟨(some 43),none,.bin .gtr (.tmp 42) (.const (.int .i64 0))⟩] [0,1,6,43])
 (.cond (.tmp 43)
  (.ops [⟨(some 44),none,.mov (.tmp 6)⟩,
    ⟨(some 45),none,.mov (.tmp 1)⟩,
    ⟨(some 46),none,.bin .sub (.tmp 45) (.const (.int .i64 1))⟩,
    ⟨(some 47),none,.mov (.tmp 0)⟩,
    ⟨(some 48),none,.idxS 1 (.tmp 44) (.tmp 46)⟩,
    ⟨none,none,.store 1 (.tmp 48) (.tmp 47)⟩] [6])
  (.skip)))
 (.seq (.ops [⟨(some 49),none,.mov (.tmp 6)⟩,
   ⟨(some 4),none,.mov (.tmp 49)⟩] [4])
 (.ret))))))),
 50,[(4,none)],true⟩
theorem ok71:FunOK Tryd.prog 71 c71:= .code ⟨Tryd.f71,_,c71.code,Tryd.func71,rfl,by kernel_rfl,rfl,by kernel_rfl,by kernel_rfl⟩
/- strings.Count -/
def c72l0:AC:=
 .block 1
    (.seq (.ops [⟨(some 20),none,.mov (.tmp 0)⟩,
      ⟨(some 21),none,.mov (.tmp 1)⟩,
      ⟨(some 22),none,.callF 73 [(.tmp 20),(.tmp 21)]⟩,
      ⟨(some 6),none,.mov (.tmp 22)⟩] [0,1,5,6])
    (.seq (.seq (.ops [⟨(some 23),none,.mov (.tmp 6)⟩,
      ⟨(some 24),none,.bin .eql (.tmp 23) (.const (.int .i64 (-1)))⟩] [0,1,5,6,24])
    (.cond (.tmp 24)
     (.seq (.ops [⟨(some 25),none,.mov (.tmp 5)⟩,
       ⟨(some 4),none,.mov (.tmp 25)⟩] [4])
     (.ret))
     (.skip)))
    (.seq (.ops [⟨(some 26),none,.mov (.tmp 5)⟩,
      ⟨(some 27),none,.bin .add (.tmp 26) (.const (.int .i64 1))⟩,
      ⟨(some 5),none,.mov (.tmp 27)⟩] [0,1,5,6])
    (.ops [⟨(some 28),none,.mov (.tmp 0)⟩,
      ⟨(some 29),none,.mov (.tmp 6)⟩,
      ⟨(some 30),none,.mov (.tmp 1)⟩,
      ⟨(some 31),none,.len true (.tmp 30)⟩,
      ⟨(some 32),none,.bin .add (.tmp 29) (.tmp 31)⟩,
      ⟨(some 33),none,.slcS (.tmp 28) (some (.tmp 32)) none⟩,
      ⟨(some 0),none,.mov (.tmp 33)⟩] [0,1,5]))))
def c72:AFun:=⟨
 .seq (.ops [⟨(some 4),none,.mov (.const (.int .i64 0))⟩] [0,1])
 (.seq (.seq (.ops [⟨(some 7),none,.mov (.tmp 1)⟩,
   ⟨(some 8),none,.len true (.tmp 7)⟩,
   ⟨(some 9),none,.bin .eql (.tmp 8) (.const (.int .i64 0))⟩] [0,1,9])
 (.cond (.tmp 9)
  (.seq (.ops [⟨(some 10),none,.mov (.tmp 0)⟩,
    ⟨(some 11),none,.callF 87 [(.tmp 10)]⟩,
    ⟨(some 12),none,.bin .add (.tmp 11) (.const (.int .i64 1))⟩,
    ⟨(some 4),none,.mov (.tmp 12)⟩] [4])
  (.ret))
  (.skip)))
 (.seq (.seq (.ops [⟨(some 13),none,.mov (.tmp 1)⟩,
   ⟨(some 14),none,.len true (.tmp 13)⟩,
   ⟨(some 15),none,.bin .eql (.tmp 14) (.const (.int .i64 1))⟩] [0,1,15])
 (.cond (.tmp 15)
  (.seq (.ops [⟨(some 16),none,.mov (.tmp 0)⟩,
    ⟨(some 17),none,.mov (.tmp 1)⟩,
    ⟨(some 18),none,.idxStr (.tmp 17) (.const (.int .i64 0))⟩,
    ⟨(some 19),none,.callF 88 [(.tmp 16),(.tmp 18)]⟩,
    ⟨(some 4),none,.mov (.tmp 19)⟩] [4])
  (.ret))
  (.skip)))
 (.seq (.ops [⟨(some 5),none,.mov (.const (.int .i64 0))⟩] [0,1,5])
 (.block 0
  (.loop [0,1,5]
   c72l0))))),
 34,[(4,none)],true⟩
theorem ok72:FunOK Tryd.prog 72 c72:= .code ⟨Tryd.f72,_,c72.code,Tryd.func72,rfl,by kernel_rfl,rfl,by kernel_rfl,by kernel_rfl⟩
/- strings.Index -/
def c73:AFun:=⟨
 .seq (.ops [⟨(some 4),none,.mov (.const (.int .i64 0))⟩] [0,1])
 (.seq (.ops [⟨(some 5),none,.mov (.tmp 0)⟩,
   ⟨(some 6),none,.mov (.tmp 1)⟩,
   ⟨(some 7),none,.callF 89 [(.tmp 5),(.tmp 6)]⟩,
   ⟨(some 4),none,.mov (.tmp 7)⟩] [4])
 (.ret)),
 8,[(4,none)],true⟩
theorem ok73:FunOK Tryd.prog 73 c73:= .code ⟨Tryd.f73,_,c73.code,Tryd.func73,rfl,by kernel_rfl,rfl,by kernel_rfl,by kernel_rfl⟩
/- strings.splitSeq$1 -/
def c74l0:AC:=
 .block 3
    (.seq (.ops [⟨(some 29),none,.load none (.tmp 2)⟩,
      ⟨(some 30),none,.load none (.tmp 1)⟩,
      ⟨(some 31),none,.callF 73 [(.tmp 29),(.tmp 30)]⟩,
      ⟨(some 7),none,.mov (.tmp 31)⟩] [0,1,2,3,7])
    (.seq (.seq (.ops [⟨(some 32),none,.mov (.tmp 7)⟩,
      ⟨(some 33),none,.bin .lss (.tmp 32) (.const (.int .i64 0))⟩] [0,1,2,3,7,33])
    (.cond (.tmp 33)
     (.exit 2)
     (.skip)))
    (.seq (.ops [⟨(some 34),none,.load none (.tmp 2)⟩,
      ⟨(some 35),none,.mov (.tmp 7)⟩,
      ⟨(some 36),none,.load none (.tmp 3)⟩,
      ⟨(some 37),none,.bin .add (.tmp 35) (.tmp 36)⟩,
      ⟨(some 38),none,.slcS (.tmp 34) none (some (.tmp 37))⟩,
      ⟨(some 8),none,.mov (.tmp 38)⟩] [0,1,2,3,7,8])
    (.seq (.seq (.ops [⟨(some 39),none,.mov (.tmp 0)⟩,
      ⟨(some 40),none,.mov (.tmp 8)⟩,
      ⟨(some 41),none,.callV (.tmp 39) [(.tmp 40)]⟩,
      ⟨(some 42),none,.un .not (.tmp 41)⟩] [0,1,2,3,7,42])
    (.cond (.tmp 42)
     (.ret)
     (.skip)))
    (.ops [⟨(some 43),none,.load none (.tmp 2)⟩,
      ⟨(some 44),none,.mov (.tmp 7)⟩,
      ⟨(some 45),none,.load none (.tmp 1)⟩,
      ⟨(some 46),none,.len true (.tmp 45)⟩,
      ⟨(some 47),none,.bin .add (.tmp 44) (.tmp 46)⟩,
      ⟨(some 48),none,.slcS (.tmp 43) (some (.tmp 47)) none⟩,
      ⟨none,none,.store 1 (.tmp 2) (.tmp 48)⟩] [0,1,2,3])))))
def c74l1:AC:=
 .seq (.seq (.ops [⟨(some 12),none,.load none (.tmp 2)⟩,
      ⟨(some 13),none,.len true (.tmp 12)⟩,
      ⟨(some 14),none,.bin .gtr (.tmp 13) (.const (.int .i64 0))⟩] [0,2,14])
    (.cond (.tmp 14)
     (.skip)
     (.exit 0)))
    (.block 1
     (.seq (.ops [⟨(some 16),none,.load none (.tmp 2)⟩,
       ⟨(some 17),none,.callF 75 [(.tmp 16)]⟩,
       ⟨(some 15),none,.mov (.tmp 17)⟩,
       ⟨(some 18),none,.ext (.tmp 15) 0⟩,
       ⟨(some 19),none,.ext (.tmp 15) 1⟩,
       ⟨(some 5),none,.mov (.tmp 18)⟩,
       ⟨(some 6),none,.mov (.tmp 19)⟩] [0,2,6])
     (.seq (.seq (.ops [⟨(some 20),none,.mov (.tmp 0)⟩,
       ⟨(some 21),none,.load none (.tmp 2)⟩,
       ⟨(some 22),none,.mov (.tmp 6)⟩,
       ⟨(some 23),none,.slcS (.tmp 21) none (some (.tmp 22))⟩,
       ⟨(some 24),none,.callV (.tmp 20) [(.tmp 23)]⟩,
       ⟨(some 25),none,.un .not (.tmp 24)⟩] [0,2,6,25])
     (.cond (.tmp 25)
      (.ret)
      (.skip)))
     (.ops [⟨(some 26),none,.load none (.tmp 2)⟩,
       ⟨(some 27),none,.mov (.tmp 6)⟩,
       ⟨(some 28),none,.slcS (.tmp 26) (some (.tmp 27)) none⟩,
       ⟨none,none,.store 1 (.tmp 2) (.tmp 28)⟩] [0,2]))))
def c74:AFun:=⟨
 .seq (.seq (.ops [⟨(some 9),none,.load none (.tmp 1)⟩,
   ⟨(some 10),none,.len true (.tmp 9)⟩,
   ⟨(some 11),none,.bin .eql (.tmp 10) (.const (.int .i64 0))⟩] [0,1,2,3,11])
 (.cond (.tmp 11)
  (.seq (.block 0
   (.loop [0,2]
    c74l1))
  (.ret))
  (.skip)))
 (.seq (.block 2
  (.loop [0,1,2,3]
   c74l0))
 (.ops [⟨(some 49),none,.mov (.tmp 0)⟩,
   ⟨(some 50),none,.load none (.tmp 2)⟩,
   ⟨(some 51),none,.callV (.tmp 49) [(.tmp 50)]⟩] [])),
 52,[],false⟩
theorem ok74:FunOK Tryd.prog 74 c74:= .code ⟨Tryd.f74,_,c74.code,Tryd.func74,rfl,by kernel_rfl,rfl,by kernel_rfl,by kernel_rfl⟩
/- unicode/utf8.DecodeRuneInString -/
def c75:AFun:=⟨
 .seq (.ops [⟨(some 2),none,.mov (.const (.int .i32 0))⟩,
   ⟨(some 3),none,.mov (.const (.int .i64 0))⟩] [0])
 (.seq (.seq (.ops [⟨(some 4),none,.mov (.tmp 0)⟩,
   ⟨(some 5),none,.bin .neq (.tmp 4) (.const (.string ⟨#[]⟩))⟩,
   ⟨(some 6),none,.mov (.tmp 5)⟩,
   ⟨(some 7),(some (6,true)),.mov (.tmp 0)⟩,
   ⟨(some 8),(some (6,true)),.idxStr (.tmp 7) (.const (.int .i64 0))⟩,
   ⟨(some 9),(some (6,true)),.bin .lss (.tmp 8) (.const (.int .u8 128))⟩,
   ⟨(some 10),none,.pick (.tmp 6) (.tmp 9) (.const (.bool false))⟩] [0,10])
 (.cond (.tmp 10)
  (.seq (.ops [⟨(some 11),none,.mov (.tmp 0)⟩,
    ⟨(some 12),none,.idxStr (.tmp 11) (.const (.int .i64 0))⟩,
    ⟨(some 13),none,.convI .i32 (.tmp 12)⟩,
    ⟨(some 2),none,.mov (.tmp 13)⟩,
    ⟨(some 3),none,.mov (.const (.int .i64 1))⟩] [2,3])
  (.ret))
  (.ops [⟨(some 15),none,.mov (.tmp 0)⟩,
    ⟨(some 16),none,.callF 90 [(.tmp 15)]⟩,
    ⟨(some 14),none,.mov (.tmp 16)⟩,
    ⟨(some 17),none,.ext (.tmp 14) 0⟩,
    ⟨(some 18),none,.ext (.tmp 14) 1⟩,
    ⟨(some 2),none,.mov (.tmp 17)⟩,
    ⟨(some 3),none,.mov (.tmp 18)⟩] [2,3])))
 (.ret)),
 19,[(2,none),(3,none)],true⟩
theorem ok75:FunOK Tryd.prog 75 c75:= .code ⟨Tryd.f75,_,c75.code,Tryd.func75,rfl,by kernel_rfl,rfl,by kernel_rfl,by kernel_rfl⟩
/- slices.IndexFunc[[][]bool,[]bool] -/
def c81l0:AC:=
 .seq (.ops [⟨(some 9),none,.bin .lss (.tmp 8) (.tmp 7)⟩] [0,1,7,8,9])
   (.seq (.cond (.tmp 9)
    (.skip)
    (.exit 0))
   (.seq (.block 1
    (.seq (.ops [⟨(some 10),none,.mov (.tmp 8)⟩,
      ⟨(some 5),none,.mov (.tmp 10)⟩] [0,1,5,7,8])
    (.seq (.ops [⟨(some 11),none,.mov (.tmp 1)⟩,
      ⟨(some 12),none,.mov (.tmp 0)⟩,
      ⟨(some 13),none,.mov (.tmp 5)⟩,
      ⟨(some 14),none,.idxS 1 (.tmp 12) (.tmp 13)⟩,
      ⟨(some 15),none,.load none (.tmp 14)⟩,
      ⟨(some 16),none,.callV (.tmp 11) [(.tmp 15)]⟩] [0,1,5,7,8,16])
    (.cond (.tmp 16)
     (.seq (.ops [⟨(some 17),none,.mov (.tmp 5)⟩,
       ⟨(some 4),none,.mov (.tmp 17)⟩] [4])
     (.ret))
     (.skip)))))
   (.ops [⟨(some 18),none,.bin .add (.tmp 8) (.const (.int .i64 1))⟩,
     ⟨(some 8),none,.mov (.tmp 18)⟩] [0,1,7,8])))
def c81:AFun:=⟨
 .seq (.ops [⟨(some 4),none,.mov (.const (.int .i64 0))⟩] [0,1])
 (.seq (.seq (.ops [⟨(some 6),none,.mov (.tmp 0)⟩,
   ⟨(some 7),none,.len false (.tmp 6)⟩,
   ⟨(some 8),none,.mov (.const (.int .i64 0))⟩] [0,1,7,8])
 (.block 0
  (.loop [0,1,7,8]
   c81l0)))
 (.seq (.ops [⟨(some 4),none,.mov (.const (.int .i64 (-1)))⟩] [4])
 (.ret))),
 19,[(4,none)],true⟩
theorem ok81:FunOK Tryd.prog 81 c81:= .code ⟨Tryd.f81,_,c81.code,Tryd.func81,rfl,by kernel_rfl,rfl,by kernel_rfl,by kernel_rfl⟩
/- unicode/utf8.RuneCountInString -/
def c87l0:AC:=
 .seq (.ops [⟨(some 5),none,.nextS (.tmp 4)⟩,
     ⟨(some 6),none,.ext (.tmp 5) 0⟩] [2,4,6])
   (.seq (.cond (.tmp 6)
    (.skip)
    (.exit 0))
   (.block 1
    (.ops [⟨(some 7),none,.mov (.tmp 2)⟩,
      ⟨(some 8),none,.bin .add (.tmp 7) (.const (.int .i64 1))⟩,
      ⟨(some 2),none,.mov (.tmp 8)⟩] [2,4])))
def c87:AFun:=⟨
 .seq (.ops [⟨(some 2),none,.mov (.const (.int .i64 0))⟩] [0,2])
 (.seq (.seq (.ops [⟨(some 3),none,.mov (.tmp 0)⟩,
   ⟨(some 4),none,.rangeS (.tmp 3)⟩] [2,4])
 (.block 0
  (.loop [2,4]
   c87l0)))
 (.seq (.ops [⟨(some 9),none,.mov (.tmp 2)⟩,
   ⟨(some 2),none,.mov (.tmp 9)⟩] [2])
 (.ret))),
 10,[(2,none)],true⟩
theorem ok87:FunOK Tryd.prog 87 c87:= .code ⟨Tryd.f87,_,c87.code,Tryd.func87,rfl,by kernel_rfl,rfl,by kernel_rfl,by kernel_rfl⟩
/- internal/stringslite.Index -/
def c89l0:AC:=
 .seq (.seq (.ops [⟨(some 57),none,.mov (.tmp 8)⟩,
     ⟨(some 58),none,.mov (.tmp 9)⟩,
     ⟨(some 59),none,.bin .lss (.tmp 57) (.tmp 58)⟩] [0,1,5,6,7,8,9,10,59])
   (.cond (.tmp 59)
    (.skip)
    (.exit 1)))
   (.block 2
    (.seq (.seq (.ops [⟨(some 60),none,.mov (.tmp 0)⟩,
      ⟨(some 61),none,.mov (.tmp 8)⟩,
      ⟨(some 62),none,.idxStr (.tmp 60) (.tmp 61)⟩,
      ⟨(some 63),none,.mov (.tmp 6)⟩,
      ⟨(some 64),none,.bin .neq (.tmp 62) (.tmp 63)⟩] [0,1,5,6,7,8,9,10,64])
    (.cond (.tmp 64)
     (.seq (.ops [⟨(some 65),none,.mov (.tmp 0)⟩,
       ⟨(some 66),none,.mov (.tmp 8)⟩,
       ⟨(some 67),none,.bin .add (.tmp 66) (.const (.int .i64 1))⟩,
       ⟨(some 68),none,.mov (.tmp 9)⟩,
       ⟨(some 69),none,.slcS (.tmp 65) (some (.tmp 67)) (some (.tmp 68))⟩,
       ⟨(some 70),none,.mov (.tmp 6)⟩,
       ⟨(some 71),none,.callF 99 [(.tmp 69),(.tmp 70)]⟩,
       ⟨(some 11),none,.mov (.tmp 71)⟩] [0,1,5,6,7,8,9,10,11])
     (.seq (.seq (.ops [⟨(some 72),none,.mov (.tmp 11)⟩,
       ⟨(some 73),none,.bin .lss (.tmp 72) (.const (.int .i64 0))⟩] [0,1,5,6,7,8,9,10,11,73])
     (.cond (.tmp 73)
      (.seq (.ops [⟨(some 4),none,.mov (.const (.int .i64 (-1)))⟩] [4])
      (.ret))
      (.skip)))
     (.ops [⟨(some 74),none,.mov (.tmp 8)⟩,
       ⟨(some 75),none,.mov (.tmp 11)⟩,
       ⟨(some 76),none,.bin .add (.tmp 75) (.const (.int .i64 1))⟩,
       ⟨(some 77),none,.bin .add (.tmp 74) (.tmp 76)⟩,
       ⟨(some 8),none,.mov (.tmp 77)⟩] [0,1,5,6,7,8,9,10])))
     (.skip)))
    (.seq (.seq (.ops [⟨(some 78),none,.mov (.tmp 0)⟩,
      ⟨(some 79),none,.mov (.tmp 8)⟩,
      ⟨(some 80),none,.bin .add (.tmp 79) (.const (.int .i64 1))⟩,
      ⟨(some 81),none,.idxStr (.tmp 78) (.tmp 80)⟩,
      ⟨(some 82),none,.mov (.tmp 7)⟩,
      ⟨(some 83),none,.bin .eql (.tmp 81) (.tmp 82)⟩,
      ⟨(some 84),none,.mov (.tmp 83)⟩,
      ⟨(some 85),(some (84,true)),.mov (.tmp 0)⟩,
      ⟨(some 86),(some (84,true)),.mov (.tmp 8)⟩,
      ⟨(some 87),(some (84,true)),.mov (.tmp 8)⟩,
      ⟨(some 88),(some (84,true)),.mov (.tmp 5)⟩,
      ⟨(some 89),(some (84,true)),.bin .add (.tmp 87) (.tmp 88)⟩,
      ⟨(some 90),(some (84,true)),.slcS (.tmp 85) (some (.tmp 86)) (some (.tmp 89))⟩,
      ⟨(some 91),(some (84,true)),.mov (.tmp 1)⟩,
      ⟨(some 92),(some (84,true)),.bin .eql (.tmp 90) (.tmp 91)⟩,
      ⟨(some 93),none,.pick (.tmp 84) (.tmp 92) (.const (.bool false))⟩] [0,1,5,6,7,8,9,10,93])
    (.cond (.tmp 93)
     (.seq (.ops [⟨(some 94),none,.mov (.tmp 8)⟩,
       ⟨(some 4),none,.mov (.tmp 94)⟩] [4])
     (.ret))
     (.skip)))
    (.seq (.ops [⟨(some 95),none,.mov (.tmp 8)⟩,
      ⟨(some 96),none,.bin .add (.tmp 95) (.const (.int .i64 1))⟩,
      ⟨(some 8),none,.mov (.tmp 96)⟩] [0,1,5,6,7,8,9,10])
    (.seq (.ops [⟨(some 97),none,.mov (.tmp 10)⟩,
      ⟨(some 98),none,.bin .add (.tmp 97) (.const (.int .i64 1))⟩,
      ⟨(some 10),none,.mov (.tmp 98)⟩] [0,1,5,6,7,8,9,10])
    (.seq (.ops [⟨(some 99),none,.mov (.tmp 5)⟩,
      ⟨(some 100),none,.load none (.global 3)⟩,
      ⟨(some 101),none,.bin .leq (.tmp 99) (.tmp 100)⟩,
      ⟨(some 102),none,.mov (.tmp 101)⟩,
      ⟨(some 103),(some (102,true)),.mov (.tmp 10)⟩,
      ⟨(some 104),(some (102,true)),.mov (.tmp 8)⟩,
      ⟨(some 105),(some (102,true)),.callF 101 [(.tmp 104)]⟩,
      ⟨(some 106),(some (102,true)),.bin .gtr (.tmp 103) (.tmp 105)⟩,
      ⟨(some 107),none,.pick (.tmp 102) (.tmp 106) (.const (.bool false))⟩] [0,1,5,6,7,8,9,10,107])
    (.cond (.tmp 107)
     (.seq (.ops [⟨(some 108),none,.mov (.tmp 0)⟩,
       ⟨(some 109),none,.mov (.tmp 8)⟩,
       ⟨(some 110),none,.slcS (.tmp 108) (some (.tmp 109)) none⟩,
       ⟨(some 111),none,.mov (.tmp 1)⟩,
       ⟨(some 112),none,.callF 100 [(.tmp 110),(.tmp 111)]⟩,
       ⟨(some 12),none,.mov (.tmp 112)⟩] [8,12])
     (.seq (.seq (.ops [⟨(some 113),none,.mov (.tmp 12)⟩,
       ⟨(some 114),none,.bin .geq (.tmp 113) (.const (.int .i64 0))⟩] [8,12,114])
     (.cond (.tmp 114)
      (.seq (.ops [⟨(some 115),none,.mov (.tmp 12)⟩,
        ⟨(some 116),none,.mov (.tmp 8)⟩,
        ⟨(some 117),none,.bin .add (.tmp 115) (.tmp 116)⟩,
        ⟨(some 4),none,.mov (.tmp 117)⟩] [4])
      (.ret))
      (.skip)))
     (.seq (.ops [⟨(some 4),none,.mov (.const (.int .i64 (-1)))⟩] [4])
     (.ret))))
     (.seq (.ops [⟨(some 118),none,.mov (.tmp 5)⟩,
       ⟨(some 119),none,.load none (.global 3)⟩,
       ⟨(some 120),none,.bin .gtr (.tmp 118) (.tmp 119)⟩,
       ⟨(some 121),none,.mov (.tmp 120)⟩,
       ⟨(some 122),(some (121,true)),.mov (.tmp 10)⟩,
       ⟨(some 123),(some (121,true)),.mov (.tmp 8)⟩,
       ⟨(some 124),(some (121,true)),.bin .shr (.tmp 123) (.const (.int .u64 4))⟩,
       ⟨(some 125),(some (121,true)),.bin .add (.const (.int .i64 4)) (.tmp 124)⟩,
       ⟨(some 126),(some (121,true)),.bin .geq (.tmp 122) (.tmp 125)⟩,
       ⟨(some 127),none,.pick (.tmp 121) (.tmp 126) (.const (.bool false))⟩,
       ⟨(some 128),none,.mov (.tmp 127)⟩,
       ⟨(some 129),(some (128,true)),.mov (.tmp 8)⟩,
       ⟨(some 130),(some (128,true)),.mov (.tmp 9)⟩,
       ⟨(some 131),(some (128,true)),.bin .lss (.tmp 129) (.tmp 130)⟩,
       ⟨(some 132),none,.pick (.tmp 128) (.tmp 131) (.const (.bool false))⟩] [0,1,5,6,7,8,9,10,132])
     (.cond (.tmp 132)
      (.seq (.ops [⟨(some 133),none,.mov (.tmp 0)⟩,
        ⟨(some 134),none,.mov (.tmp 8)⟩,
        ⟨(some 135),none,.slcS (.tmp 133) (some (.tmp 134)) none⟩,
        ⟨(some 136),none,.mov (.tmp 1)⟩,
        ⟨(some 137),none,.callF 102 [(.tmp 135),(.tmp 136)]⟩,
        ⟨(some 13),none,.mov (.tmp 137)⟩] [8,13])
      (.seq (.seq (.ops [⟨(some 138),none,.mov (.tmp 13)⟩,
        ⟨(some 139),none,.bin .lss (.tmp 138) (.const (.int .i64 0))⟩] [8,13,139])
      (.cond (.tmp 139)
       (.seq (.ops [⟨(some 4),none,.mov (.const (.int .i64 (-1)))⟩] [4])
       (.ret))
       (.skip)))
      (.seq (.ops [⟨(some 140),none,.mov (.tmp 8)⟩,
        ⟨(some 141),none,.mov (.tmp 13)⟩,
        ⟨(some 142),none,.bin .add (.tmp 140) (.tmp 141)⟩,
        ⟨(some 4),none,.mov (.tmp 142)⟩] [4])
      (.ret))))
      (.skip))))))))))
def c89:AFun:=⟨
 .seq (.ops [⟨(some 4),none,.mov (.const (.int .i64 0))⟩] [0,1])
 (.seq (.ops [⟨(some 14),none,.mov (.tmp 1)⟩,
   ⟨(some 15),none,.len true (.tmp 14)⟩,
   ⟨(some 5),none,.mov (.tmp 15)⟩] [0,1,5])
 (.seq (.block 0
  (.seq (.ops [⟨(some 17),none,.mov (.tmp 5)⟩,
    ⟨(some 18),none,.bin .eql (.tmp 17) (.const (.int .i64 0))⟩,
    ⟨(some 19),none,.mov (.tmp 18)⟩,
    ⟨(some 20),(some (19,false)),.mov (.tmp 1)⟩,
    ⟨(some 21),(some (19,false)),.mov (.tmp 0)⟩,
    ⟨(some 22),(some (19,false)),.bin .eql (.tmp 20) (.tmp 21)⟩,
    ⟨(some 23),none,.pick (.tmp 19) (.const (.bool true)) (.tmp 22)⟩,
    ⟨(some 16),none,.mov (.tmp 23)⟩] [0,1,5,16])
  (.cond (.tmp 16)
   (.seq (.ops [⟨(some 4),none,.mov (.const (.int .i64 0))⟩] [4])
   (.ret))
   (.seq (.ops [⟨(some 25),none,.mov (.tmp 5)⟩,
     ⟨(some 26),none,.bin .eql (.tmp 25) (.const (.int .i64 1))⟩,
     ⟨(some 24),none,.mov (.tmp 26)⟩] [0,1,5,24])
   (.cond (.tmp 24)
    (.seq (.ops [⟨(some 27),none,.mov (.tmp 0)⟩,
      ⟨(some 28),none,.mov (.tmp 1)⟩,
      ⟨(some 29),none,.idxStr (.tmp 28) (.const (.int .i64 0))⟩,
      ⟨(some 30),none,.callF 99 [(.tmp 27),(.tmp 29)]⟩,
      ⟨(some 4),none,.mov (.tmp 30)⟩] [4])
    (.ret))
    (.seq (.ops [⟨(some 32),none,.mov (.tmp 5)⟩,
      ⟨(some 33),none,.mov (.tmp 0)⟩,
      ⟨(some 34),none,.len true (.tmp 33)⟩,
      ⟨(some 35),none,.bin .geq (.tmp 32) (.tmp 34)⟩,
      ⟨(some 31),none,.mov (.tmp 35)⟩] [0,1,5,31])
    (.cond (.tmp 31)
     (.seq (.ops [⟨(some 4),none,.mov (.const (.int .i64 (-1)))⟩] [4])
     (.ret))
     (.seq (.ops [⟨(some 37),none,.mov (.tmp 5)⟩,
       ⟨(some 38),none,.load none (.global 3)⟩,
       ⟨(some 39),none,.bin .leq (.tmp 37) (.tmp 38)⟩,
       ⟨(some 40),none,.mov (.tmp 39)⟩,
       ⟨(some 41),(some (40,true)),.mov (.tmp 0)⟩,
       ⟨(some 42),(some (40,true)),.len true (.tmp 41)⟩,
       ⟨(some 43),(some (40,true)),.bin .leq (.tmp 42) (.const (.int .i64 64))⟩,
       ⟨(some 44),none,.pick (.tmp 40) (.tmp 43) (.const (.bool false))⟩,
       ⟨(some 36),none,.mov (.tmp 44)⟩] [0,1,5,36])
     (.cond (.tmp 36)
      (.seq (.ops [⟨(some 45),none,.mov (.tmp 0)⟩,
        ⟨(some 46),none,.mov (.tmp 1)⟩,
        ⟨(some 47),none,.callF 100 [(.tmp 45),(.tmp 46)]⟩,
        ⟨(some 4),none,.mov (.tmp 47)⟩] [4])
      (.ret))
      (.skip))))))))))
 (.seq (.ops [⟨(some 48),none,.mov (.tmp 1)⟩,
   ⟨(some 49),none,.idxStr (.tmp 48) (.const (.int .i64 0))⟩,
   ⟨(some 6),none,.mov (.tmp 49)⟩] [0,1,5,6])
 (.seq (.ops [⟨(some 50),none,.mov (.tmp 1)⟩,
   ⟨(some 51),none,.idxStr (.tmp 50) (.const (.int .i64 1))⟩,
   ⟨(some 7),none,.mov (.tmp 51)⟩] [0,1,5,6,7])
 (.seq (.ops [⟨(some 8),none,.mov (.const (.int .i64 0))⟩] [0,1,5,6,7,8])
 (.seq (.ops [⟨(some 52),none,.mov (.tmp 0)⟩,
   ⟨(some 53),none,.len true (.tmp 52)⟩,
   ⟨(some 54),none,.mov (.tmp 5)⟩,
   ⟨(some 55),none,.bin .sub (.tmp 53) (.tmp 54)⟩,
   ⟨(some 56),none,.bin .add (.tmp 55) (.const (.int .i64 1))⟩,
   ⟨(some 9),none,.mov (.tmp 56)⟩] [0,1,5,6,7,8,9])
 (.seq (.ops [⟨(some 10),none,.mov (.const (.int .i64 0))⟩] [0,1,5,6,7,8,9,10])
 (.seq (.block 1
  (.loop [0,1,5,6,7,8,9,10]
   c89l0))
 (.seq (.ops [⟨(some 4),none,.mov (.const (.int .i64 (-1)))⟩] [4])
 (.ret)))))))))),
 143,[(4,none)],true⟩
theorem ok89:FunOK Tryd.prog 89 c89:= .code ⟨Tryd.f89,_,c89.code,Tryd.func89,rfl,by kernel_rfl,rfl,by kernel_rfl,by kernel_rfl⟩
/- unicode/utf8.decodeRuneInStringSlow -/
def c90:AFun:=⟨
 .seq (.ops [⟨(some 2),none,.mov (.const (.int .i32 0))⟩,
   ⟨(some 3),none,.mov (.const (.int .i64 0))⟩] [0])
 (.seq (.ops [⟨(some 13),none,.mov (.tmp 0)⟩,
   ⟨(some 14),none,.len true (.tmp 13)⟩,
   ⟨(some 4),none,.mov (.tmp 14)⟩] [0,4])
 (.seq (.seq (.ops [⟨(some 15),none,.mov (.tmp 4)⟩,
   ⟨(some 16),none,.bin .lss (.tmp 15) (.const (.int .i64 1))⟩] [0,4,16])
 (.cond (.tmp 16)
  (.seq (.ops [⟨(some 2),none,.mov (.const (.int .i32 65533))⟩,
    ⟨(some 3),none,.mov (.const (.int .i64 0))⟩] [2,3])
  (.ret))
  (.skip)))
 (.seq (.ops [⟨(some 17),none,.mov (.tmp 0)⟩,
   ⟨(some 18),none,.idxStr (.tmp 17) (.const (.int .i64 0))⟩,
   ⟨(some 5),none,.mov (.tmp 18)⟩] [0,4,5])
 (.seq (.ops [⟨(some 19),none,.mov (.tmp 5)⟩,
   ⟨(some 20),none,.idxA 256 1 (.global 4) (.tmp 19)⟩,
   ⟨(some 21),none,.load none (.tmp 20)⟩,
   ⟨(some 6),none,.mov (.tmp 21)⟩] [0,4,5,6])
 (.seq (.seq (.ops [⟨(some 22),none,.mov (.tmp 6)⟩,
   ⟨(some 23),none,.bin .geq (.tmp 22) (.const (.int .u8 240))⟩] [0,4,5,6,23])
 (.cond (.tmp 23)
  (.seq (.ops [⟨(some 24),none,.mov (.tmp 6)⟩,
    ⟨(some 25),none,.convI .i32 (.tmp 24)⟩,
    ⟨(some 26),none,.bin .shl (.tmp 25) (.const (.int .u64 31))⟩,
    ⟨(some 27),none,.bin .shr (.tmp 26) (.const (.int .u64 31))⟩,
    ⟨(some 7),none,.mov (.tmp 27)⟩] [0,7])
  (.seq (.ops [⟨(some 28),none,.mov (.tmp 0)⟩,
    ⟨(some 29),none,.idxStr (.tmp 28) (.const (.int .i64 0))⟩,
    ⟨(some 30),none,.convI .i32 (.tmp 29)⟩,
    ⟨(some 31),none,.mov (.tmp 7)⟩,
    ⟨(some 32),none,.bin .andNot (.tmp 30) (.tmp 31)⟩,
    ⟨(some 33),none,.mov (.tmp 7)⟩,
    ⟨(some 34),none,.bin .and (.const (.int .i32 65533)) (.tmp 33)⟩,
    ⟨(some 35),none,.bin .or (.tmp 32) (.tmp 34)⟩,
    ⟨(some 2),none,.mov (.tmp 35)⟩,
    ⟨(some 3),none,.mov (.const (.int .i64 1))⟩] [2,3])
  (.ret)))
  (.skip)))
 (.seq (.ops [⟨(some 36),none,.mov (.tmp 6)⟩,
   ⟨(some 37),none,.bin .and (.tmp 36) (.const (.int .u8 7))⟩,
   ⟨(some 38),none,.convI .i64 (.tmp 37)⟩,
   ⟨(some 8),none,.mov (.tmp 38)⟩] [0,4,5,6,8])
 (.seq (.ops [⟨(some 39),none,.mov (.tmp 6)⟩,
   ⟨(some 40),none,.bin .shr (.tmp 39) (.const (.int .u64 4))⟩,
   ⟨(some 41),none,.idxA 16 2 (.global 5) (.tmp 40)⟩,
   ⟨(some 42),none,.load (some 2) (.tmp 41)⟩,
   ⟨(some 9),none,.alloc 142 [(2,(.int .u8 0))]⟩,
   ⟨none,none,.store 2 (.tmp 9) (.tmp 42)⟩] [0,4,5,8,9])
 (.seq (.seq (.ops [⟨(some 43),none,.mov (.tmp 4)⟩,
   ⟨(some 44),none,.mov (.tmp 8)⟩,
   ⟨(some 45),none,.bin .lss (.tmp 43) (.tmp 44)⟩] [0,5,8,9,45])
 (.cond (.tmp 45)
  (.seq (.ops [⟨(some 2),none,.mov (.const (.int .i32 65533))⟩,
    ⟨(some 3),none,.mov (.const (.int .i64 1))⟩] [2,3])
  (.ret))
  (.skip)))
 (.seq (.ops [⟨(some 46),none,.mov (.tmp 0)⟩,
   ⟨(some 47),none,.idxStr (.tmp 46) (.const (.int .i64 1))⟩,
   ⟨(some 10),none,.mov (.tmp 47)⟩] [0,5,8,9,10])
 (.seq (.seq (.ops [⟨(some 48),none,.mov (.tmp 10)⟩,
   ⟨(some 49),none,.fldA 0 (.tmp 9)⟩,
   ⟨(some 50),none,.load none (.tmp 49)⟩,
   ⟨(some 51),none,.bin .lss (.tmp 48) (.tmp 50)⟩,
   ⟨(some 52),none,.mov (.tmp 51)⟩,
   ⟨(some 53),(some (52,false)),.fldA 1 (.tmp 9)⟩,
   ⟨(some 54),(some (52,false)),.load none (.tmp 53)⟩,
   ⟨(some 55),(some (52,false)),.mov (.tmp 10)⟩,
   ⟨(some 56),(some (52,false)),.bin .lss (.tmp 54) (.tmp 55)⟩,
   ⟨(some 57),none,.pick (.tmp 52) (.const (.bool true)) (.tmp 56)⟩] [0,5,8,10,57])
 (.cond (.tmp 57)
  (.seq (.ops [⟨(some 2),none,.mov (.const (.int .i32 65533))⟩,
    ⟨(some 3),none,.mov (.const (.int .i64 1))⟩] [2,3])
  (.ret))
  (.skip)))
 (.seq (.seq (.ops [⟨(some 58),none,.mov (.tmp 8)⟩,
   ⟨(some 59),none,.bin .leq (.tmp 58) (.const (.int .i64 2))⟩] [0,5,8,10,59])
 (.cond (.tmp 59)
  (.seq (.ops [⟨(some 60),none,.mov (.tmp 5)⟩,
    ⟨(some 61),none,.bin .and (.tmp 60) (.const (.int .u8 31))⟩,
    ⟨(some 62),none,.convI .i32 (.tmp 61)⟩,
    ⟨(some 63),none,.bin .shl (.tmp 62) (.const (.int .u64 6))⟩,
    ⟨(some 64),none,.mov (.tmp 10)⟩,
    ⟨(some 65),none,.bin .and (.tmp 64) (.const (.int .u8 63))⟩,
    ⟨(some 66),none,.convI .i32 (.tmp 65)⟩,
    ⟨(some 67),none,.bin .or (.tmp 63) (.tmp 66)⟩,
    ⟨(some 2),none,.mov (.tmp 67)⟩,
    ⟨(some 3),none,.mov (.const (.int .i64 2))⟩] [2,3])
  (.ret))
  (.skip)))
 (.seq (.ops [⟨(some 68),none,.mov (.tmp 0)⟩,
   ⟨(some 69),none,.idxStr (.tmp 68) (.const (.int .i64 2))⟩,
   ⟨(some 11),none,.mov (.tmp 69)⟩] [0,5,8,10,11])
 (.seq (.seq (.ops [⟨(some 70),none,.mov (.tmp 11)⟩,
   ⟨(some 71),none,.bin .lss (.tmp 70) (.const (.int .u8 128))⟩,
   ⟨(some 72),none,.mov (.tmp 71)⟩,
   ⟨(some 73),(some (72,false)),.mov (.tmp 11)⟩,
   ⟨(some 74),(some (72,false)),.bin .lss (.const (.int .u8 191)) (.tmp 73)⟩,
   ⟨(some 75),none,.pick (.tmp 72) (.const (.bool true)) (.tmp 74)⟩] [0,5,8,10,11,75])
 (.cond (.tmp 75)
  (.seq (.ops [⟨(some 2),none,.mov (.const (.int .i32 65533))⟩,
    ⟨(some 3),none,.mov (.const (.int .i64 1))⟩] [2,3])
  (.ret))
  (.skip)))
 (.seq (.seq (.ops [⟨(some 76),none,.mov (.tmp 8)⟩,
   ⟨(some 77),none,.bin .leq (.tmp 76) (.const (.int .i64 3))⟩] [0,5,10,11,77])
 (.cond (.tmp 77)
  (.seq (.ops [⟨(some 78),none,.mov (.tmp 5)⟩,
    ⟨(some 79),none,.bin .and (.tmp 78) (.const (.int .u8 15))⟩,
    ⟨(some 80),none,.convI .i32 (.tmp 79)⟩,
    ⟨(some 81),none,.bin .shl (.tmp 80) (.const (.int .u64 12))⟩,
    ⟨(some 82),none,.mov (.tmp 10)⟩,
    ⟨(some 83),none,.bin .and (.tmp 82) (.const (.int .u8 63))⟩,
    ⟨(some 84),none,.convI .i32 (.tmp 83)⟩,
    ⟨(some 85),none,.bin .shl (.tmp 84) (.const (.int .u64 6))⟩,
    ⟨(some 86),none,.bin .or (.tmp 81) (.tmp 85)⟩,
    ⟨(some 87),none,.mov (.tmp 11)⟩,
    ⟨(some 88),none,.bin .and (.tmp 87) (.const (.int .u8 63))⟩,
    ⟨(some 89),none,.convI .i32 (.tmp 88)⟩,
    ⟨(some 90),none,.bin .or (.tmp 86) (.tmp 89)⟩,
    ⟨(some 2),none,.mov (.tmp 90)⟩,
    ⟨(some 3),none,.mov (.const (.int .i64 3))⟩] [2,3])
  (.ret))
  (.skip)))
 (.seq (.ops [⟨(some 91),none,.mov (.tmp 0)⟩,
   ⟨(some 92),none,.idxStr (.tmp 91) (.const (.int .i64 3))⟩,
   ⟨(some 12),none,.mov (.tmp 92)⟩] [5,10,11,12])
 (.seq (.seq (.ops [⟨(some 93),none,.mov (.tmp 12)⟩,
   ⟨(some 94),none,.bin .lss (.tmp 93) (.const (.int .u8 128))⟩,
   ⟨(some 95),none,.mov (.tmp 94)⟩,
   ⟨(some 96),(some (95,false)),.mov (.tmp 12)⟩,
   ⟨(some 97),(some (95,false)),.bin .lss (.const (.int .u8 191)) (.tmp 96)⟩,
   ⟨(some 98),none,.pick (.tmp 95) (.const (.bool true)) (.tmp 97)⟩] [5,10,11,12,98])
 (.cond (.tmp 98)
  (.seq (.ops [⟨(some 2),none,.mov (.const (.int .i32 65533))⟩,
    ⟨(some 3),none,.mov (.const (.int .i64 1))⟩] [2,3])
  (.ret))
  (.skip)))
 (.seq (.ops [⟨(some 99),none,.mov (.tmp 5)⟩,
   ⟨(some 100),none,.bin .and (.tmp 99) (.const (.int .u8 7))⟩,
   ⟨(some 101),none,.convI .i32 (.tmp 100)⟩,
   ⟨(some 102),none,.bin .shl (.tmp 101) (.const (.int .u64 18))⟩,
   ⟨(some 103),none,.mov (.tmp 10)⟩,
   ⟨(some 104),none,.bin .and (.tmp 103) (.const (.int .u8 63))⟩,
   ⟨(some 105),none,.convI .i32 (.tmp 104)⟩,
   ⟨(some 106),none,.bin .shl (.tmp 105) (.const (.int .u64 12))⟩,
   ⟨(some 107),none,.bin .or (.tmp 102) (.tmp 106)⟩,
   ⟨(some 108),none,.mov (.tmp 11)⟩,
   ⟨(some 109),none,.bin .and (.tmp 108) (.const (.int .u8 63))⟩,
   ⟨(some 110),none,.convI .i32 (.tmp 109)⟩,
   ⟨(some 111),none,.bin .shl (.tmp 110) (.const (.int .u64 6))⟩,
   ⟨(some 112),none,.bin .or (.tmp 107) (.tmp 111)⟩,
   ⟨(some 113),none,.mov (.tmp 12)⟩,
   ⟨(some 114),none,.bin .and (.tmp 113) (.const (.int .u8 63))⟩,
   ⟨(some 115),none,.convI .i32 (.tmp 114)⟩,
   ⟨(some 116),none,.bin .or (.tmp 112) (.tmp 115)⟩,
   ⟨(some 2),none,.mov (.tmp 116)⟩,
   ⟨(some 3),none,.mov (.const (.int .i64 4))⟩] [2,3])
 (.ret)))))))))))))))))),
 117,[(2,none),(3,none)],true⟩
theorem ok90:FunOK Tryd.prog 90 c90:= .code ⟨Tryd.f90,_,c90.code,Tryd.func90,rfl,by kernel_rfl,rfl,by kernel_rfl,by kernel_rfl⟩
/- internal/stringslite.IndexByte -/
def c99:AFun:=⟨
 .seq (.ops [⟨(some 4),none,.mov (.const (.int .i64 0))⟩] [0,1])
 (.seq (.ops [⟨(some 5),none,.mov (.tmp 0)⟩,
   ⟨(some 6),none,.mov (.tmp 1)⟩,
   ⟨(some 7),none,.callF 107 [(.tmp 5),(.tmp 6)]⟩,
   ⟨(some 4),none,.mov (.tmp 7)⟩] [4])
 (.ret)),
 8,[(4,none)],true⟩
theorem ok99:FunOK Tryd.prog 99 c99:= .code ⟨Tryd.f99,_,c99.code,Tryd.func99,rfl,by kernel_rfl,rfl,by kernel_rfl,by kernel_rfl⟩
/- internal/bytealg.Cutover -/
def c101:AFun:=⟨
 .seq (.ops [⟨(some 2),none,.mov (.const (.int .i64 0))⟩] [0])
 (.seq (.ops [⟨(some 3),none,.mov (.tmp 0)⟩,
   ⟨(some 4),none,.bin .add (.tmp 3) (.const (.int .i64 16))⟩,
   ⟨(some 5),none,.bin .quo (.tmp 4) (.const (.int .i64 8))⟩,
   ⟨(some 2),none,.mov (.tmp 5)⟩] [2])
 (.ret)),
 6,[(2,none)],true⟩
theorem ok101:FunOK Tryd.prog 101 c101:= .code ⟨Tryd.f101,_,c101.code,Tryd.func101,rfl,by kernel_rfl,rfl,by kernel_rfl,by kernel_rfl⟩
/- internal/bytealg.IndexRabinKarp[string] -/
def c102l0:AC:=
 .seq (.seq (.ops [⟨(some 41),none,.mov (.tmp 10)⟩,
     ⟨(some 42),none,.mov (.tmp 0)⟩,
     ⟨(some 43),none,.len true (.tmp 42)⟩,
     ⟨(some 44),none,.bin .lss (.tmp 41) (.tmp 43)⟩] [0,1,5,6,7,8,10,44])
   (.cond (.tmp 44)
    (.skip)
    (.exit 2)))
   (.block 3
    (.seq (.ops [⟨(some 45),none,.mov (.tmp 8)⟩,
      ⟨(some 46),none,.bin .mul (.tmp 45) (.const (.int .u32 16777619))⟩,
      ⟨(some 8),none,.mov (.tmp 46)⟩] [0,1,5,6,7,8,10])
    (.seq (.ops [⟨(some 47),none,.mov (.tmp 8)⟩,
      ⟨(some 48),none,.mov (.tmp 0)⟩,
      ⟨(some 49),none,.mov (.tmp 10)⟩,
      ⟨(some 50),none,.idxStr (.tmp 48) (.tmp 49)⟩,
      ⟨(some 51),none,.convI .u32 (.tmp 50)⟩,
      ⟨(some 52),none,.bin .add (.tmp 47) (.tmp 51)⟩,
      ⟨(some 8),none,.mov (.tmp 52)⟩] [0,1,5,6,7,8,10])
    (.seq (.ops [⟨(some 53),none,.mov (.tmp 8)⟩,
      ⟨(some 54),none,.mov (.tmp 6)⟩,
      ⟨(some 55),none,.mov (.tmp 0)⟩,
      ⟨(some 56),none,.mov (.tmp 10)⟩,
      ⟨(some 57),none,.mov (.tmp 7)⟩,
      ⟨(some 58),none,.bin .sub (.tmp 56) (.tmp 57)⟩,
      ⟨(some 59),none,.idxStr (.tmp 55) (.tmp 58)⟩,
      ⟨(some 60),none,.convI .u32 (.tmp 59)⟩,
      ⟨(some 61),none,.bin .mul (.tmp 54) (.tmp 60)⟩,
      ⟨(some 62),none,.bin .sub (.tmp 53) (.tmp 61)⟩,
      ⟨(some 8),none,.mov (.tmp 62)⟩] [0,1,5,6,7,8,10])
    (.seq (.ops [⟨(some 63),none,.mov (.tmp 10)⟩,
      ⟨(some 64),none,.bin .add (.tmp 63) (.const (.int .i64 1))⟩,
      ⟨(some 10),none,.mov (.tmp 64)⟩] [0,1,5,6,7,8,10])
    (.seq (.ops [⟨(some 65),none,.mov (.tmp 8)⟩,
      ⟨(some 66),none,.mov (.tmp 5)⟩,
      ⟨(some 67),none,.bin .eql (.tmp 65) (.tmp 66)⟩,
      ⟨(some 68),none,.mov (.tmp 67)⟩,
      ⟨(some 69),(some (68,true)),.mov (.tmp 0)⟩,
      ⟨(some 70),(some (68,true)),.mov (.tmp 10)⟩,
      ⟨(some 71),(some (68,true)),.mov (.tmp 7)⟩,
      ⟨(some 72),(some (68,true)),.bin .sub (.tmp 70) (.tmp 71)⟩,
      ⟨(some 73),(some (68,true)),.mov (.tmp 10)⟩,
      ⟨(some 74),(some (68,true)),.slcS (.tmp 69) (some (.tmp 72)) (some (.tmp 73))⟩,
      ⟨(some 75),(some (68,true)),.mov (.tmp 1)⟩,
      ⟨(some 76),(some (68,true)),.bin .eql (.tmp 74) (.tmp 75)⟩,
      ⟨(some 77),none,.pick (.tmp 68) (.tmp 76) (.const (.bool false))⟩] [0,1,5,6,7,8,10,77])
    (.cond (.tmp 77)
     (.seq (.ops [⟨(some 78),none,.mov (.tmp 10)⟩,
       ⟨(some 79),none,.mov (.tmp 7)⟩,
       ⟨(some 80),none,.bin .sub (.tmp 78) (.tmp 79)⟩,
       ⟨(some 4),none,.mov (.tmp 80)⟩] [4])
     (.ret))
     (.skip))))))))
def c102l1:AC:=
 .seq (.seq (.ops [⟨(some 18),none,.mov (.tmp 9)⟩,
     ⟨(some 19),none,.mov (.tmp 7)⟩,
     ⟨(some 20),none,.bin .lss (.tmp 18) (.tmp 19)⟩] [0,1,5,6,7,8,9,20])
   (.cond (.tmp 20)
    (.skip)
    (.exit 0)))
   (.seq (.block 1
    (.ops [⟨(some 23),none,.mov (.tmp 8)⟩,
      ⟨(some 24),none,.bin .mul (.tmp 23) (.const (.int .u32 16777619))⟩,
      ⟨(some 25),none,.mov (.tmp 0)⟩,
      ⟨(some 26),none,.mov (.tmp 9)⟩,
      ⟨(some 27),none,.idxStr (.tmp 25) (.tmp 26)⟩,
      ⟨(some 28),none,.convI .u32 (.tmp 27)⟩,
      ⟨(some 29),none,.bin .add (.tmp 24) (.tmp 28)⟩,
      ⟨(some 8),none,.mov (.tmp 29)⟩] [0,1,5,6,7,8,9]))
   (.ops [⟨(some 21),none,.mov (.tmp 9)⟩,
     ⟨(some 22),none,.bin .add (.tmp 21) (.const (.int .i64 1))⟩,
     ⟨(some 9),none,.mov (.tmp 22)⟩] [0,1,5,6,7,8,9]))
def c102:AFun:=⟨
 .seq (.ops [⟨(some 4),none,.mov (.const (.int .i64 0))⟩] [0,1])
 (.seq (.ops [⟨(some 12),none,.mov (.tmp 1)⟩,
   ⟨(some 13),none,.callF 108 [(.tmp 12)]⟩,
   ⟨(some 11),none,.mov (.tmp 13)⟩,
   ⟨(some 14),none,.ext (.tmp 11) 0⟩,
   ⟨(some 15),none,.ext (.tmp 11) 1⟩,
   ⟨(some 5),none,.mov (.tmp 14)⟩,
   ⟨(some 6),none,.mov (.tmp 15)⟩] [0,1,5,6])
 (.seq (.ops [⟨(some 16),none,.mov (.tmp 1)⟩,
   ⟨(some 17),none,.len true (.tmp 16)⟩,
   ⟨(some 7),none,.mov (.tmp 17)⟩] [0,1,5,6,7])
 (.seq (.ops [⟨(some 8),none,.mov (.const (.int .u32 0))⟩] [0,1,5,6,7,8])
 (.seq (.seq (.ops [⟨(some 9),none,.mov (.const (.int .i64 0))⟩] [0,1,5,6,7,8,9])
 (.block 0
  (.loop [0,1,5,6,7,8,9]
   c102l1)))
 (.seq (.seq (.ops [⟨(some 30),none,.mov (.tmp 8)⟩,
   ⟨(some 31),none,.mov (.tmp 5)⟩,
   ⟨(some 32),none,.bin .eql (.tmp 30) (.tmp 31)⟩,
   ⟨(some 33),none,.mov (.tmp 32)⟩,
   ⟨(some 34),(some (33,true)),.mov (.tmp 0)⟩,
   ⟨(some 35),(some (33,true)),.mov (.tmp 7)⟩,
   ⟨(some 36),(some (33,true)),.slcS (.tmp 34) none (some (.tmp 35))⟩,
   ⟨(some 37),(some (33,true)),.mov (.tmp 1)⟩,
   ⟨(some 38),(some (33,true)),.bin .eql (.tmp 36) (.tmp 37)⟩,
   ⟨(some 39),none,.pick (.tmp 33) (.tmp 38) (.const (.bool false))⟩] [0,1,5,6,7,8,39])
 (.cond (.tmp 39)
  (.seq (.ops [⟨(some 4),none,.mov (.const (.int .i64 0))⟩] [4])
  (.ret))
  (.skip)))
 (.seq (.seq (.ops [⟨(some 40),none,.mov (.tmp 7)⟩,
   ⟨(some 10),none,.mov (.tmp 40)⟩] [0,1,5,6,7,8,10])
 (.block 2
  (.loop [0,1,5,6,7,8,10]
   c102l0)))
 (.seq (.ops [⟨(some 4),none,.mov (.const (.int .i64 (-1)))⟩] [4])
 (.ret)))))))),
 81,[(4,none)],true⟩
theorem ok102:FunOK Tryd.prog 102 c102:= .code ⟨Tryd.f102,_,c102.code,Tryd.func102,rfl,by kernel_rfl,rfl,by kernel_rfl,by kernel_rfl⟩
/- internal/bytealg.hashStr[string] -/
def c108l0:AC:=
 .seq (.seq (.ops [⟨(some 24),none,.mov (.tmp 8)⟩,
     ⟨(some 25),none,.bin .gtr (.tmp 24) (.const (.int .i64 0))⟩] [4,6,7,8,25])
   (.cond (.tmp 25)
    (.skip)
    (.exit 2)))
   (.seq (.block 3
    (.seq (.seq (.ops [⟨(some 28),none,.mov (.tmp 8)⟩,
      ⟨(some 29),none,.bin .and (.tmp 28) (.const (.int .i64 1))⟩,
      ⟨(some 30),none,.bin .neq (.tmp 29) (.const (.int .i64 0))⟩] [4,6,7,8,30])
    (.cond (.tmp 30)
     (.ops [⟨(some 31),none,.mov (.tmp 6)⟩,
       ⟨(some 32),none,.mov (.tmp 7)⟩,
       ⟨(some 33),none,.bin .mul (.tmp 31) (.tmp 32)⟩,
       ⟨(some 6),none,.mov (.tmp 33)⟩] [4,6,7,8])
     (.skip)))
    (.ops [⟨(some 34),none,.mov (.tmp 7)⟩,
      ⟨(some 35),none,.mov (.tmp 7)⟩,
      ⟨(some 36),none,.bin .mul (.tmp 34) (.tmp 35)⟩,
      ⟨(some 7),none,.mov (.tmp 36)⟩] [4,6,7,8])))
   (.ops [⟨(some 26),none,.mov (.tmp 8)⟩,
     ⟨(some 27),none,.bin .shr (.tmp 26) (.const (.int .u64 1))⟩,
     ⟨(some 8),none,.mov (.tmp 27)⟩] [4,6,7,8]))
def c108l1:AC:=
 .seq (.seq (.ops [⟨(some 9),none,.mov (.tmp 5)⟩,
     ⟨(some 10),none,.mov (.tmp 0)⟩,
     ⟨(some 11),none,.len true (.tmp 10)⟩,
     ⟨(some 12),none,.bin .lss (.tmp 9) (.tmp 11)⟩] [0,4,5,12])
   (.cond (.tmp 12)
    (.skip)
    (.exit 0)))
   (.seq (.block 1
    (.ops [⟨(some 15),none,.mov (.tmp 4)⟩,
      ⟨(some 16),none,.bin .mul (.tmp 15) (.const (.int .u32 16777619))⟩,
      ⟨(some 17),none,.mov (.tmp 0)⟩,
      ⟨(some 18),none,.mov (.tmp 5)⟩,
      ⟨(some 19),none,.idxStr (.tmp 17) (.tmp 18)⟩,
      ⟨(some 20),none,.convI .u32 (.tmp 19)⟩,
      ⟨(some 21),none,.bin .add (.tmp 16) (.tmp 20)⟩,
      ⟨(some 4),none,.mov (.tmp 21)⟩] [0,4,5]))
   (.ops [⟨(some 13),none,.mov (.tmp 5)⟩,
     ⟨(some 14),none,.bin .add (.tmp 13) (.const (.int .i64 1))⟩,
     ⟨(some 5),none,.mov (.tmp 14)⟩] [0,4,5]))
def c108:AFun:=⟨
 .seq (.ops [⟨(some 2),none,.mov (.const (.int .u32 0))⟩,
   ⟨(some 3),none,.mov (.const (.int .u32 0))⟩] [0])
 (.seq (.ops [⟨(some 4),none,.mov (.const (.int .u32 0))⟩] [0,4])
 (.seq (.seq (.ops [⟨(some 5),none,.mov (.const (.int .i64 0))⟩] [0,4,5])
 (.block 0
  (.loop [0,4,5]
   c108l1)))
 (.seq (.ops [⟨(some 6),none,.mov (.const (.int .u32 1))⟩,
   ⟨(some 7),none,.mov (.const (.int .u32 16777619))⟩] [0,4,6,7])
 (.seq (.seq (.ops [⟨(some 22),none,.mov (.tmp 0)⟩,
   ⟨(some 23),none,.len true (.tmp 22)⟩,
   ⟨(some 8),none,.mov (.tmp 23)⟩] [4,6,7,8])
 (.block 2
  (.loop [4,6,7,8]
   c108l0)))
 (.seq (.ops [⟨(some 37),none,.mov (.tmp 4)⟩,
   ⟨(some 38),none,.mov (.tmp 6)⟩,
   ⟨(some 2),none,.mov (.tmp 37)⟩,
   ⟨(some 3),none,.mov (.tmp 38)⟩] [2,3])
 (.ret)))))),
 39,[(2,none),(3,none)],true⟩
theorem ok108:FunOK Tryd.prog 108 c108:= .code ⟨Tryd.f108,_,c108.code,Tryd.func108,rfl,by kernel_rfl,rfl,by kernel_rfl,by kernel_rfl⟩
def fns:FuncId→Option AFun
 |6=>some c6
 |11=>some c11
 |15=>some c15
 |17=>some c17
 |18=>some c18
 |21=>some c21
 |25=>some c25
 |26=>some c26
 |27=>some c27
 |28=>some c28
 |33=>some c33
 |35=>some c35
 |37=>some c37
 |43=>some c43
 |47=>some c47
 |48=>some c48
 |49=>some c49
 |51=>some c51
 |52=>some c52
 |57=>some c57
 |59=>some c59
 |60=>some c60
 |61=>some c61
 |64=>some c64
 |65=>some c65
 |66=>some c66
 |70=>some c70
 |71=>some c71
 |72=>some c72
 |73=>some c73
 |74=>some c74
 |75=>some c75
 |81=>some c81
 |87=>some c87
 |89=>some c89
 |90=>some c90
 |99=>some c99
 |101=>some c101
 |102=>some c102
 |108=>some c108
 |_=>none
theorem fns_ok:FunsOK Tryd.prog fns:=by
 intro f af h
 unfold fns at h
 split at h
 ·cases h;exact ok6
 ·cases h;exact ok11
 ·cases h;exact ok15
 ·cases h;exact ok17
 ·cases h;exact ok18
 ·cases h;exact ok21
 ·cases h;exact ok25
 ·cases h;exact ok26
 ·cases h;exact ok27
 ·cases h;exact ok28
 ·cases h;exact ok33
 ·cases h;exact ok35
 ·cases h;exact ok37
 ·cases h;exact ok43
 ·cases h;exact ok47
 ·cases h;exact ok48
 ·cases h;exact ok49
 ·cases h;exact ok51
 ·cases h;exact ok52
 ·cases h;exact ok57
 ·cases h;exact ok59
 ·cases h;exact ok60
 ·cases h;exact ok61
 ·cases h;exact ok64
 ·cases h;exact ok65
 ·cases h;exact ok66
 ·cases h;exact ok70
 ·cases h;exact ok71
 ·cases h;exact ok72
 ·cases h;exact ok73
 ·cases h;exact ok74
 ·cases h;exact ok75
 ·cases h;exact ok81
 ·cases h;exact ok87
 ·cases h;exact ok89
 ·cases h;exact ok90
 ·cases h;exact ok99
 ·cases h;exact ok101
 ·cases h;exact ok102
 ·cases h;exact ok108
 ·cases h
end Go.Proofs.YtepdkmdcainddaaDoor
namespace Go.Proofs
open Go.Shelf
def Tryd.lays156_ren:Go.Shelf.Ren:=⟨fun|156=>34|165=>58|166=>33|169=>35|240=>57|241=>69|276=>68|277=>86|n=>n,fun|31=>65|9=>9|3=>3|4=>4|0=>0|20=>20|72=>69|76=>73|70=>66|37=>67|75=>72|127=>94|164=>103|5=>5|80=>76|n=>n,fun|n=>n⟩
theorem Tryd.lays156:Go.Proofs.Lays.n156 Tryd.prog Tryd.lays156_ren:={
 mixed:=by kernel_rfl
 f156:=Tryd.func34.trans (congrArg some (by kernel_rfl))
 f165:=Tryd.func58.trans (congrArg some (by kernel_rfl))
 f166:=Tryd.func33.trans (congrArg some (by kernel_rfl))
 f169:=Tryd.func35.trans (congrArg some (by kernel_rfl))
 f240:=Tryd.func57.trans (congrArg some (by kernel_rfl))
 f241:=Tryd.func69.trans (congrArg some (by kernel_rfl))
 f276:=Tryd.func68.trans (congrArg some (by kernel_rfl))
 f277:=Tryd.func86.trans (congrArg some (by kernel_rfl))
 t0:=Tryd.underlying0
 a0:=Tryd.isAgg0
 z0:=Tryd.sizeOf0
 v0:=Tryd.zeroValue0
 t3:=Tryd.underlying3
 a3:=Tryd.isAgg3
 z3:=Tryd.sizeOf3
 v3:=Tryd.zeroValue3
 t4:=Tryd.underlying4
 a4:=Tryd.isAgg4
 z4:=Tryd.sizeOf4
 v4:=Tryd.zeroValue4
 t9:=Tryd.underlying9
 a9:=Tryd.isAgg9
 z9:=Tryd.sizeOf9
 v9:=Tryd.zeroValue9
 t20:=Tryd.underlying20
 a20:=Tryd.isAgg20
 z20:=Tryd.sizeOf20
 v20:=Tryd.zeroValue20
 t31:=Tryd.underlying65
 a31:=Tryd.isAgg65
 z31:=Tryd.sizeOf65
 v31:=Tryd.zeroValue65
 t37:=Tryd.underlying67
 a37:=Tryd.isAgg67
 z37:=Tryd.sizeOf67
 v37:=Tryd.zeroValue67
 t70:=Tryd.underlying66
 a70:=Tryd.isAgg66
 z70:=Tryd.sizeOf66
 v70:=Tryd.zeroValue66
 t72:=Tryd.underlying69
 a72:=Tryd.isAgg69
 z72:=Tryd.sizeOf69
 v72:=Tryd.zeroValue69
 t75:=Tryd.underlying72
 a75:=Tryd.isAgg72
 z75:=Tryd.sizeOf72
 v75:=Tryd.zeroValue72
 t76:=Tryd.underlying73
 a76:=Tryd.isAgg73
 z76:=Tryd.sizeOf73
 v76:=Tryd.zeroValue73
 t127:=Tryd.underlying94
 a127:=Tryd.isAgg94
 z127:=Tryd.sizeOf94
 v127:=Tryd.zeroValue94
 t164:=Tryd.underlying103
 a164:=Tryd.isAgg103
 z164:=Tryd.sizeOf103
 v164:=Tryd.zeroValue103}
theorem Tryd.Builder_Extra_156:Builder.Extra Tryd.prog Tryd.lays156_ren:={
 sizeBuilder:=by kernel_rfl
 liesBuilder:=by kernel_rfl
 t5:=Tryd.underlying5
 a5:=Tryd.isAgg5
 z5:=Tryd.sizeOf5
 v5:=Tryd.zeroValue5
 infoByte:=by kernel_rfl
 cellsByte:=by kernel_rfl
 sizeByte:=by kernel_rfl
 neB5:=by decide}
open Go.RowKit in
theorem Tryd.strings_Join_none (a:Option Addr) (c:Nat) (sep:ByteArray) (w:World):
  Calls Tryd.prog 34 #[.slice a 0 c,.string sep] w fun e w'=>e= .returned (.string ⟨#[]⟩)∧w'=w:=Any.strings_Join_none Tryd.lays156 Tryd.Builder_Extra_156 a c sep w
open Go.RowKit in
theorem Tryd.strings_Join (bk o c:Nat) (xs:List ByteArray) (sep:ByteArray) (w:World) (hcells:∀ (j:Nat) x,xs[j]? =some x→w.cell? ⟨bk,o+j,none⟩=some (.string x)) (hbk:bk<w.heap.size) (hN:xs.length≤140737488355328) (hcap:xs.length≤c) (hlen:(Lib.join (xs.map (·.data.toList)) sep.data.toList).length≤140737488355328):
  Calls Tryd.prog 34 #[.slice (some ⟨bk,o,none⟩) xs.length c,.string sep] w fun e w'=>e= .returned (.string ⟨(Lib.join (xs.map (·.data.toList)) sep.data.toList).toArray⟩)∧Below w.heap.size w w':=Any.strings_Join Tryd.lays156 Tryd.Builder_Extra_156 bk o c xs sep w hcells hbk hN hcap hlen
def Tryd.laysM171_ren:Go.Shelf.Ren:=⟨fun|171=>32|243=>56|246=>67|283=>82|284=>83|285=>84|286=>85|129=>95|317=>94|318=>96|319=>97|320=>98|337=>105|338=>106|n=>n,fun|3=>3|9=>9|2=>2|4=>4|171=>118|0=>0|53=>119|37=>67|5=>5|173=>122|212=>136|51=>137|20=>20|213=>138|46=>129|232=>151|233=>152|n=>n,fun|17=>2|18=>6|19=>7|n=>n⟩
theorem Tryd.laysM171:Go.Proofs.LaysM.n171 Tryd.prog Tryd.laysM171_ren:={
 mixed:=by kernel_rfl
 f129:=Tryd.func95.trans (congrArg some (by kernel_rfl))
 f171:=Tryd.func32.trans (congrArg some (by kernel_rfl))
 f243:=Tryd.func56.trans (congrArg some (by kernel_rfl))
 f246:=Tryd.func67.trans (congrArg some (by kernel_rfl))
 f283:=Tryd.func82.trans (congrArg some (by kernel_rfl))
 f284:=Tryd.func83.trans (congrArg some (by kernel_rfl))
 f285:=Tryd.func84.trans (congrArg some (by kernel_rfl))
 f286:=Tryd.func85.trans (congrArg some (by kernel_rfl))
 f317:=Tryd.func94.trans (congrArg some (by kernel_rfl))
 f318:=Tryd.func96.trans (congrArg some (by kernel_rfl))
 f319:=Tryd.func97.trans (congrArg some (by kernel_rfl))
 f320:=Tryd.func98.trans (congrArg some (by kernel_rfl))
 f337:=Tryd.func105.trans (congrArg some (by kernel_rfl))
 f338:=Tryd.func106.trans (congrArg some (by kernel_rfl))
 t0:=Tryd.underlying0
 a0:=Tryd.isAgg0
 z0:=Tryd.sizeOf0
 v0:=Tryd.zeroValue0
 t2:=Tryd.underlying2
 a2:=Tryd.isAgg2
 z2:=Tryd.sizeOf2
 v2:=Tryd.zeroValue2
 t3:=Tryd.underlying3
 a3:=Tryd.isAgg3
 z3:=Tryd.sizeOf3
 v3:=Tryd.zeroValue3
 t4:=Tryd.underlying4
 a4:=Tryd.isAgg4
 z4:=Tryd.sizeOf4
 v4:=Tryd.zeroValue4
 t5:=Tryd.underlying5
 a5:=Tryd.isAgg5
 z5:=Tryd.sizeOf5
 v5:=Tryd.zeroValue5
 t9:=Tryd.underlying9
 a9:=Tryd.isAgg9
 z9:=Tryd.sizeOf9
 v9:=Tryd.zeroValue9
 t20:=Tryd.underlying20
 a20:=Tryd.isAgg20
 z20:=Tryd.sizeOf20
 v20:=Tryd.zeroValue20
 t37:=Tryd.underlying67
 a37:=Tryd.isAgg67
 z37:=Tryd.sizeOf67
 v37:=Tryd.zeroValue67
 t46:=Tryd.underlying129
 a46:=Tryd.isAgg129
 z46:=Tryd.sizeOf129
 v46:=Tryd.zeroValue129
 t51:=Tryd.underlying137
 a51:=Tryd.isAgg137
 z51:=Tryd.sizeOf137
 v51:=Tryd.zeroValue137
 t53:=Tryd.underlying119
 a53:=Tryd.isAgg119
 z53:=Tryd.sizeOf119
 v53:=Tryd.zeroValue119
 t171:=Tryd.underlying118
 a171:=Tryd.isAgg118
 z171:=Tryd.sizeOf118
 v171:=Tryd.zeroValue118
 t173:=Tryd.underlying122
 a173:=Tryd.isAgg122
 z173:=Tryd.sizeOf122
 v173:=Tryd.zeroValue122
 t212:=Tryd.underlying136
 a212:=Tryd.isAgg136
 z212:=Tryd.sizeOf136
 v212:=Tryd.zeroValue136
 t213:=Tryd.underlying138
 a213:=Tryd.isAgg138
 z213:=Tryd.sizeOf138
 t232:=Tryd.underlying151
 a232:=Tryd.isAgg151
 z232:=Tryd.sizeOf151
 v232:=Tryd.zeroValue151
 t233:=Tryd.underlying152
 a233:=Tryd.isAgg152
 z233:=Tryd.sizeOf152
 v233:=Tryd.zeroValue152
 g17:=by kernel_rfl
 g18:=by kernel_rfl
 g19:=by kernel_rfl
 i0:=by kernel_rfl
 i2:=by kernel_rfl
 i3:=by kernel_rfl
 i4:=by kernel_rfl
 i5:=by kernel_rfl
 i9:=by kernel_rfl
 i20:=by kernel_rfl
 i37:=by kernel_rfl
 i46:=by kernel_rfl
 i51:=by kernel_rfl
 i53:=by kernel_rfl
 i171:=by kernel_rfl
 i173:=by kernel_rfl
 i212:=by kernel_rfl
 i232:=by kernel_rfl
 i233:=by kernel_rfl
 m17:=by kernel_rfl
 m18:=by kernel_rfl
 m19:=by kernel_rfl}
open Go.RowKit Go.Sort Go.Lib in
theorem Tryd.strconv_Itoa (n:Int) (h0: -9223372036854775808≤n) (h1:n≤9223372036854775807) (w:World) (htab:Lib.TabIs Tryd.prog w "internal/strconv.uint64pow10" .u64 Lib.pow10Tab):
  Calls Tryd.prog 32 #[.int .i64 n] w fun e w'=>e= .returned (.string ⟨(Lib.itoa n).toArray⟩)∧∃ k os,w'=grow (w.drewN k) os:=Any.strconv_Itoa Tryd.laysM171 n h0 h1 w htab
def Tryd.laysC172_ren:Go.Shelf.Ren:=⟨fun|172=>50|244=>62|245=>63|247=>76|279=>77|280=>78|281=>79|282=>80|287=>91|316=>92|171=>32|205=>93|321=>103|322=>104|243=>56|246=>67|283=>82|284=>83|285=>84|286=>85|129=>95|317=>94|318=>96|319=>97|320=>98|337=>105|338=>106|n=>n,fun|9=>9|3=>3|75=>72|76=>73|4=>4|5=>5|167=>111|37=>67|0=>0|85=>112|2=>2|168=>114|53=>119|175=>127|46=>129|210=>132|127=>94|145=>147|143=>145|21=>21|171=>118|173=>122|212=>136|51=>137|20=>20|213=>138|232=>151|233=>152|80=>76|n=>n,fun|15=>0|16=>1|17=>2|18=>6|19=>7|n=>n⟩
theorem Tryd.laysC172:Go.Proofs.LaysC.n172 Tryd.prog Tryd.laysC172_ren:={
 mixed:=by kernel_rfl
 f129:=Tryd.func95.trans (congrArg some (by kernel_rfl))
 f171:=Tryd.func32.trans (congrArg some (by kernel_rfl))
 f172:=Tryd.func50.trans (congrArg some (by kernel_rfl))
 f205:=Tryd.func93.trans (congrArg some (by kernel_rfl))
 f243:=Tryd.func56.trans (congrArg some (by kernel_rfl))
 f244:=Tryd.func62.trans (congrArg some (by kernel_rfl))
 f245:=Tryd.func63.trans (congrArg some (by kernel_rfl))
 f246:=Tryd.func67.trans (congrArg some (by kernel_rfl))
 f247:=Tryd.func76.trans (congrArg some (by kernel_rfl))
 f279:=Tryd.func77.trans (congrArg some (by kernel_rfl))
 f280:=Tryd.func78.trans (congrArg some (by kernel_rfl))
 f281:=Tryd.func79.trans (congrArg some (by kernel_rfl))
 f282:=Tryd.func80.trans (congrArg some (by kernel_rfl))
 f283:=Tryd.func82.trans (congrArg some (by kernel_rfl))
 f284:=Tryd.func83.trans (congrArg some (by kernel_rfl))
 f285:=Tryd.func84.trans (congrArg some (by kernel_rfl))
 f286:=Tryd.func85.trans (congrArg some (by kernel_rfl))
 f287:=Tryd.func91.trans (congrArg some (by kernel_rfl))
 f316:=Tryd.func92.trans (congrArg some (by kernel_rfl))
 f317:=Tryd.func94.trans (congrArg some (by kernel_rfl))
 f318:=Tryd.func96.trans (congrArg some (by kernel_rfl))
 f319:=Tryd.func97.trans (congrArg some (by kernel_rfl))
 f320:=Tryd.func98.trans (congrArg some (by kernel_rfl))
 f321:=Tryd.func103.trans (congrArg some (by kernel_rfl))
 f322:=Tryd.func104.trans (congrArg some (by kernel_rfl))
 f337:=Tryd.func105.trans (congrArg some (by kernel_rfl))
 f338:=Tryd.func106.trans (congrArg some (by kernel_rfl))
 t0:=Tryd.underlying0
 a0:=Tryd.isAgg0
 z0:=Tryd.sizeOf0
 v0:=Tryd.zeroValue0
 t2:=Tryd.underlying2
 a2:=Tryd.isAgg2
 z2:=Tryd.sizeOf2
 v2:=Tryd.zeroValue2
 t3:=Tryd.underlying3
 a3:=Tryd.isAgg3
 z3:=Tryd.sizeOf3
 v3:=Tryd.zeroValue3
 t4:=Tryd.underlying4
 a4:=Tryd.isAgg4
 z4:=Tryd.sizeOf4
 v4:=Tryd.zeroValue4
 t5:=Tryd.underlying5
 a5:=Tryd.isAgg5
 z5:=Tryd.sizeOf5
 v5:=Tryd.zeroValue5
 t9:=Tryd.underlying9
 a9:=Tryd.isAgg9
 z9:=Tryd.sizeOf9
 v9:=Tryd.zeroValue9
 t20:=Tryd.underlying20
 a20:=Tryd.isAgg20
 z20:=Tryd.sizeOf20
 v20:=Tryd.zeroValue20
 t21:=Tryd.underlying21
 a21:=Tryd.isAgg21
 z21:=Tryd.sizeOf21
 v21:=Tryd.zeroValue21
 t37:=Tryd.underlying67
 a37:=Tryd.isAgg67
 z37:=Tryd.sizeOf67
 v37:=Tryd.zeroValue67
 t46:=Tryd.underlying129
 a46:=Tryd.isAgg129
 z46:=Tryd.sizeOf129
 v46:=Tryd.zeroValue129
 t51:=Tryd.underlying137
 a51:=Tryd.isAgg137
 z51:=Tryd.sizeOf137
 v51:=Tryd.zeroValue137
 t53:=Tryd.underlying119
 a53:=Tryd.isAgg119
 z53:=Tryd.sizeOf119
 v53:=Tryd.zeroValue119
 t75:=Tryd.underlying72
 a75:=Tryd.isAgg72
 z75:=Tryd.sizeOf72
 v75:=Tryd.zeroValue72
 t76:=Tryd.underlying73
 a76:=Tryd.isAgg73
 z76:=Tryd.sizeOf73
 v76:=Tryd.zeroValue73
 t85:=Tryd.underlying112
 a85:=Tryd.isAgg112
 z85:=Tryd.sizeOf112
 v85:=Tryd.zeroValue112
 t127:=Tryd.underlying94
 a127:=Tryd.isAgg94
 z127:=Tryd.sizeOf94
 v127:=Tryd.zeroValue94
 t143:=Tryd.underlying145
 a143:=Tryd.isAgg145
 z143:=Tryd.sizeOf145
 v143:=Tryd.zeroValue145
 t145:=Tryd.underlying147
 a145:=Tryd.isAgg147
 z145:=Tryd.sizeOf147
 v145:=Tryd.zeroValue147
 t167:=Tryd.underlying111
 a167:=Tryd.isAgg111
 z167:=Tryd.sizeOf111
 v167:=Tryd.zeroValue111
 t168:=Tryd.underlying114
 a168:=Tryd.isAgg114
 z168:=Tryd.sizeOf114
 v168:=Tryd.zeroValue114
 t171:=Tryd.underlying118
 a171:=Tryd.isAgg118
 z171:=Tryd.sizeOf118
 v171:=Tryd.zeroValue118
 t173:=Tryd.underlying122
 a173:=Tryd.isAgg122
 z173:=Tryd.sizeOf122
 v173:=Tryd.zeroValue122
 t175:=Tryd.underlying127
 a175:=Tryd.isAgg127
 z175:=Tryd.sizeOf127
 v175:=Tryd.zeroValue127
 t210:=Tryd.underlying132
 a210:=Tryd.isAgg132
 z210:=Tryd.sizeOf132
 v210:=Tryd.zeroValue132
 t212:=Tryd.underlying136
 a212:=Tryd.isAgg136
 z212:=Tryd.sizeOf136
 v212:=Tryd.zeroValue136
 t213:=Tryd.underlying138
 a213:=Tryd.isAgg138
 z213:=Tryd.sizeOf138
 t232:=Tryd.underlying151
 a232:=Tryd.isAgg151
 z232:=Tryd.sizeOf151
 v232:=Tryd.zeroValue151
 t233:=Tryd.underlying152
 a233:=Tryd.isAgg152
 z233:=Tryd.sizeOf152
 v233:=Tryd.zeroValue152
 g15:=by kernel_rfl
 g16:=by kernel_rfl
 g17:=by kernel_rfl
 g18:=by kernel_rfl
 g19:=by kernel_rfl
 t80:=Tryd.underlying76
 a80:=Tryd.isAgg76
 z80:=Tryd.sizeOf76
 v80:=Tryd.zeroValue76
 i0:=by kernel_rfl
 i2:=by kernel_rfl
 i3:=by kernel_rfl
 i4:=by kernel_rfl
 i5:=by kernel_rfl
 i9:=by kernel_rfl
 i20:=by kernel_rfl
 i21:=by kernel_rfl
 i37:=by kernel_rfl
 i46:=by kernel_rfl
 i51:=by kernel_rfl
 i53:=by kernel_rfl
 i75:=by kernel_rfl
 i76:=by kernel_rfl
 i80:=by kernel_rfl
 i85:=by kernel_rfl
 i127:=by kernel_rfl
 i143:=by kernel_rfl
 i145:=by kernel_rfl
 i167:=by kernel_rfl
 i168:=by kernel_rfl
 i171:=by kernel_rfl
 i173:=by kernel_rfl
 i175:=by kernel_rfl
 i210:=by kernel_rfl
 i212:=by kernel_rfl
 i232:=by kernel_rfl
 i233:=by kernel_rfl
 m15:=by kernel_rfl
 m16:=by kernel_rfl
 m17:=by kernel_rfl
 m18:=by kernel_rfl
 m19:=by kernel_rfl
 c0:=by kernel_rfl
 c2:=by kernel_rfl
 c3:=by kernel_rfl
 c4:=by kernel_rfl
 c5:=by kernel_rfl
 c9:=by kernel_rfl
 c20:=by kernel_rfl
 c21:=by kernel_rfl
 c37:=by kernel_rfl
 c46:=by kernel_rfl
 c51:=by kernel_rfl
 c53:=by kernel_rfl
 c75:=by kernel_rfl
 c76:=by kernel_rfl
 c80:=by kernel_rfl
 c85:=by kernel_rfl
 c127:=by kernel_rfl
 c143:=by kernel_rfl
 c145:=by kernel_rfl
 c167:=by kernel_rfl
 c168:=by kernel_rfl
 c171:=by kernel_rfl
 c173:=by kernel_rfl
 c175:=by kernel_rfl
 c210:=by kernel_rfl
 c212:=by kernel_rfl
 c213:=by kernel_rfl
 c232:=by kernel_rfl
 c233:=by kernel_rfl}
open Go.RowKit in
theorem Tryd.strconv_Atoi_ok (s:ByteArray) (hmax:s.size≤9223372036854775806) (v:Int) (h:Lib.atoiAll s.data.toList= .ok v) (w:World):
  Calls Tryd.prog 50 #[.string s] w fun e w'=>e= .returned (.tuple #[.int .i64 v,.nilIface])∧(w'=w∨∃ t,w'=Lib.bytesWorld w 5 t):=Any.strconv_Atoi_ok Tryd.laysC172 s hmax v h w
open Go.RowKit in
theorem Tryd.strconv_Atoi_syntax_var (s:ByteArray) (hlim:s.size≤281474976710656) (h:Lib.atoiAll s.data.toList=Lib.atoiAll []) (tp:TypeId) (p:Value) (w:World) (hvar:w.var? Tryd.prog "strconv.ErrSyntax"=some #[.iface tp p]):
  Calls Tryd.prog 50 #[.string s] w fun e w'=>∃ N,e= .returned (.tuple #[.int .i64 0,.iface 114 (.pointer (some ⟨N,0,none⟩))])∧w.heap.size≤N∧w'.heap[N]? =some (.cells #[.string ⟨#[65,116,111,105]⟩,.string s,.iface tp p] 132 (0,0))∧Below w.heap.size w w':=Any.strconv_Atoi_syntax_var Tryd.laysC172 s hlim h tp p w hvar
open Go.RowKit in
theorem Tryd.strconv_Atoi_range_var (s:ByteArray) (hlim:s.size≤281474976710656) (h:Lib.atoiAll s.data.toList= .range) (tp:TypeId) (p:Value) (w:World) (hvar:w.var? Tryd.prog "strconv.ErrRange"=some #[.iface tp p]):
  Calls Tryd.prog 50 #[.string s] w fun e w'=>∃ N,e= .returned (.tuple #[.int .i64 (Lib.atoiSat s.data.toList),.iface 114 (.pointer (some ⟨N,0,none⟩))])∧w.heap.size≤N∧w'.heap[N]? =some (.cells #[.string ⟨#[65,116,111,105]⟩,.string s,.iface tp p] 132 (0,0))∧Below w.heap.size w w':=Any.strconv_Atoi_range_var Tryd.laysC172 s hlim h tp p w hvar
end Go.Proofs
namespace Go.Proofs.YtepdkmdcainddaaDoor
open Go Go.Itp
open Go.RowKit (Below)
set_option linter.unusedVariables false
set_option maxRecDepth 100000
theorem own:ownKnob Tryd.prog.godebug=none:=by kernel_rfl
theorem mixed:Tryd.prog.follows .mixedOrders=true:=by kernel_rfl
def prims0:List (FuncId × Prim × TypeId):= [(68,.same,0),(107,.indexByte,0),(88,.count,0)]
theorem prims_all:AllPrims Tryd.prog prims0:=
 ⟨⟨⟨Tryd.f68,Tryd.func68,by kernel_rfl,by kernel_rfl,by kernel_rfl,rfl⟩⟩,⟨⟨Tryd.f107,Tryd.func107,by kernel_rfl,by kernel_rfl,by kernel_rfl,rfl⟩⟩,⟨⟨Tryd.f88,Tryd.func88,by kernel_rfl,by kernel_rfl,by kernel_rfl,rfl⟩⟩,trivial⟩
noncomputable abbrev PR (w:World):FuncId→List Value→St→Option (Value × List Blk):=
 orElseP (primsOf prims0) (orElseP (itoaP 32) (orElseP (joinP (oldOf w) 34)
  (atoiP 50 114 132 (errO Tryd.prog w "strconv.ErrSyntax") (errO Tryd.prog w "strconv.ErrRange"))))
noncomputable abbrev EN (w:World) (n:Nat):Env:=callP (oldOf w) many fns (PR w) n
abbrev Tab (w:World):Prop:=Lib.TabIs Tryd.prog w "internal/strconv.uint64pow10" .u64 Lib.pow10Tab
theorem prims_ok (W:World) (ht:Tab W):PrimsOK Tryd.prog (PR W) W:=
 orElse_ok (primsOf_ok prims0 prims_all W) (orElse_ok
  (itoaP_ok ⟨Tryd.f32,_,Tryd.func32,rfl,by kernel_rfl⟩ ht Tryd.strconv_Itoa) (orElse_ok
  (joinP_ok ⟨Tryd.f34,_,Tryd.func34,rfl,by kernel_rfl⟩ (oldOf_ok W) Tryd.strings_Join_none Tryd.strings_Join)
  (atoiP_ok (u8:=5) ⟨Tryd.f50,_,Tryd.func50,rfl,by kernel_rfl⟩ Tryd.strconv_Atoi_ok Tryd.strconv_Atoi_syntax_var Tryd.strconv_Atoi_range_var)))
theorem law_of {W:World} (ht:Tab W) {f:FuncId} {af:AFun} (hf:fns f=some af) {xs:List Value} (hxs:idsL 0 xs= []) (n:Nat) {v:Value} {s':St} (hb:body (EN W n) af xs St.empty=some (v,s')) (hv:ids 0 v= []):
  Calls Tryd.prog f xs.toArray W fun e w'=>e= .returned v∧Below W.heap.size W w':=
 law_at mixed fns_ok (oldOf_ok W) (prims_ok W ht) hf hxs n hb hv
theorem itoa_s (w:World) (n:Nat) (st:VSt) (k:Int) (h0: -9223372036854775808≤k) (h1:k≤9223372036854775807):VSpecO (EN w (n+1)) 32 st [.sc (.int .i64 k)] (.sc (.string ⟨(Lib.itoa k).toArray⟩)):=
 itoa_o h0 h1 fun xs s r h=>orElse_right rfl (orElse_left h)
theorem join_s (w:World) (n:Nat) (st:VSt) (s:Nat) (hs:s ≠ 1) (ls:List (List UInt8)) (sep:List UInt8) (hl:ls.length≤1099511627776) (hlen:(Lib.join ls sep).length≤140737488355328):
  VSpecO (EN w (n+1)) 34 st [.sl s ls.length (ls.map sD),.sc (.string ⟨sep.toArray⟩)] (.sc (.string ⟨(Lib.join ls sep).toArray⟩)):=
 join_o s hs ls sep hl hlen fun xs s r h=>orElse_right rfl (orElse_right rfl (orElse_left h))
theorem atoi_s (w:World) (n:Nat) (st:VSt) (b:ByteArray) (v:Int) (hb:b.size≤281474976710656) (h:Lib.atoiAll b.data.toList= .ok v):VSpecO (EN w (n+1)) 50 st [.sc (.string b)] (.tup [.sc (.int .i64 v),.sc .nilIface]):=
 atoi_o hb h fun xs s r h=>orElse_right rfl (orElse_right rfl (orElse_right rfl h))
theorem atoi_f (w:World) (n:Nat) (b:ByteArray) (hb:b.size≤281474976710656) (hes:(errO Tryd.prog w "strconv.ErrSyntax").isSome=true) (her:(errO Tryd.prog w "strconv.ErrRange").isSome=true) (h:∀ v,Lib.atoiAll b.data.toList ≠ .ok v):
  ∃ (k:Int) (cs:List Value),VSpec (EN w (n+1)) 50 [.sc (.string b)] (.tup [.sc (.int .i64 k),.ifc 114 (.ptr 0 0)]) ⟨[(0,.box 132 1 (cs.map V.sc))],1,0⟩:=
 atoi_e hb (errO_ok hes) (errO_ok her) h fun xs s r h=>orElse_right rfl (orElse_right rfl (orElse_right rfl h))
end Go.Proofs.YtepdkmdcainddaaDoor
namespace Go.Proofs.YtepdkmdcainddaaDoor
open Go Go.Itp
set_option maxRecDepth 100000
set_option linter.unusedSimpArgs false
def bD (b:Bool):D:= .sc (.bool b)
theorem bD_dv (b:Bool):dv (bD b)= .sc (.bool b):=(rfl)
end Go.Proofs.YtepdkmdcainddaaDoor
namespace Go.Proofs.YtepdkmdcainddaaDoor
open Go Go.Itp
set_option maxRecDepth 100000
set_option linter.unusedSimpArgs false
def rowD (s:Nat) (r:List Bool):D:= .sl s r.length (r.map bD)
theorem rowD_dv (s:Nat) (r:List Bool):dv (rowD s r)= .sl s r.length (r.map bD):=(rfl)
end Go.Proofs.YtepdkmdcainddaaDoor
namespace Go.Proofs.YtepdkmdcainddaaDoor
open Go Go.Itp
set_option maxRecDepth 100000
set_option maxHeartbeats 1000000
set_option linter.unusedSimpArgs false
def chkG (a b:Int) (L:Nat):Int:=if 64<a∨64<b then 4 else if a<1∨b<1 then 8 else if (L:Int)=a*b then 0 else 8
def chkE (a b:Int) (L:Nat):Int:=if chkG a b L=0 then (if 40<a then 8 else 0) else chkG a b L
theorem prod_le {a b:Int} (h1:1≤a) (h2:a≤64) (h3:1≤b) (h4:b≤64):1≤a*b∧a*b≤4096:=by
 have e1:a*b≤64*64:=Int.mul_le_mul h2 h4 (by omega) (by omega)
 have e2:1*1≤a*b:=Int.mul_le_mul h1 h3 (by omega) (by omega)
 omega
abbrev gridV (s:Nat) (a b:Int) (B:List Bool):V:= .agg [.sc (.int .i64 a),.sc (.int .i64 b),.sl s B.length (B.map bD)]
section
variable (w:World) (n:Nat)
end
end Go.Proofs.YtepdkmdcainddaaDoor
namespace Go.Proofs.YtepdkmdcainddaaDoor
open Go Go.Itp
set_option maxRecDepth 100000
set_option maxHeartbeats 1000000
set_option linter.unusedSimpArgs false
section
variable (w:World) (n:Nat)
end
end Go.Proofs.YtepdkmdcainddaaDoor
namespace Go.Proofs.YtepdkmdcainddaaDoor
open Go Go.Itp
set_option maxRecDepth 100000
set_option maxHeartbeats 1000000
set_option linter.unusedSimpArgs false
section
variable (w:World) (n:Nat)
theorem gcheck_p (s:Nat) (a b:Int) (B:List Bool) (_hB:B.length≤140737488351232):VSpec (EN w (n+1)) 43 [gridV s a b B] (.sc (.int .i64 (chkG a b B.length))) ⟨[],0,0⟩:=by
 refine vspec_flat rfl rfl (fun _ _=>rfl) (Nat.le_of_ble_eq_true rfl) (oldVals w) rfl fun C hC h0=>?_
 by_cases h1:64<a∨64<b
 ·have e:chkG a b B.length=4:=if_pos h1
  rw[e]
  repeat' (first|(simp (disch:=first|omega|assumption|exact bd (by with_unfolding_all rfl)|exact Or.inl rfl|exact Or.inl trivial|exact okL_map _ (fun _=>rfl) _|(simp only[VVlen]<;>omega)|fail) only[VV0,VV1,VV2,VV3,VV4,VV5,VV6,VV7,VV8,VV9,mkFnV,vargs,slotsL,opdsA,Nat.reduceEqDiff,Nat.reduceLT,Nat.reduceAdd,Nat.reduceBEq,Int.reduceAdd,Int.reduceSub,Int.reduceLT,Int.reduceLE,Int.reduceEq,Int.reduceNeg,↓reduceIte,reduceCtorEq,scL,scD,expand,List.replicate,c43])|apply gC_drawW|((first|apply gI_dec|apply gG_dec|apply gPG_dec|apply gI_var|apply gG_var|apply gPG_var)<;>intro _))
  exact weak_flat rfl h0 rfl
 by_cases h2:a<1∨b<1
 ·have e:chkG a b B.length=8:=by unfold chkG;rw[if_neg h1,if_pos h2]
  rw[e]
  repeat' (first|(simp (disch:=first|omega|assumption|exact bd (by with_unfolding_all rfl)|exact Or.inl rfl|exact Or.inl trivial|exact okL_map _ (fun _=>rfl) _|(simp only[VVlen]<;>omega)|fail) only[VV0,VV1,VV2,VV3,VV4,VV5,VV6,VV7,VV8,VV9,mkFnV,vargs,slotsL,opdsA,Nat.reduceEqDiff,Nat.reduceLT,Nat.reduceAdd,Nat.reduceBEq,Int.reduceAdd,Int.reduceSub,Int.reduceLT,Int.reduceLE,Int.reduceEq,Int.reduceNeg,↓reduceIte,reduceCtorEq,scL,scD,expand,List.replicate,c43])|apply gC_drawW|((first|apply gI_dec|apply gG_dec|apply gPG_dec|apply gI_var|apply gG_var|apply gPG_var)<;>intro _))
  exact weak_flat rfl h0 rfl
 have hp:=prod_le (a:=a) (b:=b) (by omega) (by omega) (by omega) (by omega)
 have e:chkG a b B.length=if (B.length:Int)=a*b then 0 else 8:=by unfold chkG;rw[if_neg h1,if_neg h2]
 rw[e]
 by_cases h5:(B.length:Int)=a*b
 ·rw[if_pos h5]
  repeat' (first|(simp (disch:=first|omega|assumption|exact bd (by with_unfolding_all rfl)|exact Or.inl rfl|exact Or.inl trivial|exact okL_map _ (fun _=>rfl) _|(simp only[VVlen]<;>omega)|fail) only[VV0,VV1,VV2,VV3,VV4,VV5,VV6,VV7,VV8,VV9,mkFnV,vargs,slotsL,opdsA,Nat.reduceEqDiff,Nat.reduceLT,Nat.reduceAdd,Nat.reduceBEq,Int.reduceAdd,Int.reduceSub,Int.reduceLT,Int.reduceLE,Int.reduceEq,Int.reduceNeg,↓reduceIte,reduceCtorEq,scL,scD,expand,List.replicate,c43])|apply gC_drawW|((first|apply gI_dec|apply gG_dec|apply gPG_dec|apply gI_var|apply gG_var|apply gPG_var)<;>intro _))
  exact weak_flat rfl h0 rfl
 ·rw[if_neg h5]
  repeat' (first|(simp (disch:=first|omega|assumption|exact bd (by with_unfolding_all rfl)|exact Or.inl rfl|exact Or.inl trivial|exact okL_map _ (fun _=>rfl) _|(simp only[VVlen]<;>omega)|fail) only[VV0,VV1,VV2,VV3,VV4,VV5,VV6,VV7,VV8,VV9,mkFnV,vargs,slotsL,opdsA,Nat.reduceEqDiff,Nat.reduceLT,Nat.reduceAdd,Nat.reduceBEq,Int.reduceAdd,Int.reduceSub,Int.reduceLT,Int.reduceLE,Int.reduceEq,Int.reduceNeg,↓reduceIte,reduceCtorEq,scL,scD,expand,List.replicate,c43])|apply gC_drawW|((first|apply gI_dec|apply gG_dec|apply gPG_dec|apply gI_var|apply gG_var|apply gPG_var)<;>intro _))
  exact weak_flat rfl h0 rfl
theorem pcheck_p (s:Nat) (a b:Int) (B:List Bool) (hB:B.length≤140737488351232):VSpec (EN w (n+2)) 15 [gridV s a b B] (.sc (.int .i64 (chkE a b B.length))) ⟨[],0,0⟩:=by
 refine vspec_flat rfl rfl (fun _ _=>rfl) (Nat.le_of_ble_eq_true rfl) (oldVals w) rfl fun C hC h0=>?_
 have hc:=fun st=>(gcheck_p w n s a b B hB).of hC rfl st rfl
 repeat' (first|(simp (disch:=first|omega|assumption|exact bd (by with_unfolding_all rfl)|exact Or.inl rfl|exact Or.inl trivial|exact okL_map _ (fun _=>rfl) _|(simp only[VVlen]<;>omega)|fail) only[VV0,VV1,VV2,VV3,VV4,VV5,VV6,VV7,VV8,VV9,mkFnV,vargs,slotsL,opdsA,Nat.reduceEqDiff,Nat.reduceLT,Nat.reduceAdd,Nat.reduceBEq,Int.reduceAdd,Int.reduceSub,Int.reduceLT,Int.reduceLE,Int.reduceEq,Int.reduceNeg,↓reduceIte,reduceCtorEq,scL,scD,expand,List.replicate,c15])|apply gC_drawW|((first|apply gI_dec|apply gG_dec|apply gPG_dec|apply gI_var|apply gG_var|apply gPG_var)<;>intro _))
 refine callV_flat (hc _) ?_
 have key:chkE a b B.length=if chkG a b B.length=0 then (if 40<a then 8 else 0) else chkG a b B.length:=rfl
 repeat' (first|(simp (disch:=first|omega|assumption|exact bd (by with_unfolding_all rfl)|exact Or.inl rfl|exact Or.inl trivial|exact okL_map _ (fun _=>rfl) _|(simp only[VVlen]<;>omega)|fail) only[VV0,VV1,VV2,VV3,VV4,VV5,VV6,VV7,VV8,VV9,mkFnV,vargs,slotsL,opdsA,Nat.reduceEqDiff,Nat.reduceLT,Nat.reduceAdd,Nat.reduceBEq,Int.reduceAdd,Int.reduceSub,Int.reduceLT,Int.reduceLE,Int.reduceEq,Int.reduceNeg,↓reduceIte,reduceCtorEq,scL,scD,expand,List.replicate])|apply gC_drawW|((first|apply gI_dec|apply gG_dec|apply gPG_dec|apply gI_var|apply gG_var|apply gPG_var)<;>intro _))
 ·rename_i h1
  rw[if_neg h1] at key
  rw[key]
  exact weak_flat rfl h0 rfl
 ·rename_i h1 h2
  rw[if_pos (Classical.not_not.1 h1),if_pos h2] at key
  rw[key]
  exact weak_flat rfl h0 rfl
 ·rename_i h1 h2
  rw[if_pos (Classical.not_not.1 h1),if_neg h2] at key
  rw[key]
  exact weak_flat rfl h0 rfl
end
end Go.Proofs.YtepdkmdcainddaaDoor
namespace Go.Proofs.YtepdkmdcainddaaDoor
open Go Go.Itp
set_option maxRecDepth 100000
set_option maxHeartbeats 1000000
set_option linter.unusedSimpArgs false
def bitsRow (B:List Bool) (Q k:Nat):List Bool:=(List.range Q).map fun x=>B[k*Q+x]!
theorem bitsRow_len (B:List Bool) (Q k:Nat):(bitsRow B Q k).length=Q:=by simp[bitsRow]
theorem part_row (B:List Bool) (Q k:Nat) (h:(k+1)*Q≤B.length):(B.drop (k*Q)).take Q=bitsRow B Q k:=by
 have hm:(k+1)*Q=k*Q+Q:=Nat.succ_mul k Q
 refine List.ext_getElem ?_ fun i h1 h2=>?_
 ·rw[List.length_take,List.length_drop,bitsRow_len];omega
 ·rw[bitsRow_len] at h2
  simp only[bitsRow,List.getElem_drop,List.getElem_take,List.getElem_map,List.getElem_range]
  rw[getElem!_pos B (k*Q+i) (by omega)]
section
variable (w:World) (n:Nat)
end
end Go.Proofs.YtepdkmdcainddaaDoor
namespace Go.Proofs.YtepdkmdcainddaaDoor
open Go Go.Itp
set_option maxRecDepth 100000
set_option linter.unusedSimpArgs false
abbrev strV (l:List UInt8):V:= .sc (.string ⟨l.toArray⟩)
def wordsTo (r:Nat→Bool):Nat→List (List UInt8)
 |0=> []
 |k+1=>wordsTo r k++(if r k then [Lib.itoa ((k:Int)+1)] else [])
def lineTo (r:Nat→Bool):Nat→List UInt8
 |0=> []
 |k+1=>if r k then (if lineTo r k= [] then [] else lineTo r k++ [32])++Lib.itoa ((k:Int)+1) else lineTo r k
theorem dec_ne (x:Nat):Lib.decDigits x ≠ []:=by
 rw[Lib.decDigits]
 split<;>simp
theorem itoa_ne (k:Nat):Lib.itoa ((k:Int)+1) ≠ []:=by
 rw[show ((k:Int)+1)=((k+1:Nat):Int) by omega,Lib.itoa_nonneg]
 exact dec_ne _
theorem line_nil (r:Nat→Bool):∀ k,lineTo r k= []↔wordsTo r k= []
 |0=>by simp[lineTo,wordsTo]
 |k+1=>by
  have:=itoa_ne k
  by_cases h:r k=true
  ·simp[lineTo,wordsTo,h,this]
  ·simp[lineTo,wordsTo,h,line_nil r k]
theorem line_join (r:Nat→Bool):∀ k,Lib.join (wordsTo r k) [32]=lineTo r k
 |0=>rfl
 |k+1=>by
  by_cases h:r k=true
  ·rw[wordsTo,lineTo,if_pos h,if_pos h]
   by_cases h0:lineTo r k= []
   ·rw[if_pos h0,(line_nil r k).1 h0]
    simp[Lib.join_one]
   ·rw[if_neg h0,join_one,join_snoc _ _ (fun e=>h0 ((line_nil r k).2 e)),← join_one,line_join r k]
    simp
  ·rw[wordsTo,lineTo,if_neg h,if_neg h,List.append_nil,line_join r k]
theorem line_len (r:Nat→Bool):∀ k,k≤1000→(lineTo r k).length≤22*k
 |0,_=>Nat.le_refl _
 |k+1,h=>by
  have ih:=line_len r k (by omega)
  have h1:=Lib.itoa_length_le ((k:Int)+1) (by omega) (by omega)
  rw[lineTo]
  split
  ·split
   ·simp;omega
   ·simp;omega
  ·omega
theorem words_len (r:Nat→Bool):∀ k,(wordsTo r k).length≤k
 |0=>Nat.le_refl _
 |k+1=>by
  have:=words_len r k
  rw[wordsTo]
  split<;>simp<;>omega
def rowOf (B:List Bool) (Q y:Nat):Nat→Bool:=fun x=>B[y*Q+x]!
def rowText (r:Nat→Bool) (Q:Nat):List UInt8:=(if lineTo r Q= [] then [45] else lineTo r Q)++ [10]
def planTo (B:List Bool) (Q:Nat):Nat→List UInt8
 |0=> []
 |y+1=>planTo B Q y++rowText (rowOf B Q y) Q
theorem rowText_len (r:Nat→Bool) (Q:Nat) (hQ:Q≤40):(rowText r Q).length≤900:=by
 have:=line_len r Q (by omega)
 unfold rowText
 split<;>simp<;>omega
theorem plan_len (B:List Bool) (Q:Nat) (hQ:Q≤40):∀ k,(planTo B Q k).length≤900*k
 |0=>Nat.le_refl _
 |k+1=>by
  have h1:=plan_len B Q hQ k
  have h2:=rowText_len (rowOf B Q k) Q hQ
  rw[planTo,List.length_append]
  omega
end Go.Proofs.YtepdkmdcainddaaDoor
namespace Go.Proofs.YtepdkmdcainddaaDoor
open Go Go.Itp
set_option maxRecDepth 100000
set_option maxHeartbeats 1000000
set_option linter.unusedSimpArgs false
theorem eqB_b (a b:Bool):eqBV false (.sc (.bool a)) (.sc (.bool b))=some (.sc (.bool (a==b))):=(rfl)
theorem eqB_nb (a b:Bool):eqBV true (.sc (.bool a)) (.sc (.bool b))=some (.sc (.bool (!(a==b)))):=(rfl)
theorem beqB (b:Bool):(b==b)=true:=by cases b<;>rfl
section
variable (w:World) (n:Nat)
theorem same01_p (s s':Nat) (a b:Int) (B:List Bool) (hB:B.length≤5000):VSpec (EN w (n+1)) 18 [gridV s a b B,gridV s' a b B] (.sc (.bool true)) ⟨[],0,0⟩:=by
 refine vspec_flat rfl rfl (fun _ _=>rfl) (Nat.le_of_ble_eq_true rfl) (oldVals w) rfl fun C hC h0=>?_
 repeat' (first|(simp (disch:=first|omega|assumption|exact bd (by with_unfolding_all rfl)|exact Or.inl rfl|exact Or.inl trivial|exact okL_map _ (fun _=>rfl) _|(simp only[VVlen]<;>omega)|fail) only[VV0,VV1,VV2,VV3,VV4,VV5,VV6,VV7,VV8,VV9,mkFnV,vargs,slotsL,opdsA,Nat.reduceEqDiff,Nat.reduceLT,Nat.reduceAdd,Nat.reduceBEq,Int.reduceAdd,Int.reduceSub,Int.reduceLT,Int.reduceLE,Int.reduceEq,Int.reduceNeg,↓reduceIte,reduceCtorEq,scL,scD,expand,List.replicate,c18,bD_dv])|apply gC_drawW|((first|apply gI_dec|apply gG_dec|apply gPG_dec|apply gI_var|apply gG_var|apply gPG_var)<;>intro _))
 refine g_while (fun m fr st=>∃ k:Nat,m=B.length - k∧k≤B.length∧fr= [(2,.ptr 0 0),(3,.ptr 1 0),(5,.sc (.int .i64 k))]∧st=⟨[(1,.box 24 1 [.sc (.int .i64 a),.sc (.int .i64 b),.sl s' B.length (B.map bD)]),(0,.box 24 1 [.sc (.int .i64 a),.sc (.int .i64 b),.sl s B.length (B.map bD)])],2,0⟩) B.length ?_ ⟨_,_,.refl _ _,0,?_⟩ ?_
 ·rw[hC,callP_rounds];unfold many;omega
 ·exact ⟨by omega,by omega,rfl,rfl⟩
 ·rintro m fr st ⟨k,rfl,hk,rfl,rfl⟩
  by_cases hlt:k<B.length
  ·generalize hb:B[k]! =bb at*
   repeat' (first|(simp (disch:=first|omega|assumption|exact bd (by with_unfolding_all rfl)|exact Or.inl rfl|exact Or.inl trivial|exact okL_map _ (fun _=>rfl) _|(simp only[VVlen]<;>omega)|fail) only[VV0,VV1,VV2,VV3,VV4,VV5,VV6,VV7,VV8,VV9,mkFnV,vargs,slotsL,opdsA,Nat.reduceEqDiff,Nat.reduceLT,Nat.reduceAdd,Nat.reduceBEq,Int.reduceAdd,Int.reduceSub,Int.reduceLT,Int.reduceLE,Int.reduceEq,Int.reduceNeg,↓reduceIte,reduceCtorEq,scL,scD,expand,List.replicate,c18l0,bD_dv,hb,eqB_b,eqB_nb,beqB,Bool.not_true])|apply gC_drawW|((first|apply gI_dec|apply gG_dec|apply gPG_dec|apply gI_var|apply gG_var|apply gPG_var)<;>intro _))
   exact ⟨_,_,_,by omega,.refl _ _,k+1,rfl,hlt,rfl,rfl⟩
  ·have:k=B.length:=by omega
   subst this
   repeat' (first|(simp (disch:=first|omega|assumption|exact bd (by with_unfolding_all rfl)|exact Or.inl rfl|exact Or.inl trivial|exact okL_map _ (fun _=>rfl) _|(simp only[VVlen]<;>omega)|fail) only[VV0,VV1,VV2,VV3,VV4,VV5,VV6,VV7,VV8,VV9,mkFnV,vargs,slotsL,opdsA,Nat.reduceEqDiff,Nat.reduceLT,Nat.reduceAdd,Nat.reduceBEq,Int.reduceAdd,Int.reduceSub,Int.reduceLT,Int.reduceLE,Int.reduceEq,Int.reduceNeg,↓reduceIte,reduceCtorEq,scL,scD,expand,List.replicate,c18l0,bD_dv])|apply gC_drawW|((first|apply gI_dec|apply gG_dec|apply gPG_dec|apply gI_var|apply gG_var|apply gPG_var)<;>intro _))
   exact weak_flat rfl h0 rfl
end
end Go.Proofs.YtepdkmdcainddaaDoor
namespace Go.Proofs.YtepdkmdcainddaaDoor
open Go Go.Itp
set_option maxRecDepth 100000
set_option maxHeartbeats 1000000
set_option linter.unusedSimpArgs false
abbrev chainV (s s':Nat) (q:Int) (L:List (List Bool)):V:= .agg [.sc (.int .i64 q),.sl s L.length (L.map (rowD s'))]
section
variable (w:World) (n:Nat)
theorem same17_p (s t s' t':Nat) (q:Int) (L:List (List Bool)) (hL:L.length≤1000) (hr:∀ k,k<L.length→L[k]!.length≤1000):VSpec (EN w (n+1)) 17 [chainV s t q L,chainV s' t' q L] (.sc (.bool true)) ⟨[],0,0⟩:=by
 refine vspec_flat rfl rfl (fun _ _=>rfl) (Nat.le_of_ble_eq_true rfl) (oldVals w) rfl fun C hC h0=>?_
 repeat' (first|(simp (disch:=first|omega|assumption|exact bd (by with_unfolding_all rfl)|exact Or.inl rfl|exact Or.inl trivial|exact okL_map _ (fun _=>rfl) _|(simp only[VVlen]<;>omega)|fail) only[VV0,VV1,VV2,VV3,VV4,VV5,VV6,VV7,VV8,VV9,mkFnV,vargs,slotsL,opdsA,Nat.reduceEqDiff,Nat.reduceLT,Nat.reduceAdd,Nat.reduceBEq,Int.reduceAdd,Int.reduceSub,Int.reduceLT,Int.reduceLE,Int.reduceEq,Int.reduceNeg,↓reduceIte,reduceCtorEq,scL,scD,expand,List.replicate,c17,rowD_dv])|apply gC_drawW|((first|apply gI_dec|apply gG_dec|apply gPG_dec|apply gI_var|apply gG_var|apply gPG_var)<;>intro _))
 refine g_while (fun m fr st=>∃ k:Nat,m=L.length - k∧k≤L.length∧fr= [(2,.ptr 0 0),(3,.ptr 1 0),(5,.sc (.int .i64 k))]∧st=⟨[(1,.box 34 1 [.sc (.int .i64 q),.sl s' L.length (L.map (rowD t'))]),(0,.box 34 1 [.sc (.int .i64 q),.sl s L.length (L.map (rowD t))])],2,0⟩) L.length ?_ ⟨_,_,.refl _ _,0,?_⟩ ?_
 ·rw[hC,callP_rounds];unfold many;omega
 ·exact ⟨by omega,by omega,rfl,rfl⟩
 ·rintro m fr st ⟨k,rfl,hk,rfl,rfl⟩
  by_cases hlt:k<L.length
  ·have hrk:=hr k hlt
   repeat' (first|(simp (disch:=first|omega|assumption|exact bd (by with_unfolding_all rfl)|exact Or.inl rfl|exact Or.inl trivial|exact okL_map _ (fun _=>rfl) _|(simp only[VVlen]<;>omega)|fail) only[VV0,VV1,VV2,VV3,VV4,VV5,VV6,VV7,VV8,VV9,mkFnV,vargs,slotsL,opdsA,Nat.reduceEqDiff,Nat.reduceLT,Nat.reduceAdd,Nat.reduceBEq,Int.reduceAdd,Int.reduceSub,Int.reduceLT,Int.reduceLE,Int.reduceEq,Int.reduceNeg,↓reduceIte,reduceCtorEq,scL,scD,expand,List.replicate,c17l1,rowD_dv])|apply gC_drawW|((first|apply gI_dec|apply gG_dec|apply gPG_dec|apply gI_var|apply gG_var|apply gPG_var)<;>intro _))
   refine g_while (fun m fr st=>∃ x:Nat,m=L[k]!.length - x∧x≤L[k]!.length∧fr= [(2,.ptr 0 0),(3,.ptr 1 0),(5,.sc (.int .i64 k)),(6,.sc (.int .i64 x))]∧st=⟨[(1,.box 34 1 [.sc (.int .i64 q),.sl s' L.length (L.map (rowD t'))]),(0,.box 34 1 [.sc (.int .i64 q),.sl s L.length (L.map (rowD t))])],2,0⟩) L[k]!.length ?_ ⟨_,_,.refl _ _,0,?_⟩ ?_
   ·rw[hC,callP_rounds];unfold many;omega
   ·exact ⟨by omega,by omega,rfl,rfl⟩
   ·rintro m fr st ⟨x,rfl,hx,rfl,rfl⟩
    by_cases hlx:x<L[k]!.length
    ·generalize hb:L[k]![x]! =bb at*
     repeat' (first|(simp (disch:=first|omega|assumption|exact bd (by with_unfolding_all rfl)|exact Or.inl rfl|exact Or.inl trivial|exact okL_map _ (fun _=>rfl) _|(simp only[VVlen]<;>omega)|fail) only[VV0,VV1,VV2,VV3,VV4,VV5,VV6,VV7,VV8,VV9,mkFnV,vargs,slotsL,opdsA,Nat.reduceEqDiff,Nat.reduceLT,Nat.reduceAdd,Nat.reduceBEq,Int.reduceAdd,Int.reduceSub,Int.reduceLT,Int.reduceLE,Int.reduceEq,Int.reduceNeg,↓reduceIte,reduceCtorEq,scL,scD,expand,List.replicate,c17l0,rowD_dv,bD_dv,hb,eqB_b,eqB_nb,beqB,Bool.not_true])|apply gC_drawW|((first|apply gI_dec|apply gG_dec|apply gPG_dec|apply gI_var|apply gG_var|apply gPG_var)<;>intro _))
     exact ⟨_,_,_,by omega,.refl _ _,x+1,rfl,hlx,rfl,rfl⟩
    ·have:x=L[k]!.length:=by omega
     subst this
     repeat' (first|(simp (disch:=first|omega|assumption|exact bd (by with_unfolding_all rfl)|exact Or.inl rfl|exact Or.inl trivial|exact okL_map _ (fun _=>rfl) _|(simp only[VVlen]<;>omega)|fail) only[VV0,VV1,VV2,VV3,VV4,VV5,VV6,VV7,VV8,VV9,mkFnV,vargs,slotsL,opdsA,Nat.reduceEqDiff,Nat.reduceLT,Nat.reduceAdd,Nat.reduceBEq,Int.reduceAdd,Int.reduceSub,Int.reduceLT,Int.reduceLE,Int.reduceEq,Int.reduceNeg,↓reduceIte,reduceCtorEq,scL,scD,expand,List.replicate,c17l0,rowD_dv,bD_dv])|apply gC_drawW|((first|apply gI_dec|apply gG_dec|apply gPG_dec|apply gI_var|apply gG_var|apply gPG_var)<;>intro _))
     exact ⟨_,_,_,by omega,.refl _ _,k+1,rfl,hlt,rfl,rfl⟩
  ·have:k=L.length:=by omega
   subst this
   repeat' (first|(simp (disch:=first|omega|assumption|exact bd (by with_unfolding_all rfl)|exact Or.inl rfl|exact Or.inl trivial|exact okL_map _ (fun _=>rfl) _|(simp only[VVlen]<;>omega)|fail) only[VV0,VV1,VV2,VV3,VV4,VV5,VV6,VV7,VV8,VV9,mkFnV,vargs,slotsL,opdsA,Nat.reduceEqDiff,Nat.reduceLT,Nat.reduceAdd,Nat.reduceBEq,Int.reduceAdd,Int.reduceSub,Int.reduceLT,Int.reduceLE,Int.reduceEq,Int.reduceNeg,↓reduceIte,reduceCtorEq,scL,scD,expand,List.replicate,c17l1,rowD_dv])|apply gC_drawW|((first|apply gI_dec|apply gG_dec|apply gPG_dec|apply gI_var|apply gG_var|apply gPG_var)<;>intro _))
   exact weak_flat rfl h0 rfl
theorem decimal_p (x:Nat) (hx:x≤1000000000000):VSpec (EN w (n+1)) 37 [.sc (.int .i64 x)] (strV (Lib.decDigits x)) ⟨[],0,0⟩:=by
 refine vspec_flat rfl rfl (fun _ _=>rfl) (Nat.le_of_ble_eq_true rfl) (oldVals w) rfl fun C hC h0=>?_
 repeat' (first|(simp (disch:=first|omega|assumption|exact bd (by with_unfolding_all rfl)|exact Or.inl rfl|exact Or.inl trivial|exact okL_map _ (fun _=>rfl) _|(simp only[VVlen]<;>omega)|fail) only[VV0,VV1,VV2,VV3,VV4,VV5,VV6,VV7,VV8,VV9,mkFnV,vargs,slotsL,opdsA,Nat.reduceEqDiff,Nat.reduceLT,Nat.reduceAdd,Nat.reduceBEq,Int.reduceAdd,Int.reduceSub,Int.reduceLT,Int.reduceLE,Int.reduceEq,Int.reduceNeg,↓reduceIte,reduceCtorEq,scL,scD,expand,List.replicate,c37])|apply gC_drawW|((first|apply gI_dec|apply gG_dec|apply gPG_dec|apply gI_var|apply gG_var|apply gPG_var)<;>intro _))
 refine g_while (fun m fr st=>∃ (k:Nat) (s:List UInt8),m=k∧k≤x∧Lib.decDigits x=Lib.decDigits k++s∧s.length+k≤x∧fr= [(0,.sc (.int .i64 k)),(3,strV s)]∧st=⟨[],0,0⟩) x ?_ ⟨_,_,.refl _ _,x,[],?_⟩ ?_
 ·rw[hC,callP_rounds];unfold many;omega
 ·exact ⟨rfl,Nat.le_refl _,by simp,by simp,rfl,rfl⟩
 ·rintro k fr st ⟨_,s,rfl,hk,hd,hsl,rfl,rfl⟩
  have hs1:∀ c:UInt8,(ByteArray.mk [c].toArray).size+(ByteArray.mk s.toArray).size<9223372036854775807:=fun c=>by
   show 1+s.toArray.size<_
   simp;omega
  by_cases hlt:9<k
  ·have hd':=dec_step hd hlt
   have e1:(k:Int) % 10=((k % 10:Nat):Int):=by omega
   have e2:(k:Int) / 10=((k / 10:Nat):Int):=by omega
   have e4:(48:Int)+((k % 10:Nat):Int)=((48+k % 10:Nat):Int):=by omega
   have e3:=wrap_byte (48+k % 10) (by omega)
   have e5:=b2s_one (o:=0) (t:=5) (g:=false) (z:=false) (H:= [(0,.row 5 1 false false [.sc (.int .u8 ((48+k % 10:Nat):Int))])]) (48+k % 10) (by omega) rfl 1
   repeat' (first|(simp (disch:=first|omega|assumption|exact bd (by with_unfolding_all rfl)|exact Or.inl rfl|exact Or.inl trivial|exact okL_map _ (fun _=>rfl) _|(simp only[VVlen]<;>omega)|fail) only[VV0,VV1,VV2,VV3,VV4,VV5,VV6,VV7,VV8,VV9,mkFnV,vargs,slotsL,opdsA,Nat.reduceEqDiff,Nat.reduceLT,Nat.reduceAdd,Nat.reduceBEq,Int.reduceAdd,Int.reduceSub,Int.reduceLT,Int.reduceLE,Int.reduceEq,Int.reduceNeg,↓reduceIte,reduceCtorEq,scL,scD,expand,List.replicate,c37l0,e1,e2,e4,e3,e5,b_sadd _ _ (hs1 (UInt8.ofNat (48+k % 10))),bytes_cat])|apply gC_drawW|((first|apply gI_dec|apply gG_dec|apply gPG_dec|apply gI_var|apply gG_var|apply gPG_var)<;>intro _))
   refine ⟨_,_,_,?_,weak_to [] 0 h0 rfl rfl rfl rfl,k / 10,UInt8.ofNat (48+k % 10)::s,rfl,by omega,hd',by simp;omega,?_,?_⟩
   ·omega
   ·simp[renF,vren]
   ·simp[renH]
  ·have e4:(48:Int)+(k:Int)=((48+k:Nat):Int):=by omega
   have e3:=wrap_byte (48+k) (by omega)
   have e5:=b2s_one (o:=0) (t:=5) (g:=false) (z:=false) (H:= [(0,.row 5 1 false false [.sc (.int .u8 ((48+k:Nat):Int))])]) (48+k) (by omega) rfl 1
   have hd':Lib.decDigits x= [UInt8.ofNat (48+k)]++s:=by rw[hd,Lib.decDigits,dif_pos (by omega)]
   rw[hd']
   repeat' (first|(simp (disch:=first|omega|assumption|exact bd (by with_unfolding_all rfl)|exact Or.inl rfl|exact Or.inl trivial|exact okL_map _ (fun _=>rfl) _|(simp only[VVlen]<;>omega)|fail) only[VV0,VV1,VV2,VV3,VV4,VV5,VV6,VV7,VV8,VV9,mkFnV,vargs,slotsL,opdsA,Nat.reduceEqDiff,Nat.reduceLT,Nat.reduceAdd,Nat.reduceBEq,Int.reduceAdd,Int.reduceSub,Int.reduceLT,Int.reduceLE,Int.reduceEq,Int.reduceNeg,↓reduceIte,reduceCtorEq,scL,scD,expand,List.replicate,c37l0,e4,e3,e5,b_sadd _ _ (hs1 (UInt8.ofNat (48+k))),bytes_cat])|apply gC_drawW|((first|apply gI_dec|apply gG_dec|apply gPG_dec|apply gI_var|apply gG_var|apply gPG_var)<;>intro _))
   exact weak_flat rfl h0 rfl
end
end Go.Proofs.YtepdkmdcainddaaDoor
namespace Go.Proofs.YtepdkmdcainddaaDoor
open Go Go.Itp
set_option maxRecDepth 100000
set_option maxHeartbeats 1000000
set_option linter.unusedSimpArgs false
section
variable (w:World) (n:Nat)
end
end Go.Proofs.YtepdkmdcainddaaDoor
namespace Go.Proofs.YtepdkmdcainddaaDoor
open Go Go.Itp
set_option maxRecDepth 100000
set_option maxHeartbeats 1000000
set_option linter.unusedSimpArgs false
section
variable (w:World) (n:Nat)
def selfP (b:Nat) (p:V):Prop:=p= .sc (.pointer none)∨p= .ptr b 0
theorem copyCheck_w {C:Ctx} {st:VSt} {Q:V→VSt→Prop} (hC:C.E=EN w (n+2)) (b e:Nat) (p g:V) (hb:aget st.own b=some (.box 69 e [p,g])) (hp:selfP b p) (hro:st.ro≤b)
  (hq:Q (.tup []) ⟨aset st.own b (.box 69 e [.ptr b 0,g]),st.next,st.ro⟩):CallV C 57 [.ptr b 0] st Q:=by
 refine callV_w hC rfl rfl (fun _ _=>rfl) (Nat.le_of_ble_eq_true rfl) hq fun C' hC' hn=>?_
 obtain ⟨H,nx,ro⟩:=st
 have h2:(2:Nat)≤ [p,g].length:=Nat.le_refl _
 rcases hp with rfl|rfl
 ·repeat' (first|(simp (disch:=first|omega|assumption|exact bd (by with_unfolding_all rfl)|exact Or.inl rfl|exact Or.inl trivial|exact okL_map _ (fun _=>rfl) _|(simp only[VVlen]<;>omega)|fail) only[VV0,VV1,VV2,VV3,VV4,VV5,VV6,VV7,VV8,VV9,mkFnV,vargs,slotsL,opdsA,Nat.reduceEqDiff,Nat.reduceLT,Nat.reduceAdd,Nat.reduceBEq,Int.reduceAdd,Int.reduceSub,Int.reduceLT,Int.reduceLE,Int.reduceEq,Int.reduceNeg,↓reduceIte,reduceCtorEq,scL,scD,expand,List.replicate,c57,hb,eqNilP_ptr,eqNilP_nil])|apply gC_drawW|((first|apply gI_dec|apply gG_dec|apply gPG_dec|apply gI_var|apply gG_var|apply gPG_var)<;>intro _))
  refine callV_same hC' (fun x s=>?_) ?_
  ·show PR w _ [x] s=some (x,[])
   rfl
  repeat' (first|(simp (disch:=first|omega|assumption|exact bd (by with_unfolding_all rfl)|exact Or.inl rfl|exact Or.inl trivial|exact okL_map _ (fun _=>rfl) _|(simp only[VVlen]<;>omega)|fail) only[VV0,VV1,VV2,VV3,VV4,VV5,VV6,VV7,VV8,VV9,mkFnV,vargs,slotsL,opdsA,Nat.reduceEqDiff,Nat.reduceLT,Nat.reduceAdd,Nat.reduceBEq,Int.reduceAdd,Int.reduceSub,Int.reduceLT,Int.reduceLE,Int.reduceEq,Int.reduceNeg,↓reduceIte,reduceCtorEq,scL,scD,expand,List.replicate,hb,eqNilP_ptr])|apply gC_drawW|((first|apply gI_dec|apply gG_dec|apply gPG_dec|apply gI_var|apply gG_var|apply gPG_var)<;>intro _))
  exact .refl _ _
 ·have hs:aset H b (.box 69 e [.ptr b 0,g])=H:=aset_self _ _ _ hb
  repeat' (first|(simp (disch:=first|omega|assumption|exact bd (by with_unfolding_all rfl)|exact Or.inl rfl|exact Or.inl trivial|exact okL_map _ (fun _=>rfl) _|(simp only[VVlen]<;>omega)|fail) only[VV0,VV1,VV2,VV3,VV4,VV5,VV6,VV7,VV8,VV9,mkFnV,vargs,slotsL,opdsA,Nat.reduceEqDiff,Nat.reduceLT,Nat.reduceAdd,Nat.reduceBEq,Int.reduceAdd,Int.reduceSub,Int.reduceLT,Int.reduceLE,Int.reduceEq,Int.reduceNeg,↓reduceIte,reduceCtorEq,scL,scD,expand,List.replicate,c57,hb,eqPtrV_same,eqNilP_ptr,eqNilP_nil])|apply gC_drawW|((first|apply gI_dec|apply gG_dec|apply gPG_dec|apply gI_var|apply gG_var|apply gPG_var)<;>intro _))
  rw[hs]
  exact .refl _ _
theorem writeString_w {C:Ctx} {st:VSt} {Q:V→VSt→Prop} (hC:C.E=EN w (n+3)) (b r:Nat) (p:V) (acc s:ByteArray) (hb:aget st.own b=some (.box 69 1 [p,.gr 2 r acc.size])) (hr:aget st.own r=some (.gro 5 1 false (strD acc))) (hp:selfP b p) (hro:st.ro≤b) (hro2:st.ro≤r) (hrb:r ≠ b) (hlt:b ≠ st.next)
  (hsz:acc.size+s.size≤1099511627776) (hq:Q (.tup [.sc (.int .i64 s.size),.sc .nilIface]) ⟨(st.next,.gro 5 1 false (strD (acc++s)))::aset (adel r st.own) b (.box 69 1 [.ptr b 0,.gr 2 st.next (acc.size+s.size)]),st.next+1,st.ro⟩):
  CallV C 33 [.ptr b 0,.sc (.string s)] st Q:=by
 refine callV_w hC rfl rfl (fun _ _=>rfl) (Nat.le_of_ble_eq_true rfl) hq fun C' hC' hn=>?_
 obtain ⟨H,nx,ro⟩:=st
 have h1:=strD_len acc
 have h2:=strD_ok s
 have a1:aget (aset H b (.box 69 1 [.ptr b 0,.gr 2 r acc.size])) b=some (.box 69 1 [.ptr b 0,.gr 2 r acc.size]):=aget_aset_eq hb
 have a2:aget (aset H b (.box 69 1 [.ptr b 0,.gr 2 r acc.size])) r=some (.gro 5 1 false (strD acc)):=by rw[aget_aset _ _ _ _ _ hb,if_neg hrb];exact hr
 have hbr:¬ b=r:=fun e=>hrb e.symm
 have a3:aget (adel r (aset H b (.box 69 1 [.ptr b 0,.gr 2 r acc.size]))) b=some (.box 69 1 [.ptr b 0,.gr 2 r acc.size]):=by rw[aget_adel,if_neg hbr];exact a1
 repeat' (first|(simp (disch:=first|omega|assumption|exact bd (by with_unfolding_all rfl)|exact Or.inl rfl|exact Or.inl trivial|exact okL_map _ (fun _=>rfl) _|(simp only[VVlen]<;>omega)|fail) only[VV0,VV1,VV2,VV3,VV4,VV5,VV6,VV7,VV8,VV9,mkFnV,vargs,slotsL,opdsA,Nat.reduceEqDiff,Nat.reduceLT,Nat.reduceAdd,Nat.reduceBEq,Int.reduceAdd,Int.reduceSub,Int.reduceLT,Int.reduceLE,Int.reduceEq,Int.reduceNeg,↓reduceIte,reduceCtorEq,scL,scD,expand,List.replicate,c33])|apply gC_drawW|((first|apply gI_dec|apply gG_dec|apply gPG_dec|apply gI_var|apply gG_var|apply gPG_var)<;>intro _))
 refine copyCheck_w w n hC' b 1 p _ hb hp hro ?_
 repeat' (first|(simp (disch:=first|omega|assumption|exact bd (by with_unfolding_all rfl)|exact Or.inl rfl|exact Or.inl trivial|exact okL_map _ (fun _=>rfl) _|(simp only[VVlen]<;>omega)|fail) only[VV0,VV1,VV2,VV3,VV4,VV5,VV6,VV7,VV8,VV9,mkFnV,vargs,slotsL,opdsA,Nat.reduceEqDiff,Nat.reduceLT,Nat.reduceAdd,Nat.reduceBEq,Int.reduceAdd,Int.reduceSub,Int.reduceLT,Int.reduceLE,Int.reduceEq,Int.reduceNeg,↓reduceIte,reduceCtorEq,scL,scD,expand,List.replicate,a1,a2,a3,srcOf_str,strD_eq,hbr,hlt,strD_append,frozA_none])|apply gC_drawW|((first|apply gI_dec|apply gG_dec|apply gPG_dec|apply gI_var|apply gG_var|apply gPG_var)<;>intro _))
 rw[adel_aset _ _ _ _ hrb,aset_aset]
 exact .refl _ _
theorem string_w {C:Ctx} {st:VSt} {Q:V→VSt→Prop} (hC:C.E=EN w (n+1)) (b r:Nat) (p:V) (acc:ByteArray) (hb:aget st.own b=some (.box 69 1 [p,.gr 2 r acc.size])) (hr:aget st.own r=some (.gro 5 1 false (strD acc))) (hro:st.ro≤b) (hro2:st.ro≤r)
  (hsz:acc.size≤1099511627776) (hq:∀ st',st'.ro=st.ro→Q (.sc (.string acc)) st'):CallV C 35 [.ptr b 0] st Q:=by
 obtain ⟨H,nx,ro⟩:=st
 by_cases h0:acc.size=0
 ·rw[h0] at hb
  have hs:acc=ByteArray.empty:=by
   apply ByteArray.ext;apply Array.ext'
   rw[List.eq_nil_of_length_eq_zero (show acc.data.toList.length=0 by simpa using h0)]
   rfl
  refine callV_wW (st':=⟨aset H b (.box 69 1 [p,.sc (.slice none 0 0)]),nx,ro⟩) hC rfl rfl (fun _ _=>rfl) (Nat.le_of_ble_eq_true rfl) (hq ⟨aset H b (.box 69 1 [p,.sc (.slice none 0 0)]),nx,ro⟩ rfl) (fun C' hn=>?_) fun C' hC' hn=>?_
  ·exact weak_cell (C:=C') (st:=⟨H,nx,ro⟩) (k:=1) hb rfl same_gr0
  have a1:aget (aset H b (.box 69 1 [p,.sc (.slice none 0 0)])) b=some (.box 69 1 [p,.sc (.slice none 0 0)]):=aget_aset_eq hb
  rw[hs]
  repeat' (first|(simp (disch:=first|omega|assumption|exact bd (by with_unfolding_all rfl)|exact Or.inl rfl|exact Or.inl trivial|exact okL_map _ (fun _=>rfl) _|(simp only[VVlen]<;>omega)|fail) only[VV0,VV1,VV2,VV3,VV4,VV5,VV6,VV7,VV8,VV9,mkFnV,vargs,slotsL,opdsA,Nat.reduceEqDiff,Nat.reduceLT,Nat.reduceAdd,Nat.reduceBEq,Int.reduceAdd,Int.reduceSub,Int.reduceLT,Int.reduceLE,Int.reduceEq,Int.reduceNeg,↓reduceIte,reduceCtorEq,scL,scD,expand,List.replicate,c35,a1,vustr_nil])|apply gC_drawW|((first|apply gI_dec|apply gG_dec|apply gPG_dec|apply gI_var|apply gG_var|apply gPG_var)<;>intro _))
  exact .refl _ _
 ·refine callV_w hC rfl rfl (fun _ _=>rfl) (Nat.le_of_ble_eq_true rfl) (hq ⟨adel r H,nx,ro⟩ rfl) fun C' hC' hn=>?_
  have hv:=vustr_gro ⟨H,nx,ro⟩ 5 1 r acc hr hro2 (by omega) hsz
  repeat' (first|(simp (disch:=first|omega|assumption|exact bd (by with_unfolding_all rfl)|exact Or.inl rfl|exact Or.inl trivial|exact okL_map _ (fun _=>rfl) _|(simp only[VVlen]<;>omega)|fail) only[VV0,VV1,VV2,VV3,VV4,VV5,VV6,VV7,VV8,VV9,mkFnV,vargs,slotsL,opdsA,Nat.reduceEqDiff,Nat.reduceLT,Nat.reduceAdd,Nat.reduceBEq,Int.reduceAdd,Int.reduceSub,Int.reduceLT,Int.reduceLE,Int.reduceEq,Int.reduceNeg,↓reduceIte,reduceCtorEq,scL,scD,expand,List.replicate,c35,hb,h0,hv])|apply gC_drawW|((first|apply gI_dec|apply gG_dec|apply gPG_dec|apply gI_var|apply gG_var|apply gPG_var)<;>intro _))
  exact .refl _ _
end
end Go.Proofs.YtepdkmdcainddaaDoor
namespace Go.Proofs.YtepdkmdcainddaaDoor
open Go Go.Itp
set_option maxRecDepth 100000
set_option maxHeartbeats 1000000
set_option linter.unusedSimpArgs false
theorem eqNilS_nil (g:Bool):eqNilV 1 g (.sc (.slice none 0 0)) (.sc (.slice none 0 0))=some (.sc (.bool (!g))):=by cases g<;>rfl
theorem eqNilS_gr (g:Bool) (o n:Nat) (hn:n ≠ 0):eqNilV 1 g (.gr 2 o n) (.sc (.slice none 0 0))=some (.sc (.bool g)):=by
 rw[eqNilV_nil g _ (Nat.beq n 0) rfl,nbf.2 hn]
 cases g<;>rfl
theorem row_of (B:List Bool) (Q y x:Nat) (hx:x<Q):(bitsRow B Q y)[x]! =rowOf B Q y x:=by
 rw[getElem!_pos _ x (by rw[bitsRow_len];exact hx)]
 simp[bitsRow,rowOf]
theorem words_map (r:Nat→Bool) (k:Nat) (h:r k=true):(wordsTo r (k+1)).map sD=(wordsTo r k).map sD++ [sD (Lib.itoa ((k:Int)+1))]:=by
 simp[wordsTo,h]
section
variable (w:World) (n:Nat)
theorem plan_p (s Q K:Nat) (B:List Bool) (hfit:chkE Q K B.length=0) (hQ:1≤Q∧Q≤40) (hK:1≤K∧K≤64) (hL:B.length=Q*K):
  VSpec (EN w (n+5)) 11 [gridV s Q K B] (.tup [strV (planTo B Q K),.sc (.int .i64 0)]) ⟨[],0,0⟩:=by
 refine vspec_flat rfl rfl (fun _ _=>rfl) (Nat.le_of_ble_eq_true rfl) (oldVals w) rfl fun C hC h0=>?_
 have hB1:B.length≤2560:=by rw[hL];exact Nat.mul_le_mul hQ.2 hK.2
 have hc:=fun st=>(pcheck_p w (n+2) s Q K B (by omega)).of hC rfl st rfl
 rw[hfit] at hc
 repeat' (first|(simp (disch:=first|omega|assumption|exact bd (by with_unfolding_all rfl)|exact Or.inl rfl|exact Or.inl trivial|exact okL_map _ (fun _=>rfl) _|(simp only[VVlen]<;>omega)|fail) only[VV0,VV1,VV2,VV3,VV4,VV5,VV6,VV7,VV8,VV9,mkFnV,vargs,slotsL,opdsA,Nat.reduceEqDiff,Nat.reduceLT,Nat.reduceAdd,Nat.reduceBEq,Int.reduceAdd,Int.reduceSub,Int.reduceLT,Int.reduceLE,Int.reduceEq,Int.reduceNeg,↓reduceIte,reduceCtorEq,scL,scD,expand,List.replicate,c11])|apply gC_drawW|((first|apply gI_dec|apply gG_dec|apply gPG_dec|apply gI_var|apply gG_var|apply gPG_var)<;>intro _))
 refine callV_flat (hc _) ?_
 repeat' (first|(simp (disch:=first|omega|assumption|exact bd (by with_unfolding_all rfl)|exact Or.inl rfl|exact Or.inl trivial|exact okL_map _ (fun _=>rfl) _|(simp only[VVlen]<;>omega)|fail) only[VV0,VV1,VV2,VV3,VV4,VV5,VV6,VV7,VV8,VV9,mkFnV,vargs,slotsL,opdsA,Nat.reduceEqDiff,Nat.reduceLT,Nat.reduceAdd,Nat.reduceBEq,Int.reduceAdd,Int.reduceSub,Int.reduceLT,Int.reduceLE,Int.reduceEq,Int.reduceNeg,↓reduceIte,reduceCtorEq,scL,scD,expand,List.replicate])|apply gC_drawW|((first|apply gI_dec|apply gG_dec|apply gPG_dec|apply gI_var|apply gG_var|apply gPG_var)<;>intro _))
 refine g_while (fun m fr st=>∃ (y:Nat) (p:V) (acc:ByteArray),m=K - y∧y≤K∧selfP 1 p∧acc.data.toList=planTo B Q y∧fr= [(1,.ptr 0 0),(5,.ptr 1 0),(16,.sc (.int .i64 K)),(17,.sc (.int .i64 y))]∧
  st=⟨[(2,.gro 5 1 false (strD acc)),(1,.box 69 1 [p,.gr 2 2 acc.size]),(0,.box 24 1 [.sc (.int .i64 Q),.sc (.int .i64 K),.sl s B.length (B.map bD)])],3,0⟩) K ?_
  ⟨_,_,weak_nilCell (C:=C) (l:= [.sc (.pointer none),.sc (.slice none 0 0)]) 1 69 1 1 5 1 rfl rfl (fun h=>absurd (show (1:Nat)=2 from h) (by decide)),0,.sc (.pointer none),⟨#[]⟩,rfl,Nat.zero_le _,.inl rfl,rfl,rfl,rfl⟩ ?_
 ·rw[hC,callP_rounds];unfold many;omega
 rintro m fr st ⟨y,p,acc,rfl,hy,hp,ha,rfl,rfl⟩
 have hpl:=plan_len B Q hQ.2 y
 have hasz:acc.size=(planTo B Q y).length:=by rw[← ha];simp
 by_cases hlt:y<K
 case neg=>
  have:y=K:=by omega
  subst this
  have hacc:acc=⟨(planTo B Q y).toArray⟩:=by
   apply ByteArray.ext;apply Array.ext';rw[ha]
  repeat' (first|(simp (disch:=first|omega|assumption|exact bd (by with_unfolding_all rfl)|exact Or.inl rfl|exact Or.inl trivial|exact okL_map _ (fun _=>rfl) _|(simp only[VVlen]<;>omega)|fail) only[VV0,VV1,VV2,VV3,VV4,VV5,VV6,VV7,VV8,VV9,mkFnV,vargs,slotsL,opdsA,Nat.reduceEqDiff,Nat.reduceLT,Nat.reduceAdd,Nat.reduceBEq,Int.reduceAdd,Int.reduceSub,Int.reduceLT,Int.reduceLE,Int.reduceEq,Int.reduceNeg,↓reduceIte,reduceCtorEq,scL,scD,expand,List.replicate,c11l1])|apply gC_drawW|((first|apply gI_dec|apply gG_dec|apply gPG_dec|apply gI_var|apply gG_var|apply gPG_var)<;>intro _))
  refine string_w w (n+3) hC 1 2 p acc rfl rfl (Nat.zero_le _) (Nat.zero_le _) (by omega) fun st' hst=>?_
  rw[hacc]
  repeat' (first|(simp (disch:=first|omega|assumption|exact bd (by with_unfolding_all rfl)|exact Or.inl rfl|exact Or.inl trivial|exact okL_map _ (fun _=>rfl) _|(simp only[VVlen]<;>omega)|fail) only[VV0,VV1,VV2,VV3,VV4,VV5,VV6,VV7,VV8,VV9,mkFnV,vargs,slotsL,opdsA,Nat.reduceEqDiff,Nat.reduceLT,Nat.reduceAdd,Nat.reduceBEq,Int.reduceAdd,Int.reduceSub,Int.reduceLT,Int.reduceLE,Int.reduceEq,Int.reduceNeg,↓reduceIte,reduceCtorEq,scL,scD,expand,List.replicate])|apply gC_drawW|((first|apply gI_dec|apply gG_dec|apply gPG_dec|apply gI_var|apply gG_var|apply gPG_var)<;>intro _))
  exact weak_flat rfl h0 hst
 have hnext:planTo B Q (y+1)=planTo B Q y++rowText (rowOf B Q y) Q:=rfl
 generalize planTo B Q y=T at*
 have hkQ:y*Q+Q≤B.length:=by
  rw[hL,Nat.mul_comm Q K,← Nat.succ_mul];exact Nat.mul_le_mul_right Q hlt
 obtain ⟨P,hP⟩:∃ P,P=y*Q:=⟨_,rfl⟩
 have hP1:(y:Int)*(Q:Int)=(P:Int):=by rw[hP];simp
 have hP2:((y:Int)+1)*(Q:Int)=((P+Q:Nat):Int):=by rw[hP,Int.add_mul];simp
 have hPB:P+Q≤B.length:=by omega
 have e1:P+Q - P=Q:=by omega
 have e2:List.take Q (List.drop P B)=bitsRow B Q y:=by rw[hP];exact part_row B Q y (by rw[Nat.succ_mul];exact hkQ)
 have e3:=bitsRow_len B Q y
 repeat' (first|(simp (disch:=first|omega|assumption|exact bd (by with_unfolding_all rfl)|exact Or.inl rfl|exact Or.inl trivial|exact okL_map _ (fun _=>rfl) _|(simp only[VVlen]<;>omega)|fail) only[VV0,VV1,VV2,VV3,VV4,VV5,VV6,VV7,VV8,VV9,mkFnV,vargs,slotsL,opdsA,Nat.reduceEqDiff,Nat.reduceLT,Nat.reduceAdd,Nat.reduceBEq,Int.reduceAdd,Int.reduceSub,Int.reduceLT,Int.reduceLE,Int.reduceEq,Int.reduceNeg,↓reduceIte,reduceCtorEq,scL,scD,expand,List.replicate,c11l1,hP1,hP2,bD_dv,e1])|apply gC_drawW|((first|apply gI_dec|apply gG_dec|apply gPG_dec|apply gI_var|apply gG_var|apply gPG_var)<;>intro _))
 rw[e2]
 generalize hsk:kindS s=s3 at*
 have hrow:∀ x,x<Q→(bitsRow B Q y)[x]! =rowOf B Q y x:=fun x hx=>row_of B Q y x hx
 generalize bitsRow B Q y=R at*
 generalize rowOf B Q y=r at*
 generalize hG:(0,Obj.box 24 1 [V.sc (.int .i64 Q),V.sc (.int .i64 K),V.sl s B.length (B.map bD)])=G0 at*
 refine g_while (fun m fr st=>∃ x:Nat,m=Q - x∧x≤Q∧∃ lv,fr= [(1,.ptr 0 0),(5,.ptr 1 0),(7,lv),(16,.sc (.int .i64 K)),(17,.sc (.int .i64 y)),(31,.sl s3 Q (R.map bD)),(32,.sc (.int .i64 Q)),(33,.sc (.int .i64 x))]∧
  ((wordsTo r x= []∧lv= .sc (.slice none 0 0)∧st=⟨[(2,.gro 5 1 false (strD acc)),(1,.box 69 1 [p,.gr 2 2 acc.size]),G0],3,0⟩)∨
   (wordsTo r x ≠ []∧lv= .gr 2 3 (wordsTo r x).length∧st=⟨[(3,.gro 9 1 false ((wordsTo r x).map sD)),(2,.gro 5 1 false (strD acc)),(1,.box 69 1 [p,.gr 2 2 acc.size]),G0],4,0⟩))) Q ?_ ⟨_,_,.refl _ _,0,?_⟩ ?_
 ·rw[hC,callP_rounds];unfold many;omega
 ·exact ⟨by omega,by omega,_,rfl,.inl ⟨rfl,rfl,rfl⟩⟩
 rintro m fr st ⟨x,rfl,hx,lv,rfl,hst⟩
 have hll:=line_len r x (by omega)
 have hwl:=words_len r x
 by_cases hlx:x<Q
 ·have hrx:=hrow x hlx
  have hwm:=words_map r x
  have hw0:¬ r x=true→wordsTo r (x+1)=wordsTo r x:=fun h=>by simp[wordsTo,h]
  have hw1:r x=true→(wordsTo r (x+1)).length=(wordsTo r x).length+1:=fun h=>by simp[wordsTo,h]
  have hwn:r x=true→wordsTo r (x+1) ≠ []:=fun h=>by simp[wordsTo,h]
  generalize hW:wordsTo r x=W at*
  generalize hW1:wordsTo r (x+1)=W1 at*
  have hit:∀ st:VSt,VSpecO C.E 32 st [.sc (.int .i64 ((x:Int)+1))] (strV (Lib.itoa ((x:Int)+1))):=fun st=>by rw[hC];exact itoa_s w (n+3) st _ (by omega) (by omega)
  by_cases hb:r x=true
  ·rw[hb] at hrx
   have hwm:=hwm hb
   have hw1:=hw1 hb
   have hwn:=hwn hb
   rcases hst with ⟨hn,rfl,rfl⟩|⟨hn,rfl,rfl⟩
   ·subst hG
    subst hn
    repeat' (first|(simp (disch:=first|omega|assumption|exact bd (by with_unfolding_all rfl)|exact Or.inl rfl|exact Or.inl trivial|exact okL_map _ (fun _=>rfl) _|(simp only[VVlen]<;>omega)|fail) only[VV0,VV1,VV2,VV3,VV4,VV5,VV6,VV7,VV8,VV9,mkFnV,vargs,slotsL,opdsA,Nat.reduceEqDiff,Nat.reduceLT,Nat.reduceAdd,Nat.reduceBEq,Int.reduceAdd,Int.reduceSub,Int.reduceLT,Int.reduceLE,Int.reduceEq,Int.reduceNeg,↓reduceIte,reduceCtorEq,scL,scD,expand,List.replicate,c11l0,bD_dv,hrx])|apply gC_drawW|((first|apply gI_dec|apply gG_dec|apply gPG_dec|apply gI_var|apply gG_var|apply gPG_var)<;>intro _))
    refine callV_flat (hit _) ?_
    repeat' (first|(simp (disch:=first|omega|assumption|exact bd (by with_unfolding_all rfl)|exact Or.inl rfl|exact Or.inl trivial|exact okL_map _ (fun _=>rfl) _|(simp only[VVlen]<;>omega)|fail) only[VV0,VV1,VV2,VV3,VV4,VV5,VV6,VV7,VV8,VV9,mkFnV,vargs,slotsL,opdsA,Nat.reduceEqDiff,Nat.reduceLT,Nat.reduceAdd,Nat.reduceBEq,Int.reduceAdd,Int.reduceSub,Int.reduceLT,Int.reduceLE,Int.reduceEq,Int.reduceNeg,↓reduceIte,reduceCtorEq,scL,scD,expand,List.replicate,sD_dv])|apply gC_drawW|((first|apply gI_dec|apply gG_dec|apply gPG_dec|apply gI_var|apply gG_var|apply gPG_var)<;>intro _))
    refine ⟨_,_,_,by omega,weak_to [(4,3),(2,2),(1,1),(0,0)] 4 h0 rfl rfl rfl rfl,x+1,rfl,hlx,_,rfl,.inr ⟨by rw[hW1];exact hwn,by rw[hW1,hw1];rfl,by rw[hW1,hwm];rcases hp with rfl|rfl<;>rfl⟩⟩
   ·have hwl0:W.length ≠ 0:=fun h=>hn (List.eq_nil_of_length_eq_zero h)
    have hml:(W.map sD).length=W.length:=by rw[List.length_map]
    subst hG
    repeat' (first|(simp (disch:=first|omega|assumption|exact bd (by with_unfolding_all rfl)|exact Or.inl rfl|exact Or.inl trivial|exact okL_map _ (fun _=>rfl) _|(simp only[VVlen]<;>omega)|fail) only[VV0,VV1,VV2,VV3,VV4,VV5,VV6,VV7,VV8,VV9,mkFnV,vargs,slotsL,opdsA,Nat.reduceEqDiff,Nat.reduceLT,Nat.reduceAdd,Nat.reduceBEq,Int.reduceAdd,Int.reduceSub,Int.reduceLT,Int.reduceLE,Int.reduceEq,Int.reduceNeg,↓reduceIte,reduceCtorEq,scL,scD,expand,List.replicate,c11l0,bD_dv,hrx])|apply gC_drawW|((first|apply gI_dec|apply gG_dec|apply gPG_dec|apply gI_var|apply gG_var|apply gPG_var)<;>intro _))
    refine callV_flat (hit _) ?_
    repeat' (first|(simp (disch:=first|omega|assumption|exact bd (by with_unfolding_all rfl)|exact Or.inl rfl|exact Or.inl trivial|exact okL_map _ (fun _=>rfl) _|(simp only[VVlen]<;>omega)|fail) only[VV0,VV1,VV2,VV3,VV4,VV5,VV6,VV7,VV8,VV9,mkFnV,vargs,slotsL,opdsA,Nat.reduceEqDiff,Nat.reduceLT,Nat.reduceAdd,Nat.reduceBEq,Int.reduceAdd,Int.reduceSub,Int.reduceLT,Int.reduceLE,Int.reduceEq,Int.reduceNeg,↓reduceIte,reduceCtorEq,scL,scD,expand,List.replicate,sD_dv])|apply gC_drawW|((first|apply gI_dec|apply gG_dec|apply gPG_dec|apply gI_var|apply gG_var|apply gPG_var)<;>intro _))
    refine ⟨_,_,_,by omega,weak_to [(5,3),(2,2),(1,1),(0,0)] 4 h0 rfl rfl rfl rfl,x+1,rfl,hlx,_,rfl,.inr ⟨by rw[hW1];exact hwn,by rw[hW1,hw1];rfl,by rw[hW1,hwm];rcases hp with rfl|rfl<;>rfl⟩⟩
  ·have hw0:=hw0 hb
   have hb:=Bool.eq_false_iff.2 hb
   rw[hb] at hrx
   subst hG
   rcases hst with ⟨hn,rfl,rfl⟩|⟨hn,rfl,rfl⟩
   ·repeat' (first|(simp (disch:=first|omega|assumption|exact bd (by with_unfolding_all rfl)|exact Or.inl rfl|exact Or.inl trivial|exact okL_map _ (fun _=>rfl) _|(simp only[VVlen]<;>omega)|fail) only[VV0,VV1,VV2,VV3,VV4,VV5,VV6,VV7,VV8,VV9,mkFnV,vargs,slotsL,opdsA,Nat.reduceEqDiff,Nat.reduceLT,Nat.reduceAdd,Nat.reduceBEq,Int.reduceAdd,Int.reduceSub,Int.reduceLT,Int.reduceLE,Int.reduceEq,Int.reduceNeg,↓reduceIte,reduceCtorEq,scL,scD,expand,List.replicate,c11l0,bD_dv,hrx])|apply gC_drawW|((first|apply gI_dec|apply gG_dec|apply gPG_dec|apply gI_var|apply gG_var|apply gPG_var)<;>intro _))
    refine ⟨_,_,_,by omega,.refl _ _,x+1,rfl,hlx,_,rfl,.inl ⟨by rw[hW1,hw0];exact hn,rfl,rfl⟩⟩
   ·repeat' (first|(simp (disch:=first|omega|assumption|exact bd (by with_unfolding_all rfl)|exact Or.inl rfl|exact Or.inl trivial|exact okL_map _ (fun _=>rfl) _|(simp only[VVlen]<;>omega)|fail) only[VV0,VV1,VV2,VV3,VV4,VV5,VV6,VV7,VV8,VV9,mkFnV,vargs,slotsL,opdsA,Nat.reduceEqDiff,Nat.reduceLT,Nat.reduceAdd,Nat.reduceBEq,Int.reduceAdd,Int.reduceSub,Int.reduceLT,Int.reduceLE,Int.reduceEq,Int.reduceNeg,↓reduceIte,reduceCtorEq,scL,scD,expand,List.replicate,c11l0,bD_dv,hrx])|apply gC_drawW|((first|apply gI_dec|apply gG_dec|apply gPG_dec|apply gI_var|apply gG_var|apply gPG_var)<;>intro _))
    refine ⟨_,_,_,by omega,.refl _ _,x+1,rfl,hlx,_,rfl,.inr ⟨by rw[hW1,hw0];exact hn,by rw[hW1,hw0],by rw[hW1,hw0]⟩⟩
 ·have:x=Q:=by omega
  subst this
  have hjl:=line_join r x
  have hln:=line_nil r x
  unfold rowText at hnext
  generalize wordsTo r x=W at*
  generalize lineTo r x=L at*
  rcases hst with ⟨hn,rfl,rfl⟩|⟨hn,rfl,rfl⟩
  ·rw[if_pos (hln.2 hn)] at hnext
   have hj:∀ (st:VSt) (xs:List V),snapL st.own xs=some [.sl 0 1 ([[45]].map sD),.sc (.string ⟨#[32]⟩)]→VSpecO C.E 34 st xs (strV [45]):=fun st xs h1=>by
    rw[hC]
    exact (VSpec.ofO (join_s w (n+3) ⟨[],0,0⟩ 0 (by decide) [[45]] [32] (by decide) (by decide))).flat rfl h1
   have e5:=cat_l [45] [10] (by decide)
   have hsz:(⟨#[45,10]⟩:ByteArray).size=2:=rfl
   subst hG
   repeat' (first|(simp (disch:=first|omega|assumption|exact bd (by with_unfolding_all rfl)|exact Or.inl rfl|exact Or.inl trivial|exact okL_map _ (fun _=>rfl) _|(simp only[VVlen]<;>omega)|fail) only[VV0,VV1,VV2,VV3,VV4,VV5,VV6,VV7,VV8,VV9,mkFnV,vargs,slotsL,opdsA,Nat.reduceEqDiff,Nat.reduceLT,Nat.reduceAdd,Nat.reduceBEq,Int.reduceAdd,Int.reduceSub,Int.reduceLT,Int.reduceLE,Int.reduceEq,Int.reduceNeg,↓reduceIte,reduceCtorEq,scL,scD,expand,List.replicate,c11l0,sD_dv,eqNilS_nil])|apply gC_drawW|((first|apply gI_dec|apply gG_dec|apply gPG_dec|apply gI_var|apply gG_var|apply gPG_var)<;>intro _))
   refine callV_flat (hj _ _ rfl) ?_
   repeat' (first|(simp (disch:=first|omega|assumption|exact bd (by with_unfolding_all rfl)|exact Or.inl rfl|exact Or.inl trivial|exact okL_map _ (fun _=>rfl) _|(simp only[VVlen]<;>omega)|fail) only[VV0,VV1,VV2,VV3,VV4,VV5,VV6,VV7,VV8,VV9,mkFnV,vargs,slotsL,opdsA,Nat.reduceEqDiff,Nat.reduceLT,Nat.reduceAdd,Nat.reduceBEq,Int.reduceAdd,Int.reduceSub,Int.reduceLT,Int.reduceLE,Int.reduceEq,Int.reduceNeg,↓reduceIte,reduceCtorEq,scL,scD,expand,List.replicate,e5])|apply gC_drawW|((first|apply gI_dec|apply gG_dec|apply gPG_dec|apply gI_var|apply gG_var|apply gPG_var)<;>intro _))
   refine writeString_w w (n+1) hC 1 2 p acc _ rfl rfl hp (Nat.zero_le _) (Nat.zero_le _) (by decide) (Nat.ne_of_beq_eq_false rfl) (by rw[hsz];omega) ?_
   repeat' (first|(simp (disch:=first|omega|assumption|exact bd (by with_unfolding_all rfl)|exact Or.inl rfl|exact Or.inl trivial|exact okL_map _ (fun _=>rfl) _|(simp only[VVlen]<;>omega)|fail) only[VV0,VV1,VV2,VV3,VV4,VV5,VV6,VV7,VV8,VV9,mkFnV,vargs,slotsL,opdsA,Nat.reduceEqDiff,Nat.reduceLT,Nat.reduceAdd,Nat.reduceBEq,Int.reduceAdd,Int.reduceSub,Int.reduceLT,Int.reduceLE,Int.reduceEq,Int.reduceNeg,↓reduceIte,reduceCtorEq,scL,scD,expand,List.replicate])|apply gC_drawW|((first|apply gI_dec|apply gG_dec|apply gPG_dec|apply gI_var|apply gG_var|apply gPG_var)<;>intro _))
   refine ⟨_,_,_,by omega,weak_to [(4,2),(1,1),(0,0)] 3 h0 rfl rfl rfl rfl,y+1,.ptr 1 0,acc++⟨#[45,10]⟩,rfl,hlt,.inr rfl,?_,rfl,?_⟩
   ·rw[ByteArray.data_append,Array.toList_append,ha,hnext];rfl
   ·rw[ByteArray.size_append];rfl
  ·rw[if_neg (fun e=>hn (hln.1 e))] at hnext
   have hj:∀ (st:VSt) (xs:List V),snapL st.own xs=some [.sl 2 W.length (W.map sD),.sc (.string ⟨#[32]⟩)]→VSpecO C.E 34 st xs (strV L):=fun st xs h1=>by
    rw[hC,← hjl]
    exact (VSpec.ofO (join_s w (n+3) ⟨[],0,0⟩ 2 (by decide) W [32] (by omega) (by rw[hjl];omega))).flat rfl h1
   have e5:=cat_l L [10] (by simp;omega)
   have hsz:(⟨(L++ [10]).toArray⟩:ByteArray).size=L.length+1:=by simp[ByteArray.size]
   have hwl0:W.length ≠ 0:=fun h=>hn (List.eq_nil_of_length_eq_zero h)
   have hml:(W.map sD).length=W.length:=by rw[List.length_map]
   subst hG
   repeat' (first|(simp (disch:=first|omega|assumption|exact bd (by with_unfolding_all rfl)|exact Or.inl rfl|exact Or.inl trivial|exact okL_map _ (fun _=>rfl) _|(simp only[VVlen]<;>omega)|fail) only[VV0,VV1,VV2,VV3,VV4,VV5,VV6,VV7,VV8,VV9,mkFnV,vargs,slotsL,opdsA,Nat.reduceEqDiff,Nat.reduceLT,Nat.reduceAdd,Nat.reduceBEq,Int.reduceAdd,Int.reduceSub,Int.reduceLT,Int.reduceLE,Int.reduceEq,Int.reduceNeg,↓reduceIte,reduceCtorEq,scL,scD,expand,List.replicate,c11l0,sD_dv,eqNilS_gr])|apply gC_drawW|((first|apply gI_dec|apply gG_dec|apply gPG_dec|apply gI_var|apply gG_var|apply gPG_var)<;>intro _))
   refine callV_flat (hj _ _ ?hs) ?_
   case hs=>
    show (snapV _ (.gr 2 3 W.length)).bind _=_
    rw[snap_grD (o:=3) (t:=9) (z:=false) (l:=W.map sD) rfl hml]
    rfl
   repeat' (first|(simp (disch:=first|omega|assumption|exact bd (by with_unfolding_all rfl)|exact Or.inl rfl|exact Or.inl trivial|exact okL_map _ (fun _=>rfl) _|(simp only[VVlen]<;>omega)|fail) only[VV0,VV1,VV2,VV3,VV4,VV5,VV6,VV7,VV8,VV9,mkFnV,vargs,slotsL,opdsA,Nat.reduceEqDiff,Nat.reduceLT,Nat.reduceAdd,Nat.reduceBEq,Int.reduceAdd,Int.reduceSub,Int.reduceLT,Int.reduceLE,Int.reduceEq,Int.reduceNeg,↓reduceIte,reduceCtorEq,scL,scD,expand,List.replicate,e5])|apply gC_drawW|((first|apply gI_dec|apply gG_dec|apply gPG_dec|apply gI_var|apply gG_var|apply gPG_var)<;>intro _))
   refine writeString_w w (n+1) hC 1 2 p acc _ rfl rfl hp (Nat.zero_le _) (Nat.zero_le _) (by decide) (Nat.ne_of_beq_eq_false rfl) (by rw[hsz];omega) ?_
   repeat' (first|(simp (disch:=first|omega|assumption|exact bd (by with_unfolding_all rfl)|exact Or.inl rfl|exact Or.inl trivial|exact okL_map _ (fun _=>rfl) _|(simp only[VVlen]<;>omega)|fail) only[VV0,VV1,VV2,VV3,VV4,VV5,VV6,VV7,VV8,VV9,mkFnV,vargs,slotsL,opdsA,Nat.reduceEqDiff,Nat.reduceLT,Nat.reduceAdd,Nat.reduceBEq,Int.reduceAdd,Int.reduceSub,Int.reduceLT,Int.reduceLE,Int.reduceEq,Int.reduceNeg,↓reduceIte,reduceCtorEq,scL,scD,expand,List.replicate])|apply gC_drawW|((first|apply gI_dec|apply gG_dec|apply gPG_dec|apply gI_var|apply gG_var|apply gPG_var)<;>intro _))
   refine ⟨_,_,_,by omega,weak_to [(4,2),(1,1),(0,0)] 3 h0 rfl rfl rfl rfl,y+1,.ptr 1 0,acc++⟨(L++ [10]).toArray⟩,rfl,hlt,.inr rfl,?_,rfl,?_⟩
   ·rw[ByteArray.data_append,Array.toList_append,ha,hnext]
   ·rw[ByteArray.size_append];rfl
end
end Go.Proofs.YtepdkmdcainddaaDoor
namespace Go.Proofs.YtepdkmdcainddaaDoor
open Go Go.Itp
set_option maxRecDepth 100000
set_option maxHeartbeats 1000000
set_option linter.unusedSimpArgs false
section
variable (w:World) (n:Nat)
end
end Go.Proofs.YtepdkmdcainddaaDoor
namespace Go.Proofs.YtepdkmdcainddaaDoor
open Go Go.Itp
set_option maxRecDepth 100000
set_option maxHeartbeats 1000000
set_option linter.unusedSimpArgs false
theorem callV_fin {C:Ctx} {st:VSt} {f:FuncId} {xs:List V} {v:V} {Q:V→VSt→Prop} (h:VSpec C.E f xs v ⟨[],0,0⟩) (hs:snapL st.own xs=some xs) (hz:fzSL xs= []) (hv:∀ k,vsh k v=v) (hq:Q v st):CallV C f xs st Q:=by
 refine callV_of h hs (by rw[hz];rfl) rfl ?_
 rw[hz,hv,frozA_none]
 exact hq
end Go.Proofs.YtepdkmdcainddaaDoor
namespace Go.Proofs.YtepdkmdcainddaaDoor
open Go Go.Itp
set_option maxRecDepth 100000
def numA (l:List UInt8):Option Int:=match Lib.atoiAll l with
 | .ok v=>some v
 |_=>none
theorem numA_ok {l:List UInt8} {v:Int} (h:numA l=some v):Lib.atoiAll l= .ok v:=by
 unfold numA at h
 split at h
 ·rename_i u hu;cases h;exact hu
 ·cases h
theorem numA_none {l:List UInt8} (h:numA l=none) (v:Int):Lib.atoiAll l ≠ .ok v:=by
 intro e
 unfold numA at h
 rw[e] at h
 cases h
theorem numA_itoa (k:Nat) (h:k≤1000000):numA (Lib.itoa ((k:Int)+1))=some ((k:Int)+1):=by
 unfold numA
 rw[atoi_itoa (by omega) (by omega)]
theorem numA_dash:numA [45]=none:=by rfl
def rowsLoop (n:Nat):List (List UInt8)→Nat→List Bool→Option (List Bool)
 | [],_,out=>some out
 |x::ws,last,out=>if (numF x).2=true∧(last:Int)<(numF x).1∧(numF x).1≤n then rowsLoop n ws (numF x).1.toNat (out.set ((numF x).1.toNat - 1) true) else none
def rowF (n:Nat) (x:List UInt8):Option (List Bool):=if x= [45] then some (List.replicate n false) else rowsLoop n (words 32 x) 0 (List.replicate n false)
def setA (n:Nat) (out:List Bool) (x:List UInt8):List Bool:=match numA x with
 |some v=>if 1≤v∧v≤n then out.set (v.toNat - 1) true else out
 |none=>out
def rowP (n:Nat) (x:List UInt8):List Bool:=(words 32 x).foldl (setA n) (List.replicate n false)
def ltx (r:Nat→Bool) (n:Nat):List UInt8:=if lineTo r n= [] then [45] else lineTo r n
def fnL (l:List Bool):Nat→Bool:=fun i=>l[i]!
theorem wordsTo_congr {r r':Nat→Bool}:∀ k,(∀ i,i<k→r i=r' i)→wordsTo r k=wordsTo r' k
 |0,_=>rfl
 |k+1,h=>by rw[wordsTo,wordsTo,wordsTo_congr k fun i hi=>h i (by omega),h k (by omega)]
theorem wordsTo_flat {r:Nat→Bool} {a:Nat}:∀ m,(∀ i,a≤i→i<a+m→r i=false)→wordsTo r (a+m)=wordsTo r a
 |0,_=>rfl
 |m+1,h=>by
  rw[← Nat.add_assoc,wordsTo,h (a+m) (by omega) (by omega),if_neg (by decide),List.append_nil]
  exact wordsTo_flat m fun i h1 h2=>h i h1 (by omega)
theorem rowsLoop_sound {n:Nat}:∀ (ws:List (List UInt8)) (last:Nat) (out R:List Bool),rowsLoop n ws last out=some R→out.length=n→last≤n→(∀ i,last≤i→i<n→out[i]! =false)→R.length=n∧wordsTo (fnL R) n=wordsTo (fnL out) last++ws
 | [],last,out,R,h,h1,h2,h3=>by
  simp only[rowsLoop,Option.some.injEq] at h
  subst h
  refine ⟨h1,?_⟩
  have:=wordsTo_flat (r:=fnL out) (a:=last) (n - last) fun i ha hb=>h3 i ha (by omega)
  rw[show last+(n - last)=n by omega] at this
  rw[this,List.append_nil]
 |x::ws,last,out,R,h,h1,h2,h3=>by
  rw[rowsLoop] at h
  split at h
  ·rename_i hc
   obtain ⟨c1,c2,c3⟩:=hc
   obtain ⟨z1,z2,z3⟩:=numF_some (l:=x) (z:=(numF x).1) (by rw[← c1])
   generalize (numF x).1=z at*
   obtain ⟨k,rfl⟩:∃ k:Nat,z=(k:Int)+1:=⟨z.toNat - 1,by omega⟩
   have ek:((k:Int)+1).toNat=k+1:=by omega
   rw[ek,Nat.add_sub_cancel] at h
   have hset:∀ i,i ≠ k→(out.set k true)[i]! =out[i]! :=fun i hi=>by simp[List.getElem!_eq_getElem?_getD,List.getElem?_set,Ne.symm hi]
   obtain ⟨e1,e2⟩:=rowsLoop_sound ws (k+1) (out.set k true) R h (by simpa using h1) (by omega) fun i ha hb=>by rw[hset i (by omega)];exact h3 i (by omega) hb
   refine ⟨e1,?_⟩
   have e3:fnL (out.set k true) k=true:=by
    unfold fnL
    rw[getElem!_pos _ k (by rw[List.length_set];omega),List.getElem_set_self]
   have e4:wordsTo (fnL (out.set k true)) k=wordsTo (fnL out) k:=wordsTo_congr k fun i hi=>hset i (by omega)
   have e5:=wordsTo_flat (r:=fnL out) (a:=last) (k - last) fun i ha hb=>h3 i ha (by omega)
   rw[show last+(k - last)=k by omega] at e5
   rw[e2,wordsTo,e3,if_pos rfl,e4,e5,← z3]
   simp
  ·cases h
theorem rowF_sound {n:Nat} (_hn:1≤n) {x:List UInt8} {R:List Bool} (h:rowF n x=some R):R.length=n∧x=ltx (fnL R) n:=by
 have hrep:∀ i,i<n→(List.replicate n false)[i]! =false:=fun i hi=>by rw[getElem!_pos _ i (by simpa using hi)];simp
 unfold rowF at h
 split at h
 ·rename_i hx
  simp only[Option.some.injEq] at h
  subst h
  refine ⟨by simp,?_⟩
  have:=wordsTo_flat (r:=fnL (List.replicate n false)) (a:=0) n fun i _ hb=>hrep i (by omega)
  rw[Nat.zero_add] at this
  unfold ltx
  rw[if_pos ((line_nil _ n).2 (this.trans rfl)),hx]
 ·obtain ⟨e1,e2⟩:=rowsLoop_sound (words 32 x) 0 _ R h (by simp) (Nat.zero_le _) fun i _ hb=>hrep i hb
  refine ⟨e1,?_⟩
  have e3:wordsTo (fnL R) n=words 32 x:=e2
  have e4:=line_join (fnL R) n
  rw[e3,join_one,join_words] at e4
  have e5:lineTo (fnL R) n ≠ []:=fun e=>words_ne 32 x (e3▸(line_nil _ n).1 e)
  unfold ltx
  rw[if_neg e5,e4]
def wf (r:Nat→Bool):Nat→Nat→List (List UInt8)
 |_,0=> []
 |k,m+1=>(if r k then [Lib.itoa ((k:Int)+1)] else [])++wf r (k+1) m
theorem wf_all (r:Nat→Bool):∀ m k,wordsTo r (k+m)=wordsTo r k++wf r k m
 |0,k=>by simp[wf]
 |m+1,k=>by
  have:=wf_all r m (k+1)
  rw[show k+(m+1)=k+1+m by omega,this,wordsTo,wf,List.append_assoc]
def trunc (r:Nat→Bool) (n k:Nat):List Bool:=(List.range n).map fun i=>decide (i<k) && r i
theorem trunc_set (r:Nat→Bool) (n k:Nat) (hr:r k=true):(trunc r n k).set k true=trunc r n (k+1):=by
 refine List.ext_getElem (by simp[trunc]) fun i h1 h2=>?_
 simp only[trunc,List.getElem_set,List.getElem_map,List.getElem_range]
 by_cases h:k=i
 ·subst h;simp[hr]
 ·rw[if_neg h]
  congr 1
  exact decide_eq_decide.2 (by omega)
theorem trunc_skip (r:Nat→Bool) (n k:Nat) (hr:r k=false):trunc r n k=trunc r n (k+1):=by
 refine List.ext_getElem (by simp[trunc]) fun i h1 h2=>?_
 simp only[trunc,List.getElem_map,List.getElem_range]
 by_cases h:k=i
 ·subst h;simp[hr]
 ·congr 1
  exact decide_eq_decide.2 (by omega)
theorem trunc_zero (r:Nat→Bool) (n:Nat):trunc r n 0=List.replicate n false:=by
 refine List.ext_getElem (by simp[trunc]) fun i h1 h2=>?_
 simp[trunc]
theorem trunc_all (r:Nat→Bool) (n:Nat):trunc r n n=(List.range n).map r:=by
 refine List.ext_getElem (by simp[trunc]) fun i h1 h2=>?_
 simp only[trunc,List.getElem_map,List.getElem_range]
 have:i<n:=by simpa [trunc] using h1
 simp[this]
theorem rowsLoop_wf (r:Nat→Bool) (n:Nat) (hn:n≤1000):∀ m k last,k+m=n→last≤k→rowsLoop n (wf r k m) last (trunc r n k)=some (trunc r n n)
 |0,k,last,h,_=>by
  have:k=n:=by omega
  subst this;rfl
 |m+1,k,last,h,hl=>by
  by_cases hr:r k=true
  ·have e:=numF_itoa (z:=(k:Int)+1) (by omega) (by omega)
   have ek:((k:Int)+1).toNat=k+1:=by omega
   rw[wf,hr,if_pos rfl,List.cons_append,List.nil_append,rowsLoop,e,if_pos ⟨rfl,by show (last:Int)<(k:Int)+1;omega,by show (k:Int)+1≤(n:Int);omega⟩]
   show rowsLoop n _ ((k:Int)+1).toNat ((trunc r n k).set (((k:Int)+1).toNat - 1) true)=_
   rw[ek,Nat.add_sub_cancel,trunc_set r n k hr]
   exact rowsLoop_wf r n hn m (k+1) (k+1) (by omega) (Nat.le_refl _)
  ·rw[wf,if_neg hr,List.nil_append,trunc_skip r n k (Bool.eq_false_iff.2 hr)]
   exact rowsLoop_wf r n hn m (k+1) last (by omega) (by omega)
theorem rowP_wf (r:Nat→Bool) (n:Nat) (hn:n≤1000):∀ m k,k+m=n→(wf r k m).foldl (setA n) (trunc r n k)=trunc r n n
 |0,k,h=>by
  have:k=n:=by omega
  subst this;rfl
 |m+1,k,h=>by
  by_cases hr:r k=true
  ·have ek:((k:Int)+1).toNat=k+1:=by omega
   have e:setA n (trunc r n k) (Lib.itoa ((k:Int)+1))=trunc r n (k+1):=by
    unfold setA
    rw[numA_itoa k (by omega)]
    show (if 1≤(k:Int)+1∧(k:Int)+1≤n then _ else _)=_
    rw[if_pos ⟨by omega,by omega⟩,ek,Nat.add_sub_cancel,trunc_set r n k hr]
   rw[wf,hr,if_pos rfl,List.cons_append,List.nil_append,List.foldl_cons,e]
   exact rowP_wf r n hn m (k+1) (by omega)
  ·rw[wf,if_neg hr,List.nil_append,trunc_skip r n k (Bool.eq_false_iff.2 hr)]
   exact rowP_wf r n hn m (k+1) (by omega)
theorem word_dig (r:Nat→Bool):∀ k,∀ x ∈ wordsTo r k,∀ b ∈ x,isDig b=true
 |0,x,h=>by cases h
 |k+1,x,h=>by
  rw[wordsTo] at h
  rcases List.mem_append.1 h with h|h
  ·exact word_dig r k x h
  ·split at h
   ·rw[List.mem_singleton.1 h]
    exact itoa_dig (by omega)
   ·cases h
theorem not_dig {x:List UInt8} {b:UInt8} (h:∀ c ∈ x,isDig c=true) (hb:isDig b=false):b ∉ x:=fun hm=>by rw[h b hm] at hb;cases hb
theorem ltx_cases (r:Nat→Bool) (n:Nat):(wordsTo r n= []∧ltx r n= [45])∨(wordsTo r n ≠ []∧ltx r n=join 32 (wordsTo r n)∧ltx r n ≠ [45]∧words 32 (ltx r n)=wordsTo r n):=by
 unfold ltx
 by_cases h:wordsTo r n= []
 ·exact .inl ⟨h,by rw[if_pos ((line_nil r n).2 h)]⟩
 ·have h2:lineTo r n ≠ []:=fun e=>h ((line_nil r n).1 e)
  have e1:=line_join r n
  rw[join_one] at e1
  have e2:words 32 (lineTo r n)=wordsTo r n:=by
   rw[← e1]
   exact words_join h fun x hx=>not_dig (word_dig r n x hx) (by decide)
  rw[if_neg h2]
  refine .inr ⟨h,e1.symm,fun e=>?_,e2⟩
  rw[e] at e2
  have e3:words 32 [45]= [[45]]:=by decide
  rw[e3] at e2
  have:=word_dig r n [45] (by rw[← e2];simp) 45 (by simp)
  revert this
  decide
theorem rowF_ltx (r:Nat→Bool) (n:Nat) (hn:n≤1000):rowF n (ltx r n)=some ((List.range n).map r)∧rowP n (ltx r n)=(List.range n).map r:=by
 have hw:=wf_all r n 0
 rw[Nat.zero_add,wordsTo,List.nil_append] at hw
 have h1:=rowsLoop_wf r n hn n 0 0 (by omega) (Nat.le_refl _)
 have h2:=rowP_wf r n hn n 0 (by omega)
 rw[← hw,trunc_zero,trunc_all] at h1 h2
 rcases ltx_cases r n with ⟨e1,e2⟩|⟨e1,e2,e3,e4⟩
 ·rw[e1] at h1 h2
  simp only[rowsLoop,Option.some.injEq] at h1
  rw[e2]
  refine ⟨by unfold rowF;rw[if_pos rfl,h1],?_⟩
  have e5:words 32 [45]= [[45]]:=by decide
  have e6:setA n (List.replicate n false) [45]=List.replicate n false:=by unfold setA;rw[numA_dash]
  unfold rowP
  rw[e5,List.foldl_cons,List.foldl_nil,e6,h1]
 ·unfold rowF rowP
  rw[if_neg e3,e4]
  exact ⟨h1,h2⟩
theorem ltx_no10 (r:Nat→Bool) (n:Nat):(10:UInt8) ∉ ltx r n:=by
 rcases ltx_cases r n with ⟨_,e2⟩|⟨e1,e2,_,_⟩
 ·rw[e2];decide
 ·rw[e2]
  have:∀ ws:List (List UInt8),(∀ x ∈ ws,(10:UInt8) ∉ x)→(10:UInt8) ∉ join 32 ws:=by
   intro ws
   induction ws with
   |nil=>intro _;simp[join]
   |cons x ws ih=>
    intro h
    cases ws with
    |nil=>exact h x (by simp)
    |cons y ws=>
     rw[join,List.mem_append,List.mem_cons]
     rintro (h1|h1|h1)
     ·exact h x (by simp) h1
     ·exact absurd h1 (by decide)
     ·exact ih (fun z hz=>h z (by simp only[List.mem_cons] at hz ⊢;exact .inr hz)) h1
  exact this _ fun x hx=>not_dig (word_dig r n x hx) (by decide)
end Go.Proofs.YtepdkmdcainddaaDoor
namespace Go.Proofs.YtepdkmdcainddaaDoor
open Go Go.Itp
set_option maxRecDepth 100000
def rReadL (n:Nat):List (List UInt8)→List Bool→Nat→Option (List Bool × Nat)
 | [],_,_=>none
 | [x],bits,h=>if x= []∧h ≠ 0 then some (bits,h) else none
 |x::y::ws,bits,h=>(rowF n x).bind fun R=>if h=64 then none else rReadL n (y::ws) (bits++R) (h+1)
def rreadF (n:Nat) (s:List UInt8):Option (List Bool × Nat):=rReadL n (words 10 s) [] 0
def bitsP (n:Nat) (ls:List (List UInt8)):List Bool:=(ls.map (rowP n)).flatten
def preadF (n:Nat) (s:List UInt8):Option (List Bool × Nat):=
 if s ≠ []∧s.getLast? =some 10∧(words 10 s.dropLast).length≤64∧planTo (bitsP n (words 10 s.dropLast)) n (words 10 s.dropLast).length=s then some (bitsP n (words 10 s.dropLast),(words 10 s.dropLast).length) else none
theorem setA_len (n:Nat) (out:List Bool) (x:List UInt8):(setA n out x).length=out.length:=by
 unfold setA
 split
 ·split<;>simp
 ·rfl
theorem fold_len (n:Nat):∀ (ws:List (List UInt8)) (out:List Bool),(ws.foldl (setA n) out).length=out.length
 | [],_=>rfl
 |x::ws,out=>by rw[List.foldl_cons,fold_len n ws,setA_len]
theorem rowP_len (n:Nat) (x:List UInt8):(rowP n x).length=n:=by unfold rowP;rw[fold_len];simp
theorem range_fnL (R:List Bool) (n:Nat) (h:R.length=n):(List.range n).map (fnL R)=R:=by
 refine List.ext_getElem (by simp[h]) fun i h1 h2=>?_
 simp only[List.getElem_map,List.getElem_range,fnL]
 rw[getElem!_pos R i h2]
theorem row_some {n:Nat} (hn:1≤n) (hn2:n≤1000) {x:List UInt8} {R:List Bool} (h:rowF n x=some R):R=rowP n x∧ltx (fnL (rowP n x)) n=x:=by
 obtain ⟨h1,h2⟩:=rowF_sound hn h
 have h3:=(rowF_ltx (fnL R) n hn2).2
 rw[← h2,range_fnL R n h1] at h3
 refine ⟨h3.symm,?_⟩
 rw[h3];exact h2.symm
theorem row_of_ltx {n:Nat} (hn2:n≤1000) {x:List UInt8} (h:ltx (fnL (rowP n x)) n=x):rowF n x=some (rowP n x):=by
 have h3:=(rowF_ltx (fnL (rowP n x)) n hn2).1
 rw[h,range_fnL _ n (rowP_len n x)] at h3
 exact h3
def good (n:Nat) (x:List UInt8):Prop:=ltx (fnL (rowP n x)) n=x
theorem row_dec {n:Nat} (hn:1≤n) (hn2:n≤1000) (x:List UInt8):(good n x∧rowF n x=some (rowP n x))∨(¬ good n x∧rowF n x=none):=by
 by_cases h:good n x
 ·exact .inl ⟨h,row_of_ltx hn2 h⟩
 ·refine .inr ⟨h,?_⟩
  cases hr:rowF n x with
  |none=>rfl
  |some R=>exact absurd (row_some hn hn2 hr).2 h
theorem rReadL_last {n:Nat} {x:List UInt8} (hx:x ≠ []):∀ (ws:List (List UInt8)) (bits:List Bool) (h:Nat),rReadL n (ws++ [x]) bits h=none
 | [],bits,h=>by simp[rReadL,hx]
 | [y],bits,h=>by
  rw[List.cons_append,List.nil_append,rReadL]
  cases rowF n y with
  |none=>rfl
  |some R=>
   rw[Option.bind_some]
   split
   ·rfl
   ·exact rReadL_last hx [] _ _
 |y::z::ws,bits,h=>by
  rw[List.cons_append,List.cons_append,rReadL]
  cases rowF n y with
  |none=>rfl
  |some R=>
   rw[Option.bind_some]
   split
   ·rfl
   ·exact rReadL_last hx (z::ws) _ _
theorem rReadL_all {n:Nat} (hn:1≤n) (hn2:n≤1000):∀ (ws:List (List UInt8)) (bits:List Bool) (h:Nat),h≤64→(ws ≠ []∨h ≠ 0)→((∀ x ∈ ws,good n x)∧h+ws.length≤64∧rReadL n (ws++ [[]]) bits h=some (bits++bitsP n ws,h+ws.length))∨(¬ ((∀ x ∈ ws,good n x)∧h+ws.length≤64)∧rReadL n (ws++ [[]]) bits h=none)
 | [],bits,h,h6,h0=>by
  refine .inl ⟨fun x hx=>(by cases hx),h6,?_⟩
  rw[List.nil_append,rReadL,if_pos ⟨rfl,h0.resolve_left (fun h=>h rfl)⟩]
  simp[bitsP]
 |x::ws,bits,h,h6,h0=>by
  have e:rReadL n (x::ws++ [[]]) bits h=(rowF n x).bind fun R=>if h=64 then none else rReadL n (ws++ [[]]) (bits++R) (h+1):=by
   cases ws with
   |nil=>rfl
   |cons y ws=>rfl
  rw[e]
  rcases row_dec hn hn2 x with ⟨g,hr⟩|⟨g,hr⟩
  ·rw[hr,Option.bind_some]
   by_cases h64:h=64
   ·rw[if_pos h64]
    exact .inr ⟨fun ⟨_,h2⟩=>by simp only[List.length_cons] at h2;omega,rfl⟩
   rw[if_neg h64]
   rcases rReadL_all hn hn2 ws (bits++rowP n x) (h+1) (by omega) (.inr (by omega)) with ⟨a1,a2,a3⟩|⟨a1,a2⟩
   ·refine .inl ⟨fun y hy=>?_,by simp only[List.length_cons];omega,?_⟩
    ·rcases List.mem_cons.1 hy with rfl|hy
     ·exact g
     ·exact a1 y hy
    ·rw[a3]
     simp only[bitsP,List.map_cons,List.flatten_cons,List.append_assoc,List.length_cons,Option.some.injEq,Prod.mk.injEq,true_and]
     omega
   ·refine .inr ⟨fun ⟨b1,b2⟩=>a1 ⟨fun y hy=>b1 y (List.mem_cons_of_mem _ hy),by simp only[List.length_cons] at b2;omega⟩,a2⟩
  ·rw[hr]
   exact .inr ⟨fun ⟨b1,_⟩=>g (b1 x List.mem_cons_self),rfl⟩
theorem rowText_congr {r r':Nat→Bool} (n:Nat) (h:∀ i,i<n→r i=r' i):rowText r n=rowText r' n:=by
 have:∀ k,k≤n→lineTo r k=lineTo r' k:=fun k=>by
  induction k with
  |zero=>intro _;rfl
  |succ k ih=>intro hk;rw[lineTo,lineTo,ih (by omega),h k (by omega)]
 unfold rowText
 rw[this n (Nat.le_refl _)]
theorem rowText_ltx (r:Nat→Bool) (n:Nat):rowText r n=ltx r n++ [10]:=rfl
theorem planTo_congr {B B':List Bool} {Q:Nat}:∀ k,(∀ i,i<k*Q→B[i]! =B'[i]!)→planTo B Q k=planTo B' Q k
 |0,_=>rfl
 |k+1,h=>by
  rw[planTo,planTo,planTo_congr k fun i hi=>h i (by rw[Nat.succ_mul];omega),rowText_congr Q fun i hi=>?_]
  exact h (k*Q+i) (by rw[Nat.succ_mul];omega)
theorem flat_len {n:Nat}:∀ (Rs:List (List Bool)),(∀ R ∈ Rs,R.length=n)→Rs.flatten.length=Rs.length*n
 | [],_=>by simp
 |R::Rs,h=>by
  rw[List.flatten_cons,List.length_append,h R (by simp),flat_len Rs fun x hx=>h x (List.mem_cons_of_mem _ hx),List.length_cons,Nat.succ_mul,Nat.add_comm]
theorem get_app1 (a b:List Bool) (i:Nat) (h:i<a.length):(a++b)[i]! =a[i]! :=by
 rw[getElem!_pos _ i (by simp;omega),getElem!_pos a i h,List.getElem_append_left h]
theorem get_app2 (a b:List Bool) (i:Nat) (h:i<b.length):(a++b)[a.length+i]! =b[i]! :=by
 rw[getElem!_pos _ _ (by simp;omega),getElem!_pos b i h,List.getElem_append_right (by omega)]
 congr 1;omega
theorem planTo_snoc {Q:Nat} (B R:List Bool) (k:Nat) (hB:B.length=k*Q) (hR:R.length=Q):planTo (B++R) Q (k+1)=planTo B Q k++(ltx (fnL R) Q++ [10]):=by
 rw[planTo,planTo_congr (B':=B) k fun i hi=>get_app1 _ _ _ (by omega),← rowText_ltx,rowText_congr Q (r':=fnL R) fun i hi=>?_]
 unfold rowOf fnL
 rw[← hB]
 exact get_app2 B R i (by omega)
def fed (ls:List (List UInt8)):List UInt8:=(ls.map (· ++ [10])).flatten
theorem fed_snoc (ls:List (List UInt8)) (x:List UInt8):fed (ls++ [x])=fed ls++(x++ [10]):=by simp[fed]
theorem planTo_rows {Q:Nat}:∀ (k:Nat) (Rs:List (List Bool)),Rs.length=k→(∀ R ∈ Rs,R.length=Q)→planTo Rs.flatten Q k=fed (Rs.map fun R=>ltx (fnL R) Q)
 |0,Rs,h,_=>by
  have:Rs= []:=List.eq_nil_of_length_eq_zero h
  subst this;rfl
 |k+1,Rs,h,hR=>by
  have hne:Rs ≠ []:=fun e=>by rw[e] at h;simp at h
  obtain ⟨S,p,rfl⟩:∃ S p,Rs=S++ [p]:=⟨Rs.dropLast,Rs.getLast hne,(List.dropLast_concat_getLast hne).symm⟩
  have hS:S.length=k:=by simp at h;exact h
  have hS2:∀ R ∈ S,R.length=Q:=fun R hR2=>hR R (by simp[hR2])
  rw[List.flatten_append,List.flatten_cons,List.flatten_nil,List.append_nil,planTo_snoc _ _ _ (by rw[flat_len S hS2,hS]) (hR p (by simp)),planTo_rows k S hS hS2,List.map_append,List.map_cons,List.map_nil,fed_snoc]
theorem cut_inj {a b r t:List UInt8} (ha:(10:UInt8) ∉ a) (hb:(10:UInt8) ∉ b) (h:a++10::r=b++10::t):a=b∧r=t:=by
 have h1:=idxB_app r ha
 rw[h,idxB_app t hb] at h1
 have h2:a.length=b.length:=by omega
 obtain ⟨e1,e2⟩:=List.append_inj h h2
 exact ⟨e1,by simpa using e2⟩
theorem fed_inj:∀ {ls ms:List (List UInt8)},ls.length=ms.length→(∀ x ∈ ls,(10:UInt8) ∉ x)→(∀ x ∈ ms,(10:UInt8) ∉ x)→fed ls=fed ms→ls=ms
 | [],[],_,_,_,_=>rfl
 | [],_::_,h,_,_,_=>by simp at h
 |_::_,[],h,_,_,_=>by simp at h
 |x::ls,y::ms,h,h1,h2,he=>by
  simp only[fed,List.map_cons,List.flatten_cons,List.append_assoc,List.cons_append,List.nil_append] at he
  obtain ⟨e1,e2⟩:=cut_inj (h1 x (by simp)) (h2 y (by simp)) he
  rw[e1,fed_inj (ls:=ls) (ms:=ms) (by simpa using h) (fun z hz=>h1 z (List.mem_cons_of_mem _ hz)) (fun z hz=>h2 z (List.mem_cons_of_mem _ hz)) e2]
theorem fed_join:∀ (ls:List (List UInt8)),ls ≠ []→fed ls=join 10 ls++ [10]
 | [],h=>absurd rfl h
 | [x],_=>by simp[fed,join]
 |x::y::ls,_=>by
  have:=fed_join (y::ls) (by simp)
  rw[join]
  simp only[fed,List.map_cons,List.flatten_cons,List.append_assoc,List.cons_append,List.nil_append] at this ⊢
  rw[this]
theorem words_fed (r:List UInt8):words 10 (r++ [10])=words 10 r++ [[]]:=by
 have h1:=words_ne 10 r
 have h2:join 10 (words 10 r++ [[]])=r++ [10]:=by rw[join_snoc _ _ h1,join_words]
 rw[← h2]
 exact words_join (by simp) fun x hx=>by
  rcases List.mem_append.1 hx with h|h
  ·exact words_mem r.length (Nat.le_refl _) x h
  ·rw[List.mem_singleton.1 h];simp
theorem plan_good {n:Nat} (ls:List (List UInt8)) (hl:∀ x ∈ ls,(10:UInt8) ∉ x):planTo (bitsP n ls) n ls.length=fed ls↔∀ x ∈ ls,good n x:=by
 have h1:planTo (bitsP n ls) n ls.length=fed (ls.map fun x=>ltx (fnL (rowP n x)) n):=by
  unfold bitsP
  rw[planTo_rows ls.length (ls.map (rowP n)) (by simp) fun R hR=>by
   obtain ⟨x,_,rfl⟩:=List.mem_map.1 hR
   exact rowP_len n x,List.map_map]
  rfl
 rw[h1]
 constructor
 ·intro h x hx
  have h2:=fed_inj (by simp) (fun y hy=>by obtain ⟨z,_,rfl⟩:=List.mem_map.1 hy;exact ltx_no10 _ _) hl h
  have h3:∀ {ms:List (List UInt8)},ms.map (fun x=>ltx (fnL (rowP n x)) n)=ms→∀ x ∈ ms,good n x:=by
   intro ms
   induction ms with
   |nil=>intro _ x hx;cases hx
   |cons y ms ih=>
    intro he x hx
    simp only[List.map_cons,List.cons.injEq] at he
    rcases List.mem_cons.1 hx with rfl|hx
    ·exact he.1
    ·exact ih he.2 x hx
  exact h3 h2 x hx
 ·intro h
  congr 1
  conv=>rhs;rw[← List.map_id ls]
  exact List.map_congr_left fun x hx=>h x hx
theorem read_eq {n:Nat} (hn:1≤n) (hn2:n≤1000) (s:List UInt8):preadF n s=rreadF n s:=by
 by_cases hs:s= []
 ·subst hs
  simp[preadF,rreadF,words,rReadL]
 by_cases hl:s.getLast? =some 10
 ·obtain ⟨r,rfl⟩:∃ r,s=r++ [10]:=by
   refine ⟨s.dropLast,?_⟩
   have h1:=List.dropLast_concat_getLast hs
   rw[List.getLast?_eq_some_getLast hs] at hl
   rw[Option.some.inj hl] at h1
   exact h1.symm
  unfold preadF rreadF
  rw[words_fed,List.dropLast_concat]
  have hm:=words_mem (c:=10) r.length (s:=r) (Nat.le_refl _)
  have hf:fed (words 10 r)=r++ [10]:=by rw[fed_join _ (words_ne 10 r),join_words]
  have hg:=plan_good (n:=n) (words 10 r) hm
  rw[hf] at hg
  have hne:=words_ne 10 r
  generalize words 10 r=ls at*
  rcases rReadL_all hn hn2 ls [] 0 (by omega) (.inl hne) with ⟨a1,a2,a3⟩|⟨a1,a2⟩
  ·rw[a3,if_pos ⟨hs,hl,by omega,hg.2 a1⟩]
   simp
  ·rw[a2,if_neg]
   rintro ⟨_,_,b2,b3⟩
   exact a1 ⟨hg.1 b3,by omega⟩
 ·unfold preadF rreadF
  rw[if_neg (fun h=>hl h.2.1)]
  have hne:=words_ne 10 s
  have hj:=join_words 10 s
  obtain ⟨S,p,hw⟩:∃ S p,words 10 s=S++ [p]:=⟨(words 10 s).dropLast,(words 10 s).getLast hne,(List.dropLast_concat_getLast hne).symm⟩
  rw[hw]
  by_cases hp:p= []
  ·exfalso
   subst hp
   rw[hw] at hj
   by_cases hS:S= []
   ·subst hS
    exact hs hj.symm
   ·rw[join_snoc _ _ hS] at hj
    rw[← hj] at hl
    simp at hl
  ·exact (rReadL_last hp S [] 0).symm
end Go.Proofs.YtepdkmdcainddaaDoor
namespace Go.Proofs.YtepdkmdcainddaaDoor
open Go Go.Itp
set_option maxRecDepth 100000
set_option maxHeartbeats 1000000
set_option linter.unusedSimpArgs false
section
variable (w:World) (n:Nat)
theorem indexByteString_o (st:VSt) (l:List UInt8) (c:UInt8):VSpecO (EN w (n+1)) 107 st [strV l,.sc (.int .u8 c.toNat)] (.sc (.int .i64 (idxB c l))):=by
 refine prim_o (ys:= [.string ⟨l.toArray⟩,.int .u8 c.toNat]) (fun s=>?_) rfl
 refine orElse_left ?_
 show primA .indexByte 0 [.string ⟨l.toArray⟩,.int .u8 c.toNat] s=_
 unfold primA
 simp only[Int.toNat_natCast]
 rw[show c.toNat.toUInt8=c by simp,firstIdxA_l]
theorem indexByte_p (l:List UInt8) (c:UInt8):VSpec (EN w (n+2)) 99 [strV l,.sc (.int .u8 c.toNat)] (.sc (.int .i64 (idxB c l))) ⟨[],0,0⟩:=by
 refine vspec_flat rfl rfl (fun _ _=>rfl) (Nat.le_of_ble_eq_true rfl) (oldVals w) rfl fun C hC h0=>?_
 repeat' (first|(simp (disch:=first|omega|assumption|exact bd (by with_unfolding_all rfl)|exact Or.inl rfl|exact Or.inl trivial|exact okL_map _ (fun _=>rfl) _|(simp only[VVlen]<;>omega)|fail) only[VV0,VV1,VV2,VV3,VV4,VV5,VV6,VV7,VV8,VV9,mkFnV,vargs,slotsL,opdsA,Nat.reduceEqDiff,Nat.reduceLT,Nat.reduceAdd,Nat.reduceBEq,Int.reduceAdd,Int.reduceSub,Int.reduceLT,Int.reduceLE,Int.reduceEq,Int.reduceNeg,↓reduceIte,reduceCtorEq,scL,scD,expand,List.replicate,c99])|apply gC_drawW|((first|apply gI_dec|apply gG_dec|apply gPG_dec|apply gI_var|apply gG_var|apply gPG_var)<;>intro _))
 refine callV_flat (by rw[hC];exact indexByteString_o w n _ l c) ?_
 repeat' (first|(simp (disch:=first|omega|assumption|exact bd (by with_unfolding_all rfl)|exact Or.inl rfl|exact Or.inl trivial|exact okL_map _ (fun _=>rfl) _|(simp only[VVlen]<;>omega)|fail) only[VV0,VV1,VV2,VV3,VV4,VV5,VV6,VV7,VV8,VV9,mkFnV,vargs,slotsL,opdsA,Nat.reduceEqDiff,Nat.reduceLT,Nat.reduceAdd,Nat.reduceBEq,Int.reduceAdd,Int.reduceSub,Int.reduceLT,Int.reduceLE,Int.reduceEq,Int.reduceNeg,↓reduceIte,reduceCtorEq,scL,scD,expand,List.replicate])|apply gC_drawW|((first|apply gI_dec|apply gG_dec|apply gPG_dec|apply gI_var|apply gG_var|apply gPG_var)<;>intro _))
 exact weak_flat rfl h0 rfl
theorem index1_p (l:List UInt8) (c:UInt8) (hl:l.length≤1000000000):VSpec (EN w (n+3)) 89 [strV l,strV [c]] (.sc (.int .i64 (idxB c l))) ⟨[],0,0⟩:=by
 refine vspec_flat rfl rfl (fun _ _=>rfl) (Nat.le_of_ble_eq_true rfl) (oldVals w) rfl fun C hC h0=>?_
 have h1:(ByteArray.mk [c].toArray).size=1:=rfl
 have hlc:((ByteArray.mk [c].toArray)=ByteArray.mk l.toArray)↔l= [c]:=by
  constructor
  ·intro h
   have:=congrArg (fun b:ByteArray=>b.data.toList) h
   simpa using this.symm
  ·rintro rfl;rfl
 by_cases hc:l= [c]
 ·subst hc
  have hi:idxB c [c]=0:=idxB_app (a:= []) [] (by simp)
  rw[hi]
  repeat' (first|(simp (disch:=first|omega|assumption|exact bd (by with_unfolding_all rfl)|exact Or.inl rfl|exact Or.inl trivial|exact okL_map _ (fun _=>rfl) _|(simp only[VVlen]<;>omega)|fail) only[VV0,VV1,VV2,VV3,VV4,VV5,VV6,VV7,VV8,VV9,mkFnV,vargs,slotsL,opdsA,Nat.reduceEqDiff,Nat.reduceLT,Nat.reduceAdd,Nat.reduceBEq,Int.reduceAdd,Int.reduceSub,Int.reduceLT,Int.reduceLE,Int.reduceEq,Int.reduceNeg,↓reduceIte,reduceCtorEq,scL,scD,expand,List.replicate,c89,h1])|apply gC_drawW|((first|apply gI_dec|apply gG_dec|apply gPG_dec|apply gI_var|apply gG_var|apply gPG_var)<;>intro _))
  exact weak_flat rfl h0 rfl
 ·have hb:idxStrV (strV [c]) (.sc (.int .i64 0))=some (.sc (.int .u8 c.toNat)):=by
   rw[idxStr_l _ _ _ (by omega) (by simp)]
   rfl
  repeat' (first|(simp (disch:=first|omega|assumption|exact bd (by with_unfolding_all rfl)|exact Or.inl rfl|exact Or.inl trivial|exact okL_map _ (fun _=>rfl) _|(simp only[VVlen]<;>omega)|fail) only[VV0,VV1,VV2,VV3,VV4,VV5,VV6,VV7,VV8,VV9,mkFnV,vargs,slotsL,opdsA,Nat.reduceEqDiff,Nat.reduceLT,Nat.reduceAdd,Nat.reduceBEq,Int.reduceAdd,Int.reduceSub,Int.reduceLT,Int.reduceLE,Int.reduceEq,Int.reduceNeg,↓reduceIte,reduceCtorEq,scL,scD,expand,List.replicate,c89,h1,hlc,hc,hb])|apply gC_drawW|((first|apply gI_dec|apply gG_dec|apply gPG_dec|apply gI_var|apply gG_var|apply gPG_var)<;>intro _))
  refine callV_flat ((indexByte_p w n l c).of hC rfl _ rfl) ?_
  repeat' (first|(simp (disch:=first|omega|assumption|exact bd (by with_unfolding_all rfl)|exact Or.inl rfl|exact Or.inl trivial|exact okL_map _ (fun _=>rfl) _|(simp only[VVlen]<;>omega)|fail) only[VV0,VV1,VV2,VV3,VV4,VV5,VV6,VV7,VV8,VV9,mkFnV,vargs,slotsL,opdsA,Nat.reduceEqDiff,Nat.reduceLT,Nat.reduceAdd,Nat.reduceBEq,Int.reduceAdd,Int.reduceSub,Int.reduceLT,Int.reduceLE,Int.reduceEq,Int.reduceNeg,↓reduceIte,reduceCtorEq,scL,scD,expand,List.replicate])|apply gC_drawW|((first|apply gI_dec|apply gG_dec|apply gPG_dec|apply gI_var|apply gG_var|apply gPG_var)<;>intro _))
  exact weak_flat rfl h0 rfl
theorem index_p (l:List UInt8) (c:UInt8) (hl:l.length≤1000000000):VSpec (EN w (n+4)) 73 [strV l,strV [c]] (.sc (.int .i64 (idxB c l))) ⟨[],0,0⟩:=by
 refine vspec_flat rfl rfl (fun _ _=>rfl) (Nat.le_of_ble_eq_true rfl) (oldVals w) rfl fun C hC h0=>?_
 repeat' (first|(simp (disch:=first|omega|assumption|exact bd (by with_unfolding_all rfl)|exact Or.inl rfl|exact Or.inl trivial|exact okL_map _ (fun _=>rfl) _|(simp only[VVlen]<;>omega)|fail) only[VV0,VV1,VV2,VV3,VV4,VV5,VV6,VV7,VV8,VV9,mkFnV,vargs,slotsL,opdsA,Nat.reduceEqDiff,Nat.reduceLT,Nat.reduceAdd,Nat.reduceBEq,Int.reduceAdd,Int.reduceSub,Int.reduceLT,Int.reduceLE,Int.reduceEq,Int.reduceNeg,↓reduceIte,reduceCtorEq,scL,scD,expand,List.replicate,c73])|apply gC_drawW|((first|apply gI_dec|apply gG_dec|apply gPG_dec|apply gI_var|apply gG_var|apply gPG_var)<;>intro _))
 refine callV_flat ((index1_p w n l c hl).of hC rfl _ rfl) ?_
 repeat' (first|(simp (disch:=first|omega|assumption|exact bd (by with_unfolding_all rfl)|exact Or.inl rfl|exact Or.inl trivial|exact okL_map _ (fun _=>rfl) _|(simp only[VVlen]<;>omega)|fail) only[VV0,VV1,VV2,VV3,VV4,VV5,VV6,VV7,VV8,VV9,mkFnV,vargs,slotsL,opdsA,Nat.reduceEqDiff,Nat.reduceLT,Nat.reduceAdd,Nat.reduceBEq,Int.reduceAdd,Int.reduceSub,Int.reduceLT,Int.reduceLE,Int.reduceEq,Int.reduceNeg,↓reduceIte,reduceCtorEq,scL,scD,expand,List.replicate])|apply gC_drawW|((first|apply gI_dec|apply gG_dec|apply gPG_dec|apply gI_var|apply gG_var|apply gPG_var)<;>intro _))
 exact weak_flat rfl h0 rfl
end
end Go.Proofs.YtepdkmdcainddaaDoor
namespace Go.Proofs.YtepdkmdcainddaaDoor
open Go Go.Itp
set_option maxRecDepth 100000
set_option maxHeartbeats 1000000
set_option linter.unusedSimpArgs false
abbrev sBox (l:List UInt8):Itp.Obj:= .box 9 1 [strV l]
theorem split_ret (l:List UInt8) (c:UInt8):RetOK [(2,.box 3 1 [.sc (.int .i64 0)]),(1,sBox [c]),(0,sBox l)] (.fn 74 [] [.ptr 1 0,.ptr 0 0,.ptr 2 0]):=by
 refine ⟨?_,fun o t e L h=>?_,fun o ob h=>?_⟩
 ·simp only[Cl,ClL,and_true,true_and]
  exact ⟨⟨_,rfl,rfl⟩,⟨_,rfl,rfl⟩,⟨_,rfl,rfl⟩⟩
 ·simp only[aget_cons,aget_nil] at h
  split at h
  ·cases h;exact ⟨trivial,trivial⟩
  split at h
  ·cases h;exact ⟨trivial,trivial⟩
  split at h
  ·cases h;exact ⟨trivial,trivial⟩
  ·cases h
 ·intro _
  refine VR.root o ?_
  simp only[aget_cons,aget_nil] at h
  simp only[vids,vidsL,List.mem_append,List.mem_cons,List.not_mem_nil,or_false,false_or]
  split at h
  ·omega
  split at h
  ·omega
  split at h
  ·omega
  ·cases h
section
variable (w:World) (n:Nat)
theorem splitSeq0_p (l:List UInt8) (c:UInt8):VSpec (EN w (n+1)) 61 [strV l,strV [c],.sc (.int .i64 0)] (.fn 74 [] [.ptr 1 0,.ptr 0 0,.ptr 2 0]) ⟨[(2,.box 3 1 [.sc (.int .i64 0)]),(1,sBox [c]),(0,sBox l)],3,0⟩:=by
 refine vspec_g rfl rfl (fun _ _=>rfl) (Nat.le_of_ble_eq_true rfl) (oldVals w) (split_ret l c) rfl fun C hC hn=>?_
 repeat' (first|(simp (disch:=first|omega|assumption|exact bd (by with_unfolding_all rfl)|exact Or.inl rfl|exact Or.inl trivial|exact okL_map _ (fun _=>rfl) _|(simp only[VVlen]<;>omega)|fail) only[VV0,VV1,VV2,VV3,VV4,VV5,VV6,VV7,VV8,VV9,mkFnV,vargs,slotsL,opdsA,Nat.reduceEqDiff,Nat.reduceLT,Nat.reduceAdd,Nat.reduceBEq,Int.reduceAdd,Int.reduceSub,Int.reduceLT,Int.reduceLE,Int.reduceEq,Int.reduceNeg,↓reduceIte,reduceCtorEq,scL,scD,expand,List.replicate,c61])|apply gC_drawW|((first|apply gI_dec|apply gG_dec|apply gPG_dec|apply gI_var|apply gG_var|apply gPG_var)<;>intro _))
 exact weak_to [(2,2),(1,1),(0,0)] 3 hn rfl rfl rfl rfl
theorem splitSeq_p (l:List UInt8) (c:UInt8):VSpec (EN w (n+2)) 49 [strV l,strV [c]] (.fn 74 [] [.ptr 1 0,.ptr 0 0,.ptr 2 0]) ⟨[(2,.box 3 1 [.sc (.int .i64 0)]),(1,sBox [c]),(0,sBox l)],3,0⟩:=by
 refine vspec_g rfl rfl (fun _ _=>rfl) (Nat.le_of_ble_eq_true rfl) (oldVals w) (split_ret l c) rfl fun C hC hn=>?_
 repeat' (first|(simp (disch:=first|omega|assumption|exact bd (by with_unfolding_all rfl)|exact Or.inl rfl|exact Or.inl trivial|exact okL_map _ (fun _=>rfl) _|(simp only[VVlen]<;>omega)|fail) only[VV0,VV1,VV2,VV3,VV4,VV5,VV6,VV7,VV8,VV9,mkFnV,vargs,slotsL,opdsA,Nat.reduceEqDiff,Nat.reduceLT,Nat.reduceAdd,Nat.reduceBEq,Int.reduceAdd,Int.reduceSub,Int.reduceLT,Int.reduceLE,Int.reduceEq,Int.reduceNeg,↓reduceIte,reduceCtorEq,scL,scD,expand,List.replicate,c49])|apply gC_drawW|((first|apply gI_dec|apply gG_dec|apply gPG_dec|apply gI_var|apply gG_var|apply gPG_var)<;>intro _))
 refine callV_of (by rw[hC];exact splitSeq0_p w n l c) rfl rfl rfl ?_
 repeat' (first|(simp (disch:=first|omega|assumption|exact bd (by with_unfolding_all rfl)|exact Or.inl rfl|exact Or.inl trivial|exact okL_map _ (fun _=>rfl) _|(simp only[VVlen]<;>omega)|fail) only[VV0,VV1,VV2,VV3,VV4,VV5,VV6,VV7,VV8,VV9,mkFnV,vargs,slotsL,opdsA,Nat.reduceEqDiff,Nat.reduceLT,Nat.reduceAdd,Nat.reduceBEq,Int.reduceAdd,Int.reduceSub,Int.reduceLT,Int.reduceLE,Int.reduceEq,Int.reduceNeg,↓reduceIte,reduceCtorEq,scL,scD,expand,List.replicate,vsh,vshL,shH,shO,fzSL,fzS])|apply gC_drawW|((first|apply gI_dec|apply gG_dec|apply gPG_dec|apply gI_var|apply gG_var|apply gPG_var)<;>intro _))
 exact weak_to [(2,2),(1,1),(0,0)] 3 hn rfl rfl rfl rfl
end
theorem split_iter {C':Ctx} {E:Env} {a b:AC} {fr:VFr} {ps:List Nat} {d oP oS oV:Nat} {c:UInt8} {s:List UInt8} (w:World) (n:Nat) (J:List (List UInt8)→List UInt8→VSt→Prop) (S:VSt→Prop) {P:VPost}
  (hE:C'.E.pcall=(EN w (n+4)).pcall) (hO:C'.E.old=oldOf w) (hr:C'.E.rounds=many) (hl:s.length≤1000000) (hT:∀ xs st Q,RoundV E a b fr ps d xs st Q→CallT C' d xs st Q)
  (hbox:∀ dn r st,J dn r st→aget st.own oS=some (sBox r)∧aget st.own oP=some (sBox [c])∧aget st.own oV=some (.box 3 1 [.sc (.int .i64 0)])∧st.ro≤oS)
  (hround:∀ dn r x ws st (Q:V→VSt→Prop),words c s=dn++words c r→words c r=x::ws→J dn r st→(∀ st',J (dn++ [x]) r st'→Q (.sc (.bool true)) st')→(∀ st',S st'→Q (.sc (.bool false)) st')→RoundV E a b fr ps d [strV x] st Q)
  (hset:∀ dn r r' st,J dn r st→J dn r' ⟨aset st.own oS (sBox r'),st.next,st.ro⟩)
  (hend:∀ fr st r,J (words c s) r st→P .normal fr st) (hstop:∀ ex fr st,(∀ i,ex ≠ .exit i)→S st→P ex fr st) (st0:VSt) (h0:J [] s st0):
  gC C' c74.code [] (vargs 0 [.tok d,.ptr oP 0,.ptr oS 0,.ptr oV 0]) st0 P:=by
 obtain ⟨k1,k2,k3,k4⟩:=hbox _ _ _ h0
 have h1:(ByteArray.mk [c].toArray).size=1:=rfl
 have h1i:((1:Nat):Int)=1:=rfl
 have hidx:∀ (st:VSt) (r:List UInt8),r.length≤1000000→VSpecO C'.E 73 st [strV r,strV [c]] (.sc (.int .i64 (idxB c r))):=fun st r hr=>((index_p w n r c (by omega)).flat rfl rfl).env hE hO
 repeat' (first|(simp (disch:=first|omega|assumption|exact bd (by with_unfolding_all rfl)|exact Or.inl rfl|exact Or.inl trivial|exact okL_map _ (fun _=>rfl) _|(simp only[VVlen]<;>omega)|fail) only[VV0,VV1,VV2,VV3,VV4,VV5,VV6,VV7,VV8,VV9,mkFnV,vargs,slotsL,opdsA,Nat.reduceEqDiff,Nat.reduceLT,Nat.reduceAdd,Nat.reduceBEq,Int.reduceAdd,Int.reduceSub,Int.reduceLT,Int.reduceLE,Int.reduceEq,Int.reduceNeg,↓reduceIte,reduceCtorEq,scL,scD,expand,List.replicate,c74,k2,h1,h1i])|apply gC_drawW|((first|apply gI_dec|apply gG_dec|apply gPG_dec|apply gI_var|apply gG_var|apply gPG_var)<;>intro _))
 all_goals try (exfalso;omega)
 refine g_while (fun m fr st=>∃ dn r,m=r.length∧r.length≤1000000∧words c s=dn++words c r∧J dn r st∧fr= [(0,.tok d),(1,.ptr oP 0),(2,.ptr oS 0),(3,.ptr oV 0)]) s.length ?_ ⟨_,_,weak_akeep [0,1,2,3] rfl,[],s,rfl,hl,rfl,h0,rfl⟩ ?_
 ·rw[hr];unfold many;omega
 rintro _ fr1 st ⟨dn,r,rfl,hrl,hw,hJ,rfl⟩
 obtain ⟨k1,k2,k3,k4⟩:=hbox _ _ _ hJ
 rcases byte_split c r with hf|⟨x,r',rfl,hf⟩
 ·have hi:=idxB_free hf
  repeat' (first|(simp (disch:=first|omega|assumption|exact bd (by with_unfolding_all rfl)|exact Or.inl rfl|exact Or.inl trivial|exact okL_map _ (fun _=>rfl) _|(simp only[VVlen]<;>omega)|fail) only[VV0,VV1,VV2,VV3,VV4,VV5,VV6,VV7,VV8,VV9,mkFnV,vargs,slotsL,opdsA,Nat.reduceEqDiff,Nat.reduceLT,Nat.reduceAdd,Nat.reduceBEq,Int.reduceAdd,Int.reduceSub,Int.reduceLT,Int.reduceLE,Int.reduceEq,Int.reduceNeg,↓reduceIte,reduceCtorEq,scL,scD,expand,List.replicate,c74l0,k1,k2,k3])|apply gC_drawW|((first|apply gI_dec|apply gG_dec|apply gPG_dec|apply gI_var|apply gG_var|apply gPG_var)<;>intro _))
  refine callV_flat (hidx _ r hrl) ?_
  rw[hi]
  repeat' (first|(simp (disch:=first|omega|assumption|exact bd (by with_unfolding_all rfl)|exact Or.inl rfl|exact Or.inl trivial|exact okL_map _ (fun _=>rfl) _|(simp only[VVlen]<;>omega)|fail) only[VV0,VV1,VV2,VV3,VV4,VV5,VV6,VV7,VV8,VV9,mkFnV,vargs,slotsL,opdsA,Nat.reduceEqDiff,Nat.reduceLT,Nat.reduceAdd,Nat.reduceBEq,Int.reduceAdd,Int.reduceSub,Int.reduceLT,Int.reduceLE,Int.reduceEq,Int.reduceNeg,↓reduceIte,reduceCtorEq,scL,scD,expand,List.replicate,k1,k2,k3])|apply gC_drawW|((first|apply gI_dec|apply gG_dec|apply gPG_dec|apply gI_var|apply gG_var|apply gPG_var)<;>intro _))
  all_goals try (exfalso;omega)
  have hwr:=words_free hf
  refine hT _ _ _ (hround dn r r [] st _ hw hwr hJ (fun st' hJ'=>?_) (fun st' hS=>?_))
  ·repeat' (first|(simp (disch:=first|omega|assumption|exact bd (by with_unfolding_all rfl)|exact Or.inl rfl|exact Or.inl trivial|exact okL_map _ (fun _=>rfl) _|(simp only[VVlen]<;>omega)|fail) only[VV0,VV1,VV2,VV3,VV4,VV5,VV6,VV7,VV8,VV9,mkFnV,vargs,slotsL,opdsA,Nat.reduceEqDiff,Nat.reduceLT,Nat.reduceAdd,Nat.reduceBEq,Int.reduceAdd,Int.reduceSub,Int.reduceLT,Int.reduceLE,Int.reduceEq,Int.reduceNeg,↓reduceIte,reduceCtorEq,scL,scD,expand,List.replicate])|apply gC_drawW|((first|apply gI_dec|apply gG_dec|apply gPG_dec|apply gI_var|apply gG_var|apply gPG_var)<;>intro _))
   exact hend _ _ r (by rw[hw,hwr];exact hJ')
  ·repeat' (first|(simp (disch:=first|omega|assumption|exact bd (by with_unfolding_all rfl)|exact Or.inl rfl|exact Or.inl trivial|exact okL_map _ (fun _=>rfl) _|(simp only[VVlen]<;>omega)|fail) only[VV0,VV1,VV2,VV3,VV4,VV5,VV6,VV7,VV8,VV9,mkFnV,vargs,slotsL,opdsA,Nat.reduceEqDiff,Nat.reduceLT,Nat.reduceAdd,Nat.reduceBEq,Int.reduceAdd,Int.reduceSub,Int.reduceLT,Int.reduceLE,Int.reduceEq,Int.reduceNeg,↓reduceIte,reduceCtorEq,scL,scD,expand,List.replicate])|apply gC_drawW|((first|apply gI_dec|apply gG_dec|apply gPG_dec|apply gI_var|apply gG_var|apply gPG_var)<;>intro _))
   exact hstop _ _ _ (fun i h=>by cases h) hS
 ·have hi:=idxB_app r' hf
  have hlen:(x++c::r').length=x.length+r'.length+1:=by simp;omega
  have hwr:=words_app r' hf
  have e1:=slcS_hi (x++c::r') .i64 x.length (by omega) (by rw[hlen];omega)
  have e2:=slcS_lo (x++c::r') .i64 ((x.length:Int)+1) (by omega) (by rw[hlen];omega)
  rw[Int.toNat_natCast,List.take_left] at e1
  rw[show ((x.length:Int)+1).toNat=x.length+1 by omega,show (x++c::r').drop (x.length+1)=r' by rw[← List.drop_drop];simp] at e2
  repeat' (first|(simp (disch:=first|omega|assumption|exact bd (by with_unfolding_all rfl)|exact Or.inl rfl|exact Or.inl trivial|exact okL_map _ (fun _=>rfl) _|(simp only[VVlen]<;>omega)|fail) only[VV0,VV1,VV2,VV3,VV4,VV5,VV6,VV7,VV8,VV9,mkFnV,vargs,slotsL,opdsA,Nat.reduceEqDiff,Nat.reduceLT,Nat.reduceAdd,Nat.reduceBEq,Int.reduceAdd,Int.reduceSub,Int.reduceLT,Int.reduceLE,Int.reduceEq,Int.reduceNeg,↓reduceIte,reduceCtorEq,scL,scD,expand,List.replicate,c74l0,k1,k2,k3])|apply gC_drawW|((first|apply gI_dec|apply gG_dec|apply gPG_dec|apply gI_var|apply gG_var|apply gPG_var)<;>intro _))
  refine callV_flat (hidx _ _ hrl) ?_
  rw[hi]
  repeat' (first|(simp (disch:=first|omega|assumption|exact bd (by with_unfolding_all rfl)|exact Or.inl rfl|exact Or.inl trivial|exact okL_map _ (fun _=>rfl) _|(simp only[VVlen]<;>omega)|fail) only[VV0,VV1,VV2,VV3,VV4,VV5,VV6,VV7,VV8,VV9,mkFnV,vargs,slotsL,opdsA,Nat.reduceEqDiff,Nat.reduceLT,Nat.reduceAdd,Nat.reduceBEq,Int.reduceAdd,Int.reduceSub,Int.reduceLT,Int.reduceLE,Int.reduceEq,Int.reduceNeg,↓reduceIte,reduceCtorEq,scL,scD,expand,List.replicate,k1,k2,k3,e1,Int.add_zero])|apply gC_drawW|((first|apply gI_dec|apply gG_dec|apply gPG_dec|apply gI_var|apply gG_var|apply gPG_var)<;>intro _))
  all_goals try (exfalso;omega)
  refine hT _ _ _ (hround dn _ x (words c r') _ _ hw hwr hJ (fun st' hJ'=>?_) (fun st' hS=>?_))
  ·obtain ⟨k1,k2,k3,k4⟩:=hbox _ _ _ hJ'
   repeat' (first|(simp (disch:=first|omega|assumption|exact bd (by with_unfolding_all rfl)|exact Or.inl rfl|exact Or.inl trivial|exact okL_map _ (fun _=>rfl) _|(simp only[VVlen]<;>omega)|fail) only[VV0,VV1,VV2,VV3,VV4,VV5,VV6,VV7,VV8,VV9,mkFnV,vargs,slotsL,opdsA,Nat.reduceEqDiff,Nat.reduceLT,Nat.reduceAdd,Nat.reduceBEq,Int.reduceAdd,Int.reduceSub,Int.reduceLT,Int.reduceLE,Int.reduceEq,Int.reduceNeg,↓reduceIte,reduceCtorEq,scL,scD,expand,List.replicate,k1,k2,k3,h1,h1i,e2])|apply gC_drawW|((first|apply gI_dec|apply gG_dec|apply gPG_dec|apply gI_var|apply gG_var|apply gPG_var)<;>intro _))
   refine ⟨_,_,_,?_,.refl _ _,dn++ [x],r',rfl,by omega,?_,hset _ _ r' _ hJ',rfl⟩
   ·rw[hlen];omega
   ·rw[hw,hwr];simp
  ·repeat' (first|(simp (disch:=first|omega|assumption|exact bd (by with_unfolding_all rfl)|exact Or.inl rfl|exact Or.inl trivial|exact okL_map _ (fun _=>rfl) _|(simp only[VVlen]<;>omega)|fail) only[VV0,VV1,VV2,VV3,VV4,VV5,VV6,VV7,VV8,VV9,mkFnV,vargs,slotsL,opdsA,Nat.reduceEqDiff,Nat.reduceLT,Nat.reduceAdd,Nat.reduceBEq,Int.reduceAdd,Int.reduceSub,Int.reduceLT,Int.reduceLE,Int.reduceEq,Int.reduceNeg,↓reduceIte,reduceCtorEq,scL,scD,expand,List.replicate])|apply gC_drawW|((first|apply gI_dec|apply gG_dec|apply gPG_dec|apply gI_var|apply gG_var|apply gPG_var)<;>intro _))
   exact hstop _ _ _ (fun i h=>by cases h) hS
end Go.Proofs.YtepdkmdcainddaaDoor
namespace Go.Proofs.YtepdkmdcainddaaDoor
open Go Go.Itp
set_option maxRecDepth 100000
set_option maxHeartbeats 1000000
set_option linter.unusedSimpArgs false
set_option linter.unusedVariables false
theorem dig_val {b:UInt8} (h:isDig b=true):Lib.digitVal b=some (b.toNat - 48):=by
 simp only[isDig,Bool.and_eq_true,decide_eq_true_eq] at h
 unfold Lib.digitVal
 rw[if_pos h]
theorem numF_not {l:List UInt8} {k:Nat} (hk:k<l.length) (h:isDig l[k]! =false∨9≤k):numF l=(0,false):=by
 unfold numF
 rw[if_neg]
 rintro ⟨h1,h2⟩
 rcases h with h|h
 ·have:=List.all_eq_true.1 h1 l[k]! (by rw[getElem!_pos l k hk];exact List.getElem_mem hk)
  rw[h] at this
  cases this
 ·omega
section
variable (w:World) (n:Nat)
theorem number_p (l:List UInt8) (hl:l.length≤1000000):VSpec (EN w (n+2)) 64 [strV l] (.tup [.sc (.int .i64 (numF l).1),.sc (.bool (numF l).2)]) ⟨[],0,0⟩:=by
 refine vspec_flat rfl rfl (fun _ _=>rfl) (Nat.le_of_ble_eq_true rfl) (oldVals w) rfl fun C hC h0=>?_
 have hsz:=mk_size l
 repeat' (first|(simp (disch:=first|omega|assumption|exact bd (by with_unfolding_all rfl)|exact Or.inl rfl|exact Or.inl trivial|exact okL_map _ (fun _=>rfl) _|(simp only[VVlen]<;>omega)|fail) only[VV0,VV1,VV2,VV3,VV4,VV5,VV6,VV7,VV8,VV9,mkFnV,vargs,slotsL,opdsA,Nat.reduceEqDiff,Nat.reduceLT,Nat.reduceAdd,Nat.reduceBEq,Int.reduceAdd,Int.reduceSub,Int.reduceLT,Int.reduceLE,Int.reduceEq,Int.reduceNeg,↓reduceIte,reduceCtorEq,scL,scD,expand,List.replicate,c64])|apply gC_drawW|((first|apply gI_dec|apply gG_dec|apply gPG_dec|apply gI_var|apply gG_var|apply gPG_var)<;>intro _))
 refine g_while (fun m fr st=>∃ k u:Nat,m=l.length - k∧k≤l.length∧k≤9∧u<10 ^ k∧(∀ j,j<k→isDig l[j]! =true)∧Lib.decFrom 0 (l.take k)=some u∧fr= [(0,strV l),(4,.sc (.int .i64 u)),(5,.sc (.int .i64 k))]∧st=⟨[],0,0⟩) l.length ?_ ⟨_,_,.refl _ _,0,0,?_⟩ ?_
 ·rw[hC,callP_rounds];unfold many;omega
 ·exact ⟨by omega,by omega,by omega,by decide,(fun j hj=>absurd hj (Nat.not_lt_zero _)),rfl,rfl,rfl⟩
 ·rintro m fr st ⟨k,u,rfl,hk,hk9,hu,hd,hf,rfl,rfl⟩
  have hu9:u<1000000000:=Nat.lt_of_lt_of_le hu (by have:=Nat.pow_le_pow_right (show 1≤10 by omega) hk9;simpa using this)
  by_cases hlt:k<l.length
  ·have hb:=idxStr_l l .i64 k (by omega) (by omega)
   rw[Int.toNat_natCast] at hb
   by_cases hdg:isDig l[k]! =true∧k≤8
   ·have hdg1:=hdg.1
    have hv:=dig_val hdg.1
    have hstep:=Lib.decFrom_take l k 0 u l[k]! _ hf (by rw[List.getElem?_eq_getElem hlt,getElem!_pos l k hlt]) hv
    have hnx:∀ j,j<k+1→isDig l[j]! =true:=fun j hj=>by
     rcases Nat.lt_succ_iff_lt_or_eq.1 hj with h|h
     ·exact hd j h
     ·subst h;exact hdg.1
    simp only[isDig,Bool.and_eq_true,decide_eq_true_eq] at hdg1
    have hk8:=hdg.2
    generalize l[k]!.toNat=b at hb hstep hdg1
    have e1:IntKind.u8.wrap ((b:Int) - 48)=((b - 48:Nat):Int):=by rw[wrap_u8 _ (by omega) (by omega)];omega
    repeat' (first|(simp (disch:=first|omega|assumption|exact bd (by with_unfolding_all rfl)|exact Or.inl rfl|exact Or.inl trivial|exact okL_map _ (fun _=>rfl) _|(simp only[VVlen]<;>omega)|fail) only[VV0,VV1,VV2,VV3,VV4,VV5,VV6,VV7,VV8,VV9,mkFnV,vargs,slotsL,opdsA,Nat.reduceEqDiff,Nat.reduceLT,Nat.reduceAdd,Nat.reduceBEq,Int.reduceAdd,Int.reduceSub,Int.reduceLT,Int.reduceLE,Int.reduceEq,Int.reduceNeg,↓reduceIte,reduceCtorEq,scL,scD,expand,List.replicate,c64l0,hb,e1])|apply gC_drawW|((first|apply gI_dec|apply gG_dec|apply gPG_dec|apply gI_var|apply gG_var|apply gPG_var)<;>intro _))
    all_goals try (exfalso;omega)
    refine ⟨_,_,_,by omega,.refl _ _,k+1,u*10+(b - 48),rfl,hlt,by omega,?_,hnx,hstep,?_,rfl⟩
    ·rw[Nat.pow_succ];omega
    ·have:(10:Int)*u+((b - 48:Nat):Int)=((u*10+(b - 48):Nat):Int):=by omega
     rw[this];simp
   ·have e:numF l=(0,false):=numF_not hlt (by
     cases h:isDig l[k]!
     ·exact .inl rfl
     ·exact .inr (by have:¬ k≤8:=fun h8=>hdg ⟨h,h8⟩;omega))
    rw[e]
    simp only[isDig,Bool.and_eq_true,decide_eq_true_eq] at hdg
    generalize l[k]!.toNat=b at hb hdg
    repeat' (first|(simp (disch:=first|omega|assumption|exact bd (by with_unfolding_all rfl)|exact Or.inl rfl|exact Or.inl trivial|exact okL_map _ (fun _=>rfl) _|(simp only[VVlen]<;>omega)|fail) only[VV0,VV1,VV2,VV3,VV4,VV5,VV6,VV7,VV8,VV9,mkFnV,vargs,slotsL,opdsA,Nat.reduceEqDiff,Nat.reduceLT,Nat.reduceAdd,Nat.reduceBEq,Int.reduceAdd,Int.reduceSub,Int.reduceLT,Int.reduceLE,Int.reduceEq,Int.reduceNeg,↓reduceIte,reduceCtorEq,scL,scD,expand,List.replicate,c64l0,hb])|apply gC_drawW|((first|apply gI_dec|apply gG_dec|apply gPG_dec|apply gI_var|apply gG_var|apply gPG_var)<;>intro _))
    all_goals try (exfalso;omega)
    all_goals exact weak_flat rfl h0 rfl
  ·have:k=l.length:=by omega
   subst this
   rw[List.take_length] at hf
   have hall:l.all isDig=true:=List.all_eq_true.2 fun c hc=>by
    obtain ⟨i,hi,rfl⟩:=List.getElem_of_mem hc
    have:=hd i hi
    rw[getElem!_pos l i hi] at this
    exact this
   have e:numF l=((u:Int),decide (l ≠ []) && decide (Lib.decDigits u=l)):=by
    unfold numF
    rw[if_pos ⟨hall,hk9⟩,hf]
    rfl
   rw[e]
   by_cases hz:l= []
   ·subst hz
    have hh:(decide (([]:List UInt8) ≠ []) && decide (Lib.decDigits u= []))=false:=by simp
    rw[hh]
    have hsz0:(ByteArray.mk #[]).size=0:=rfl
    repeat' (first|(simp (disch:=first|omega|assumption|exact bd (by with_unfolding_all rfl)|exact Or.inl rfl|exact Or.inl trivial|exact okL_map _ (fun _=>rfl) _|(simp only[VVlen]<;>omega)|fail) only[VV0,VV1,VV2,VV3,VV4,VV5,VV6,VV7,VV8,VV9,mkFnV,vargs,slotsL,opdsA,Nat.reduceEqDiff,Nat.reduceLT,Nat.reduceAdd,Nat.reduceBEq,Int.reduceAdd,Int.reduceSub,Int.reduceLT,Int.reduceLE,Int.reduceEq,Int.reduceNeg,↓reduceIte,reduceCtorEq,scL,scD,expand,List.replicate,c64l0])|apply gC_drawW|((first|apply gI_dec|apply gG_dec|apply gPG_dec|apply gI_var|apply gG_var|apply gPG_var)<;>intro _))
    all_goals try (exfalso;omega)
    exact weak_flat rfl h0 rfl
   ·have hp:0<l.length:=List.length_pos_iff.2 hz
    have hh:(decide (l ≠ []) && decide (Lib.decDigits u=l))=decide (Lib.decDigits u=l):=by simp[hz]
    rw[hh]
    repeat' (first|(simp (disch:=first|omega|assumption|exact bd (by with_unfolding_all rfl)|exact Or.inl rfl|exact Or.inl trivial|exact okL_map _ (fun _=>rfl) _|(simp only[VVlen]<;>omega)|fail) only[VV0,VV1,VV2,VV3,VV4,VV5,VV6,VV7,VV8,VV9,mkFnV,vargs,slotsL,opdsA,Nat.reduceEqDiff,Nat.reduceLT,Nat.reduceAdd,Nat.reduceBEq,Int.reduceAdd,Int.reduceSub,Int.reduceLT,Int.reduceLE,Int.reduceEq,Int.reduceNeg,↓reduceIte,reduceCtorEq,scL,scD,expand,List.replicate,c64l0])|apply gC_drawW|((first|apply gI_dec|apply gG_dec|apply gPG_dec|apply gI_var|apply gG_var|apply gPG_var)<;>intro _))
    all_goals try (exfalso;omega)
    refine callV_flat ((decimal_p w n u (by omega)).of hC rfl _ rfl) ?_
    repeat' (first|(simp (disch:=first|omega|assumption|exact bd (by with_unfolding_all rfl)|exact Or.inl rfl|exact Or.inl trivial|exact okL_map _ (fun _=>rfl) _|(simp only[VVlen]<;>omega)|fail) only[VV0,VV1,VV2,VV3,VV4,VV5,VV6,VV7,VV8,VV9,mkFnV,vargs,slotsL,opdsA,Nat.reduceEqDiff,Nat.reduceLT,Nat.reduceAdd,Nat.reduceBEq,Int.reduceAdd,Int.reduceSub,Int.reduceLT,Int.reduceLE,Int.reduceEq,Int.reduceNeg,↓reduceIte,reduceCtorEq,scL,scD,expand,List.replicate,mk_inj])|apply gC_drawW|((first|apply gI_dec|apply gG_dec|apply gPG_dec|apply gI_var|apply gG_var|apply gPG_var)<;>intro _))
    exact weak_flat rfl h0 rfl
end
end Go.Proofs.YtepdkmdcainddaaDoor
namespace Go.Proofs.YtepdkmdcainddaaDoor
open Go Go.Itp
set_option maxRecDepth 100000
set_option maxHeartbeats 1000000
set_option linter.unusedSimpArgs false
set_option linter.unusedVariables false
theorem retOK_fin0 {n:Nat} {l:List D}:RetOK [] (.sl 3 n l):=retOK_nil rfl
theorem weak_fin0 {C:Ctx} {st:VSt} {v:V} {s n:Nat} {l:List D} (hs:snapV st.own v=some (.sl s n l)) (hrow:rowsB st.ro st.own (fzS v)=true) (hk:s ≠ 1∨n ≠ 0) (h0:C.w0.nx=0) (hro:st.ro=0):Weak C [(0,v)] st [(0,.sl 3 n l)] ⟨[],0,0⟩:=
 (weak_snap (t:=0) (v:=v) rfl hs hrow).trans ((weak_slot (t:=0) (v:= .sl s n l) (v':= .sl 3 n l) rfl (same_sl3 hk)).trans (weak_to [] 0 h0 hro rfl rfl rfl))
theorem count_words (c:UInt8):∀ (m:Nat) (l:List UInt8),l.length≤m→(words c l).length=Lib.countByte l c+1
 |m,l,hm=>by
  rcases byte_split c l with h|⟨a,r,rfl,h⟩
  ·rw[words_free h]
   unfold Lib.countByte
   rw[List.count_eq_zero_of_not_mem h]
   rfl
  ·rw[words_app r h]
   cases m with
   |zero=>simp at hm
   |succ m=>
    have ih:=count_words c m r (by simp at hm;omega)
    unfold Lib.countByte at ih ⊢
    rw[List.length_cons,ih,List.count_append,List.count_eq_zero_of_not_mem h,List.count_cons_self]
    omega
theorem vslc_hiR (e o k n c:Nat) (j:IntKind) (b:Int) (h0:0≤b) (h1:b≤c) (hc:c<1000000000000) (hc0:c ≠ 0):vslc e none (some (.int j b)) none (.ref o k n c)=some (.ref o k b.toNat c):=by
 have h2:Nat.blt c big=true:=by rw[Nat.blt_eq];unfold big;omega
 have h3:Nat.beq c 0=false:=nbf.2 hc0
 have h4:slcN n c none (some (.int j b)) none=some (0,b.toNat,c,false):=by
  simp only[slcN,knownCap,h2,if_true,bndNat]
  rw[if_pos ⟨h0,h1⟩]
  simp[h3,h2]
 simp only[vslc,h4,Option.map_some]
 simp
def fillS (dn:List (List UInt8)) (N:Nat):List D:=dn.map sD++List.replicate (N - dn.length) (sD [])
theorem fillS_len (dn:List (List UInt8)) (N:Nat) (h:dn.length≤N):(fillS dn N).length=N:=by simp[fillS];omega
theorem fillS_set (dn:List (List UInt8)) (x:List UInt8) (N:Nat) (h:dn.length<N):(fillS dn N).set dn.length (sD x)=fillS (dn++ [x]) N:=by
 unfold fillS
 rw[List.set_append_right _ _ (by simp),List.length_map,Nat.sub_self,show N - dn.length=(N - (dn.length+1))+1 by omega,List.replicate_succ,List.length_append]
 simp
theorem fillS_all (dn:List (List UInt8)) (N:Nat) (h:dn.length=N):fillS dn N=dn.map sD:=by simp[fillS,h]
section
variable (w:World) (n:Nat)
theorem countString_o (st:VSt) (l:List UInt8) (c:UInt8):VSpecO (EN w (n+1)) 88 st [strV l,.sc (.int .u8 c.toNat)] (.sc (.int .i64 (Lib.countByte l c))):=by
 refine prim_o (ys:= [.string ⟨l.toArray⟩,.int .u8 c.toNat]) (fun s=>?_) rfl
 refine orElse_left ?_
 show primA .count 0 [.string ⟨l.toArray⟩,.int .u8 c.toNat] s=_
 unfold primA
 simp only[Int.toNat_natCast]
 have e:c.toNat.toUInt8=c:=by simp
 rw[Lib.foldl_data,Lib.count_foldl,e]
 simp
theorem count_p (l:List UInt8) (c:UInt8) (hl:l.length≤1000000000):VSpec (EN w (n+2)) 72 [strV l,strV [c]] (.sc (.int .i64 (Lib.countByte l c))) ⟨[],0,0⟩:=by
 refine vspec_flat rfl rfl (fun _ _=>rfl) (Nat.le_of_ble_eq_true rfl) (oldVals w) rfl fun C hC h0=>?_
 have h1:(ByteArray.mk [c].toArray).size=1:=rfl
 have hb:idxStrV (strV [c]) (.sc (.int .i64 0))=some (.sc (.int .u8 c.toNat)):=by
  rw[idxStr_l _ _ _ (by omega) (by simp)]
  rfl
 repeat' (first|(simp (disch:=first|omega|assumption|exact bd (by with_unfolding_all rfl)|exact Or.inl rfl|exact Or.inl trivial|exact okL_map _ (fun _=>rfl) _|(simp only[VVlen]<;>omega)|fail) only[VV0,VV1,VV2,VV3,VV4,VV5,VV6,VV7,VV8,VV9,mkFnV,vargs,slotsL,opdsA,Nat.reduceEqDiff,Nat.reduceLT,Nat.reduceAdd,Nat.reduceBEq,Int.reduceAdd,Int.reduceSub,Int.reduceLT,Int.reduceLE,Int.reduceEq,Int.reduceNeg,↓reduceIte,reduceCtorEq,scL,scD,expand,List.replicate,c72,h1,hb])|apply gC_drawW|((first|apply gI_dec|apply gG_dec|apply gPG_dec|apply gI_var|apply gG_var|apply gPG_var)<;>intro _))
 refine callV_flat (by rw[hC];exact countString_o w n _ l c) ?_
 repeat' (first|(simp (disch:=first|omega|assumption|exact bd (by with_unfolding_all rfl)|exact Or.inl rfl|exact Or.inl trivial|exact okL_map _ (fun _=>rfl) _|(simp only[VVlen]<;>omega)|fail) only[VV0,VV1,VV2,VV3,VV4,VV5,VV6,VV7,VV8,VV9,mkFnV,vargs,slotsL,opdsA,Nat.reduceEqDiff,Nat.reduceLT,Nat.reduceAdd,Nat.reduceBEq,Int.reduceAdd,Int.reduceSub,Int.reduceLT,Int.reduceLE,Int.reduceEq,Int.reduceNeg,↓reduceIte,reduceCtorEq,scL,scD,expand,List.replicate])|apply gC_drawW|((first|apply gI_dec|apply gG_dec|apply gPG_dec|apply gI_var|apply gG_var|apply gPG_var)<;>intro _))
 exact weak_flat rfl h0 rfl
theorem gsplit_p (l:List UInt8) (c:UInt8) (hl:l.length≤1000000):VSpec (EN w (n+5)) 60 [strV l,strV [c],.sc (.int .i64 0),.sc (.int .i64 (-1))] (.sl 3 (words c l).length ((words c l).map sD)) ⟨[],0,0⟩:=by
 refine vspec_g rfl rfl (fun _ _=>rfl) (Nat.le_of_ble_eq_true rfl) (oldVals w) retOK_fin0 rfl fun C hC h0=>?_
 have h1:(ByteArray.mk [c].toArray).size=1:=rfl
 have hne:¬ (ByteArray.mk [c].toArray=ByteArray.mk #[]):=fun h=>by
  have:=congrArg (fun b:ByteArray=>b.data.toList) h
  simp at this
 have hsz:=mk_size l
 have hcw:=count_words c l.length l (Nat.le_refl _)
 have hwl:=(Go.Itp.words_len (c:=c) l.length (s:=l) (Nat.le_refl _)).1
 repeat' (first|(simp (disch:=first|omega|assumption|exact bd (by with_unfolding_all rfl)|exact Or.inl rfl|exact Or.inl trivial|exact okL_map _ (fun _=>rfl) _|(simp only[VVlen]<;>omega)|fail) only[VV0,VV1,VV2,VV3,VV4,VV5,VV6,VV7,VV8,VV9,mkFnV,vargs,slotsL,opdsA,Nat.reduceEqDiff,Nat.reduceLT,Nat.reduceAdd,Nat.reduceBEq,Int.reduceAdd,Int.reduceSub,Int.reduceLT,Int.reduceLE,Int.reduceEq,Int.reduceNeg,↓reduceIte,reduceCtorEq,scL,scD,expand,List.replicate,c60,hne])|apply gC_drawW|((first|apply gI_dec|apply gG_dec|apply gPG_dec|apply gI_var|apply gG_var|apply gPG_var)<;>intro _))
 refine callV_flat ((count_p w (n+2) l c (by omega)).of hC rfl _ rfl) ?_
 generalize hN:Lib.countByte l c=N at*
 have hmin:min ((N:Int)+1) (((ByteArray.mk l.toArray).size:Int)+1)=((N+1:Nat):Int):=by rw[hsz];omega
 have hNs:((N+1:Nat):Int) - 1=(N:Int):=by omega
 have hN1:(((N+1:Nat):Int)).toNat=N+1:=by omega
 have hr0:D.sc (Value.string ⟨#[]⟩)::List.replicate N (D.sc (Value.string ⟨#[]⟩))=fillS [] (N+1):=by simp[fillS,sD,List.replicate_succ]
 repeat' (first|(simp (disch:=first|omega|assumption|exact bd (by with_unfolding_all rfl)|exact Or.inl rfl|exact Or.inl trivial|exact okL_map _ (fun _=>rfl) _|(simp only[VVlen]<;>omega)|fail) only[VV0,VV1,VV2,VV3,VV4,VV5,VV6,VV7,VV8,VV9,mkFnV,vargs,slotsL,opdsA,Nat.reduceEqDiff,Nat.reduceLT,Nat.reduceAdd,Nat.reduceBEq,Int.reduceAdd,Int.reduceSub,Int.reduceLT,Int.reduceLE,Int.reduceEq,Int.reduceNeg,↓reduceIte,reduceCtorEq,scL,scD,expand,List.replicate,mmV_min,hmin,hN1,hNs])|apply gC_drawW|((first|apply gI_dec|apply gG_dec|apply gPG_dec|apply gI_var|apply gG_var|apply gPG_var)<;>intro _))
 rw[hr0]
 refine g_while (fun m fr st=>∃ (dn:List (List UInt8)) (r:List UInt8),m=r.length∧r.length≤1000000∧words c l=dn++words c r∧fr= [(0,strV r),(1,strV [c]),(2,.sc (.int .i64 0)),(3,.sc (.int .i64 N)),(9,.ref 0 0 (N+1) (N+1)),(10,.sc (.int .i64 dn.length))]∧st=⟨[(0,.row 9 1 false false (fillS dn (N+1)))],1,0⟩) l.length ?_ ⟨_,_,.refl _ _,[],l,rfl,hl,rfl,?_,rfl⟩ ?_
 ·rw[hC,callP_rounds];unfold many;omega
 ·simp
 rintro m fr st ⟨dn,r,rfl,hrl,hw,rfl,rfl⟩
 have hdl:dn.length+(words c r).length=N+1:=by rw[← hcw,hw,List.length_append]
 have hfl:=fillS_len dn (N+1) (by omega)
 have hfs:=fillS_set dn r (N+1) (by have:=List.length_pos_iff.2 (words_ne c r);omega)
 rcases byte_split c r with hf|⟨x,r',rfl,hf⟩
 ·have hwr:=words_free hf
  rw[hwr] at hw hdl
  have hd:dn.length=N:=by simpa using hdl
  have hcw':(dn++ [r]).length=N+1:=by simp[hd]
  repeat' (first|(simp (disch:=first|omega|assumption|exact bd (by with_unfolding_all rfl)|exact Or.inl rfl|exact Or.inl trivial|exact okL_map _ (fun _=>rfl) _|(simp only[VVlen]<;>omega)|fail) only[VV0,VV1,VV2,VV3,VV4,VV5,VV6,VV7,VV8,VV9,mkFnV,vargs,slotsL,opdsA,Nat.reduceEqDiff,Nat.reduceLT,Nat.reduceAdd,Nat.reduceBEq,Int.reduceAdd,Int.reduceSub,Int.reduceLT,Int.reduceLE,Int.reduceEq,Int.reduceNeg,↓reduceIte,reduceCtorEq,scL,scD,expand,List.replicate,c60l0])|apply gC_drawW|((first|apply gI_dec|apply gG_dec|apply gPG_dec|apply gI_var|apply gG_var|apply gPG_var)<;>intro _))
  all_goals try (exfalso;omega)
  have hv:=vslc_hiR 1 0 0 (N+1) (N+1) .i64 ((dn.length:Int)+1) (by omega) (by omega) (by omega) (by omega)
  have hvN:((dn.length:Int)+1).toNat=N+1:=by omega
  rw[hvN] at hv
  repeat' (first|(simp (disch:=first|omega|assumption|exact bd (by with_unfolding_all rfl)|exact Or.inl rfl|exact Or.inl trivial|exact okL_map _ (fun _=>rfl) _|(simp only[VVlen]<;>omega)|fail) only[VV0,VV1,VV2,VV3,VV4,VV5,VV6,VV7,VV8,VV9,mkFnV,vargs,slotsL,opdsA,Nat.reduceEqDiff,Nat.reduceLT,Nat.reduceAdd,Nat.reduceBEq,Int.reduceAdd,Int.reduceSub,Int.reduceLT,Int.reduceLE,Int.reduceEq,Int.reduceNeg,↓reduceIte,reduceCtorEq,scL,scD,expand,List.replicate,hv])|apply gC_drawW|((first|apply gI_dec|apply gG_dec|apply gPG_dec|apply gI_var|apply gG_var|apply gPG_var)<;>intro _))
  refine weak_fin0 (s:=0) ?_ rfl (.inl (by decide)) h0 rfl
  rw[show D.sc (Value.string ⟨r.toArray⟩)=sD r from rfl,hfs,fillS_all _ _ (by simp;omega),hw,hcw']
  exact snap_refD rfl (by simp[hd])
 ·have hi:=idxB_app r' hf
  have hwr:=words_app r' hf
  have hlen:(x++c::r').length=x.length+r'.length+1:=by simp;omega
  have hwp:=List.length_pos_iff.2 (words_ne c r')
  have hdN:dn.length<N:=by rw[hwr] at hdl;simp at hdl;omega
  have e1:=slcS_hi (x++c::r') .i64 x.length (by omega) (by rw[hlen];omega)
  have e2:=slcS_lo (x++c::r') .i64 ((x.length:Int)+1) (by omega) (by rw[hlen];omega)
  rw[Int.toNat_natCast,List.take_left] at e1
  rw[show ((x.length:Int)+1).toNat=x.length+1 by omega,show (x++c::r').drop (x.length+1)=r' by rw[← List.drop_drop];simp] at e2
  have h1i:((1:Nat):Int)=1:=rfl
  have hfx:=fillS_set dn x (N+1) (by omega)
  repeat' (first|(simp (disch:=first|omega|assumption|exact bd (by with_unfolding_all rfl)|exact Or.inl rfl|exact Or.inl trivial|exact okL_map _ (fun _=>rfl) _|(simp only[VVlen]<;>omega)|fail) only[VV0,VV1,VV2,VV3,VV4,VV5,VV6,VV7,VV8,VV9,mkFnV,vargs,slotsL,opdsA,Nat.reduceEqDiff,Nat.reduceLT,Nat.reduceAdd,Nat.reduceBEq,Int.reduceAdd,Int.reduceSub,Int.reduceLT,Int.reduceLE,Int.reduceEq,Int.reduceNeg,↓reduceIte,reduceCtorEq,scL,scD,expand,List.replicate,c60l0])|apply gC_drawW|((first|apply gI_dec|apply gG_dec|apply gPG_dec|apply gI_var|apply gG_var|apply gPG_var)<;>intro _))
  refine callV_flat ((index_p w n _ c (by omega)).of hC rfl _ rfl) ?_
  rw[hi]
  repeat' (first|(simp (disch:=first|omega|assumption|exact bd (by with_unfolding_all rfl)|exact Or.inl rfl|exact Or.inl trivial|exact okL_map _ (fun _=>rfl) _|(simp only[VVlen]<;>omega)|fail) only[VV0,VV1,VV2,VV3,VV4,VV5,VV6,VV7,VV8,VV9,mkFnV,vargs,slotsL,opdsA,Nat.reduceEqDiff,Nat.reduceLT,Nat.reduceAdd,Nat.reduceBEq,Int.reduceAdd,Int.reduceSub,Int.reduceLT,Int.reduceLE,Int.reduceEq,Int.reduceNeg,↓reduceIte,reduceCtorEq,scL,scD,expand,List.replicate,h1,h1i,e1,e2,Int.add_zero])|apply gC_drawW|((first|apply gI_dec|apply gG_dec|apply gPG_dec|apply gI_var|apply gG_var|apply gPG_var)<;>intro _))
  all_goals try (exfalso;omega)
  refine ⟨_,_,_,?_,.refl _ _,dn++ [x],r',rfl,by omega,?_,?_,?_⟩
  ·rw[hlen];omega
  ·rw[hw,hwr];simp
  ·simp
  ·rw[← hfx];rfl
theorem split_p (l:List UInt8) (c:UInt8) (hl:l.length≤1000000):VSpec (EN w (n+6)) 48 [strV l,strV [c]] (.sl 3 (words c l).length ((words c l).map sD)) ⟨[],0,0⟩:=by
 refine vspec_g rfl rfl (fun _ _=>rfl) (Nat.le_of_ble_eq_true rfl) (oldVals w) retOK_fin0 rfl fun C hC h0=>?_
 repeat' (first|(simp (disch:=first|omega|assumption|exact bd (by with_unfolding_all rfl)|exact Or.inl rfl|exact Or.inl trivial|exact okL_map _ (fun _=>rfl) _|(simp only[VVlen]<;>omega)|fail) only[VV0,VV1,VV2,VV3,VV4,VV5,VV6,VV7,VV8,VV9,mkFnV,vargs,slotsL,opdsA,Nat.reduceEqDiff,Nat.reduceLT,Nat.reduceAdd,Nat.reduceBEq,Int.reduceAdd,Int.reduceSub,Int.reduceLT,Int.reduceLE,Int.reduceEq,Int.reduceNeg,↓reduceIte,reduceCtorEq,scL,scD,expand,List.replicate,c48])|apply gC_drawW|((first|apply gI_dec|apply gG_dec|apply gPG_dec|apply gI_var|apply gG_var|apply gPG_var)<;>intro _))
 refine callV_fin (by rw[hC];exact gsplit_p w n l c hl) rfl rfl (fun _=>rfl) ?_
 repeat' (first|(simp (disch:=first|omega|assumption|exact bd (by with_unfolding_all rfl)|exact Or.inl rfl|exact Or.inl trivial|exact okL_map _ (fun _=>rfl) _|(simp only[VVlen]<;>omega)|fail) only[VV0,VV1,VV2,VV3,VV4,VV5,VV6,VV7,VV8,VV9,mkFnV,vargs,slotsL,opdsA,Nat.reduceEqDiff,Nat.reduceLT,Nat.reduceAdd,Nat.reduceBEq,Int.reduceAdd,Int.reduceSub,Int.reduceLT,Int.reduceLE,Int.reduceEq,Int.reduceNeg,↓reduceIte,reduceCtorEq,scL,scD,expand,List.replicate])|apply gC_drawW|((first|apply gI_dec|apply gG_dec|apply gPG_dec|apply gI_var|apply gG_var|apply gPG_var)<;>intro _))
 exact weak_to [] 0 h0 rfl rfl rfl rfl
def cutSuf (c:UInt8) (l:List UInt8):List UInt8 × Bool:=if l.getLast? =some c then (l.dropLast,true) else (l,false)
theorem hasSuf_p (l:List UInt8) (c:UInt8) (hl:l.length≤1000000):VSpec (EN w (n+1)) 70 [strV l,strV [c]] (.sc (.bool (decide (l.getLast? =some c)))) ⟨[],0,0⟩:=by
 refine vspec_flat rfl rfl (fun _ _=>rfl) (Nat.le_of_ble_eq_true rfl) (oldVals w) rfl fun C hC h0=>?_
 have h1:(ByteArray.mk [c].toArray).size=1:=rfl
 have h1i:((1:Nat):Int)=1:=rfl
 have hsz:=mk_size l
 by_cases hn:l= []
 ·subst hn
  have h2:(ByteArray.mk ([]:List UInt8).toArray).size=0:=rfl
  repeat' (first|(simp (disch:=first|omega|assumption|exact bd (by with_unfolding_all rfl)|exact Or.inl rfl|exact Or.inl trivial|exact okL_map _ (fun _=>rfl) _|(simp only[VVlen]<;>omega)|fail) only[VV0,VV1,VV2,VV3,VV4,VV5,VV6,VV7,VV8,VV9,mkFnV,vargs,slotsL,opdsA,Nat.reduceEqDiff,Nat.reduceLT,Nat.reduceAdd,Nat.reduceBEq,Int.reduceAdd,Int.reduceSub,Int.reduceLT,Int.reduceLE,Int.reduceEq,Int.reduceNeg,↓reduceIte,reduceCtorEq,scL,scD,expand,List.replicate,c70,h1,h1i,h2])|apply gC_drawW|((first|apply gI_dec|apply gG_dec|apply gPG_dec|apply gI_var|apply gG_var|apply gPG_var)<;>intro _))
  all_goals try (exfalso;omega)
  exact weak_flat rfl h0 rfl
 ·obtain ⟨S,b,rfl⟩:∃ S p,l=S++ [p]:=⟨l.dropLast,l.getLast hn,(List.dropLast_concat_getLast hn).symm⟩
  have hsl:(S++ [b]).length=S.length+1:=by simp
  have e2:=slcS_lo (S++ [b]) .i64 (S.length:Int) (by omega) (by rw[hsl];omega)
  rw[Int.toNat_natCast,List.drop_left] at e2
  have e3:(((ByteArray.mk (S++ [b]).toArray).size:Nat):Int) - 1=(S.length:Int):=by rw[hsz,hsl];omega
  have e4:((S++ [b]).getLast? =some c)=([b]= [c]):=by simp
  rw[show decide ((S++ [b]).getLast? =some c)=decide ([b]= [c]) by congr 1]
  repeat' (first|(simp (disch:=first|omega|assumption|exact bd (by with_unfolding_all rfl)|exact Or.inl rfl|exact Or.inl trivial|exact okL_map _ (fun _=>rfl) _|(simp only[VVlen]<;>omega)|fail) only[VV0,VV1,VV2,VV3,VV4,VV5,VV6,VV7,VV8,VV9,mkFnV,vargs,slotsL,opdsA,Nat.reduceEqDiff,Nat.reduceLT,Nat.reduceAdd,Nat.reduceBEq,Int.reduceAdd,Int.reduceSub,Int.reduceLT,Int.reduceLE,Int.reduceEq,Int.reduceNeg,↓reduceIte,reduceCtorEq,scL,scD,expand,List.replicate,c70,h1,h1i,e3,e2,mk_inj])|apply gC_drawW|((first|apply gI_dec|apply gG_dec|apply gPG_dec|apply gI_var|apply gG_var|apply gPG_var)<;>intro _))
  all_goals try (exfalso;omega)
  exact weak_flat rfl h0 rfl
theorem cutSuf0_p (l:List UInt8) (c:UInt8) (hl:l.length≤1000000):VSpec (EN w (n+2)) 59 [strV l,strV [c]] (.tup [strV (cutSuf c l).1,.sc (.bool (cutSuf c l).2)]) ⟨[],0,0⟩:=by
 refine vspec_flat rfl rfl (fun _ _=>rfl) (Nat.le_of_ble_eq_true rfl) (oldVals w) rfl fun C hC h0=>?_
 have h1:(ByteArray.mk [c].toArray).size=1:=rfl
 have h1i:((1:Nat):Int)=1:=rfl
 have hsz:=mk_size l
 have hs:=(hasSuf_p w n l c hl).of hC rfl
 unfold cutSuf
 by_cases hg:l.getLast? =some c
 ·rw[decide_eq_true hg] at hs
  rw[if_pos hg]
  have hn:l ≠ []:=fun e=>by rw[e] at hg;cases hg
  have hp:=List.length_pos_iff.2 hn
  have e2:=slcS_hi l .i64 ((l.length:Int) - 1) (by omega) (by omega)
  rw[show ((l.length:Int) - 1).toNat=l.length - 1 by omega,← List.dropLast_eq_take] at e2
  have e3:(((ByteArray.mk l.toArray).size:Nat):Int) - 1=(l.length:Int) - 1:=by rw[hsz]
  repeat' (first|(simp (disch:=first|omega|assumption|exact bd (by with_unfolding_all rfl)|exact Or.inl rfl|exact Or.inl trivial|exact okL_map _ (fun _=>rfl) _|(simp only[VVlen]<;>omega)|fail) only[VV0,VV1,VV2,VV3,VV4,VV5,VV6,VV7,VV8,VV9,mkFnV,vargs,slotsL,opdsA,Nat.reduceEqDiff,Nat.reduceLT,Nat.reduceAdd,Nat.reduceBEq,Int.reduceAdd,Int.reduceSub,Int.reduceLT,Int.reduceLE,Int.reduceEq,Int.reduceNeg,↓reduceIte,reduceCtorEq,scL,scD,expand,List.replicate,c59])|apply gC_drawW|((first|apply gI_dec|apply gG_dec|apply gPG_dec|apply gI_var|apply gG_var|apply gPG_var)<;>intro _))
  refine callV_flat (hs _ rfl) ?_
  repeat' (first|(simp (disch:=first|omega|assumption|exact bd (by with_unfolding_all rfl)|exact Or.inl rfl|exact Or.inl trivial|exact okL_map _ (fun _=>rfl) _|(simp only[VVlen]<;>omega)|fail) only[VV0,VV1,VV2,VV3,VV4,VV5,VV6,VV7,VV8,VV9,mkFnV,vargs,slotsL,opdsA,Nat.reduceEqDiff,Nat.reduceLT,Nat.reduceAdd,Nat.reduceBEq,Int.reduceAdd,Int.reduceSub,Int.reduceLT,Int.reduceLE,Int.reduceEq,Int.reduceNeg,↓reduceIte,reduceCtorEq,scL,scD,expand,List.replicate,h1,h1i,e3,e2])|apply gC_drawW|((first|apply gI_dec|apply gG_dec|apply gPG_dec|apply gI_var|apply gG_var|apply gPG_var)<;>intro _))
  exact weak_flat rfl h0 rfl
 ·rw[decide_eq_false hg] at hs
  rw[if_neg hg]
  repeat' (first|(simp (disch:=first|omega|assumption|exact bd (by with_unfolding_all rfl)|exact Or.inl rfl|exact Or.inl trivial|exact okL_map _ (fun _=>rfl) _|(simp only[VVlen]<;>omega)|fail) only[VV0,VV1,VV2,VV3,VV4,VV5,VV6,VV7,VV8,VV9,mkFnV,vargs,slotsL,opdsA,Nat.reduceEqDiff,Nat.reduceLT,Nat.reduceAdd,Nat.reduceBEq,Int.reduceAdd,Int.reduceSub,Int.reduceLT,Int.reduceLE,Int.reduceEq,Int.reduceNeg,↓reduceIte,reduceCtorEq,scL,scD,expand,List.replicate,c59])|apply gC_drawW|((first|apply gI_dec|apply gG_dec|apply gPG_dec|apply gI_var|apply gG_var|apply gPG_var)<;>intro _))
  refine callV_flat (hs _ rfl) ?_
  repeat' (first|(simp (disch:=first|omega|assumption|exact bd (by with_unfolding_all rfl)|exact Or.inl rfl|exact Or.inl trivial|exact okL_map _ (fun _=>rfl) _|(simp only[VVlen]<;>omega)|fail) only[VV0,VV1,VV2,VV3,VV4,VV5,VV6,VV7,VV8,VV9,mkFnV,vargs,slotsL,opdsA,Nat.reduceEqDiff,Nat.reduceLT,Nat.reduceAdd,Nat.reduceBEq,Int.reduceAdd,Int.reduceSub,Int.reduceLT,Int.reduceLE,Int.reduceEq,Int.reduceNeg,↓reduceIte,reduceCtorEq,scL,scD,expand,List.replicate])|apply gC_drawW|((first|apply gI_dec|apply gG_dec|apply gPG_dec|apply gI_var|apply gG_var|apply gPG_var)<;>intro _))
  exact weak_flat rfl h0 rfl
theorem cutSuf_p (l:List UInt8) (c:UInt8) (hl:l.length≤1000000):VSpec (EN w (n+3)) 47 [strV l,strV [c]] (.tup [strV (cutSuf c l).1,.sc (.bool (cutSuf c l).2)]) ⟨[],0,0⟩:=by
 refine vspec_flat rfl rfl (fun _ _=>rfl) (Nat.le_of_ble_eq_true rfl) (oldVals w) rfl fun C hC h0=>?_
 repeat' (first|(simp (disch:=first|omega|assumption|exact bd (by with_unfolding_all rfl)|exact Or.inl rfl|exact Or.inl trivial|exact okL_map _ (fun _=>rfl) _|(simp only[VVlen]<;>omega)|fail) only[VV0,VV1,VV2,VV3,VV4,VV5,VV6,VV7,VV8,VV9,mkFnV,vargs,slotsL,opdsA,Nat.reduceEqDiff,Nat.reduceLT,Nat.reduceAdd,Nat.reduceBEq,Int.reduceAdd,Int.reduceSub,Int.reduceLT,Int.reduceLE,Int.reduceEq,Int.reduceNeg,↓reduceIte,reduceCtorEq,scL,scD,expand,List.replicate,c47])|apply gC_drawW|((first|apply gI_dec|apply gG_dec|apply gPG_dec|apply gI_var|apply gG_var|apply gPG_var)<;>intro _))
 refine callV_flat ((cutSuf0_p w n l c hl).of hC rfl _ rfl) ?_
 repeat' (first|(simp (disch:=first|omega|assumption|exact bd (by with_unfolding_all rfl)|exact Or.inl rfl|exact Or.inl trivial|exact okL_map _ (fun _=>rfl) _|(simp only[VVlen]<;>omega)|fail) only[VV0,VV1,VV2,VV3,VV4,VV5,VV6,VV7,VV8,VV9,mkFnV,vargs,slotsL,opdsA,Nat.reduceEqDiff,Nat.reduceLT,Nat.reduceAdd,Nat.reduceBEq,Int.reduceAdd,Int.reduceSub,Int.reduceLT,Int.reduceLE,Int.reduceEq,Int.reduceNeg,↓reduceIte,reduceCtorEq,scL,scD,expand,List.replicate])|apply gC_drawW|((first|apply gI_dec|apply gG_dec|apply gPG_dec|apply gI_var|apply gG_var|apply gPG_var)<;>intro _))
 exact weak_flat rfl h0 rfl
end
end Go.Proofs.YtepdkmdcainddaaDoor
namespace Go.Proofs.YtepdkmdcainddaaDoor
open Go Go.Itp
set_option maxRecDepth 100000
set_option maxHeartbeats 1000000
set_option linter.unusedSimpArgs false
set_option linter.unusedVariables false
theorem get_mid (p x q:List UInt8) (i:Nat) (h:i<x.length):(p++(x++q))[p.length+i]! =x[i]! :=by
 rw[getElem!_pos _ _ (by simp;omega),getElem!_pos x i h,List.getElem_append_right (by omega),List.getElem_append_left (by omega)]
 congr 1
 omega
theorem get_end (p x q:List UInt8) (c:UInt8):(p++(x++c::q))[p.length+x.length]! =c:=by
 rw[getElem!_pos _ _ (by simp),List.getElem_append_right (by omega),List.getElem_append_right (by omega)]
 simp
theorem mem_get {x:List UInt8} {i:Nat} (h:i<x.length):x[i]! ∈ x:=by rw[getElem!_pos x i h];exact List.getElem_mem h
theorem toNat_ne {b c:UInt8} {k:Nat} (hc:c.toNat=k) (h:b ≠ c):¬ ((b.toNat:Nat):Int)=(k:Int):=fun e=>h (UInt8.toNat_inj.1 (by omega))
def rowV:Option (List Bool)→V
 |some R=> .tup [.sl 3 R.length (R.map bD),.sc (.bool true)]
 |none=> .tup [.sl 3 0 [],.sc (.bool false)]
def StandR (n:Nat) (s:List UInt8) (R:List Bool) (last k:Nat):Prop:=
 (∃ p r,s=p++r∧k=p.length∧rowsLoop n (words 32 s) 0 (List.replicate n false)=rowsLoop n (words 32 r) last R)∨(k=s.length+1∧rowsLoop n (words 32 s) 0 (List.replicate n false)=some R)
section
variable (w:World) (n:Nat)
theorem scanR {C:Ctx} (hC:C.E.rounds=many) {s p x q:List UInt8} (hs:s=p++(x++q)) (hl:s.length≤1000000) (hx:32 ∉ x) (hq:q= []∨∃ q',q=32::q') {K:List KF} {P:VPost} {st:VSt} (a b d:V)
  (h:gK C K (.exit 2) [(0,strV s),(1,a),(6,b),(7,d),(8,.sc (.int .i64 p.length)),(9,.sc (.int .i64 ((p.length+x.length:Nat):Int))),(31,.sc (.bool false))] st P):
  gL C [0,1,6,7,8,9] c51l0 K [(0,strV s),(1,a),(6,b),(7,d),(8,.sc (.int .i64 p.length)),(9,.sc (.int .i64 p.length))] st P:=by
 have hsz:=mk_size s
 have hlen:s.length=p.length+x.length+q.length:=by rw[hs];simp;omega
 refine g_while (fun m fr st'=>∃ j:Nat,m=x.length - j∧j≤x.length∧fr= [(0,strV s),(1,a),(6,b),(7,d),(8,.sc (.int .i64 p.length)),(9,.sc (.int .i64 ((p.length+j:Nat):Int)))]∧st'=st) x.length ?_ ⟨_,_,.refl _ _,0,?_⟩ ?_
 ·rw[hC];unfold many;omega
 ·exact ⟨by omega,by omega,by simp,rfl⟩
 ·rintro m fr st' ⟨j,rfl,hj,rfl,rfl⟩
  by_cases hlt:j<x.length
  ·have hb:=idxStr_l s .i64 ((p.length+j:Nat):Int) (by omega) (by omega)
   rw[Int.toNat_natCast,hs,get_mid p x q j hlt,← hs] at hb
   have hne:¬ ((x[j]!.toNat:Nat):Int)=32:=toNat_ne (c:=32) rfl fun e=>hx (by rw[← e];exact mem_get hlt)
   generalize x[j]!.toNat=y at hb hne
   repeat' (first|(simp (disch:=first|omega|assumption|exact bd (by with_unfolding_all rfl)|exact Or.inl rfl|exact Or.inl trivial|exact okL_map _ (fun _=>rfl) _|(simp only[VVlen]<;>omega)|fail) only[VV0,VV1,VV2,VV3,VV4,VV5,VV6,VV7,VV8,VV9,mkFnV,vargs,slotsL,opdsA,Nat.reduceEqDiff,Nat.reduceLT,Nat.reduceAdd,Nat.reduceBEq,Int.reduceAdd,Int.reduceSub,Int.reduceLT,Int.reduceLE,Int.reduceEq,Int.reduceNeg,↓reduceIte,reduceCtorEq,scL,scD,expand,List.replicate,c51l0,hb])|apply gC_drawW|((first|apply gI_dec|apply gG_dec|apply gPG_dec|apply gI_var|apply gG_var|apply gPG_var)<;>intro _))
   all_goals try (exfalso;omega)
   exact ⟨_,_,_,by omega,.refl _ _,j+1,rfl,hlt,by simp[Int.add_assoc],rfl⟩
  ·have:j=x.length:=by omega
   subst this
   rcases hq with rfl|⟨q',rfl⟩
   ·have hq0:([]:List UInt8).length=0:=rfl
    repeat' (first|(simp (disch:=first|omega|assumption|exact bd (by with_unfolding_all rfl)|exact Or.inl rfl|exact Or.inl trivial|exact okL_map _ (fun _=>rfl) _|(simp only[VVlen]<;>omega)|fail) only[VV0,VV1,VV2,VV3,VV4,VV5,VV6,VV7,VV8,VV9,mkFnV,vargs,slotsL,opdsA,Nat.reduceEqDiff,Nat.reduceLT,Nat.reduceAdd,Nat.reduceBEq,Int.reduceAdd,Int.reduceSub,Int.reduceLT,Int.reduceLE,Int.reduceEq,Int.reduceNeg,↓reduceIte,reduceCtorEq,scL,scD,expand,List.replicate,c51l0])|apply gC_drawW|((first|apply gI_dec|apply gG_dec|apply gPG_dec|apply gI_var|apply gG_var|apply gPG_var)<;>intro _))
    all_goals try (exfalso;omega)
    exact h
   ·have hb:=idxStr_l s .i64 ((p.length+x.length:Nat):Int) (by omega) (by rw[hlen];simp;omega)
    rw[Int.toNat_natCast,hs,get_end p x q' 32,← hs] at hb
    have hq0:(32::q').length=q'.length+1:=rfl
    have h32:(((32:UInt8).toNat:Nat):Int)=32:=rfl
    rw[h32] at hb
    repeat' (first|(simp (disch:=first|omega|assumption|exact bd (by with_unfolding_all rfl)|exact Or.inl rfl|exact Or.inl trivial|exact okL_map _ (fun _=>rfl) _|(simp only[VVlen]<;>omega)|fail) only[VV0,VV1,VV2,VV3,VV4,VV5,VV6,VV7,VV8,VV9,mkFnV,vargs,slotsL,opdsA,Nat.reduceEqDiff,Nat.reduceLT,Nat.reduceAdd,Nat.reduceBEq,Int.reduceAdd,Int.reduceSub,Int.reduceLT,Int.reduceLE,Int.reduceEq,Int.reduceNeg,↓reduceIte,reduceCtorEq,scL,scD,expand,List.replicate,c51l0,hb])|apply gC_drawW|((first|apply gI_dec|apply gG_dec|apply gPG_dec|apply gI_var|apply gG_var|apply gPG_var)<;>intro _))
    all_goals try (exfalso;omega)
    exact h
theorem row_p (s:List UInt8) (N:Nat) (hl:s.length≤100000) (hN:N≤40):VSpec (EN w (n+3)) 51 [strV s,.sc (.int .i64 N)] (rowV (rowF N s)) ⟨[],0,0⟩:=by
 have hret:RetOK [] (rowV (rowF N s)):=by
  cases rowF N s with
  |none=>exact retOK_fin
  |some R=>exact retOK_fin
 refine vspec_g rfl rfl (fun _ _=>rfl) (Nat.le_of_ble_eq_true rfl) (oldVals w) hret rfl fun C hC h0=>?_
 have hsz:=mk_size s
 have hrn:C.E.rounds=many:=by rw[hC,callP_rounds]
 have hr0:List.replicate N (D.sc (Value.bool false))=(List.replicate N false).map bD:=by simp[bD]
 by_cases hd:s= [45]
 ·subst hd
  have e:rowF N [45]=some (List.replicate N false):=if_pos rfl
  rw[e]
  repeat' (first|(simp (disch:=first|omega|assumption|exact bd (by with_unfolding_all rfl)|exact Or.inl rfl|exact Or.inl trivial|exact okL_map _ (fun _=>rfl) _|(simp only[VVlen]<;>omega)|fail) only[VV0,VV1,VV2,VV3,VV4,VV5,VV6,VV7,VV8,VV9,mkFnV,vargs,slotsL,opdsA,Nat.reduceEqDiff,Nat.reduceLT,Nat.reduceAdd,Nat.reduceBEq,Int.reduceAdd,Int.reduceSub,Int.reduceLT,Int.reduceLE,Int.reduceEq,Int.reduceNeg,↓reduceIte,reduceCtorEq,scL,scD,expand,List.replicate,c51])|apply gC_drawW|((first|apply gI_dec|apply gG_dec|apply gPG_dec|apply gI_var|apply gG_var|apply gPG_var)<;>intro _))
  rw[hr0]
  refine weak_fin (s:=0) (n:=_) (l:=_) ?_ rfl (.inl (by decide)) h0 rfl
  rw[List.length_replicate]
  exact snap_refD rfl (by simp)
 have hd':¬ (ByteArray.mk s.toArray=ByteArray.mk #[45]):=fun h=>hd (by
  have:=congrArg (fun b:ByteArray=>b.data.toList) h
  simpa using this)
 have e:rowF N s=rowsLoop N (words 32 s) 0 (List.replicate N false):=if_neg hd
 rw[e]
 repeat' (first|(simp (disch:=first|omega|assumption|exact bd (by with_unfolding_all rfl)|exact Or.inl rfl|exact Or.inl trivial|exact okL_map _ (fun _=>rfl) _|(simp only[VVlen]<;>omega)|fail) only[VV0,VV1,VV2,VV3,VV4,VV5,VV6,VV7,VV8,VV9,mkFnV,vargs,slotsL,opdsA,Nat.reduceEqDiff,Nat.reduceLT,Nat.reduceAdd,Nat.reduceBEq,Int.reduceAdd,Int.reduceSub,Int.reduceLT,Int.reduceLE,Int.reduceEq,Int.reduceNeg,↓reduceIte,reduceCtorEq,scL,scD,expand,List.replicate,c51,hd'])|apply gC_drawW|((first|apply gI_dec|apply gG_dec|apply gPG_dec|apply gI_var|apply gG_var|apply gPG_var)<;>intro _))
 rw[hr0]
 refine g_while (fun m fr st=>∃ (R:List Bool) (last k:Nat),m=s.length+1 - k∧k≤s.length+1∧R.length=N∧last≤N∧StandR N s R last k∧fr= [(0,strV s),(1,.sc (.int .i64 N)),(6,.ref 0 0 N N),(7,.sc (.int .i64 last)),(8,.sc (.int .i64 k))]∧st=⟨[(0,.row 4 1 false false (R.map bD))],1,0⟩) (s.length+1) ?_ ⟨_,_,.refl _ _,List.replicate N false,0,0,by omega,by omega,by simp,by omega,.inl ⟨[],s,rfl,rfl,rfl⟩,rfl,rfl⟩ ?_
 ·rw[hrn];unfold many;omega
 rintro m fr st ⟨R,last,k,rfl,hk,hR,hla,hst,rfl,rfl⟩
 rcases hst with ⟨p,r,hs,rfl,hloop⟩|⟨rfl,hloop⟩
 case inr=>
  rw[hloop]
  repeat' (first|(simp (disch:=first|omega|assumption|exact bd (by with_unfolding_all rfl)|exact Or.inl rfl|exact Or.inl trivial|exact okL_map _ (fun _=>rfl) _|(simp only[VVlen]<;>omega)|fail) only[VV0,VV1,VV2,VV3,VV4,VV5,VV6,VV7,VV8,VV9,mkFnV,vargs,slotsL,opdsA,Nat.reduceEqDiff,Nat.reduceLT,Nat.reduceAdd,Nat.reduceBEq,Int.reduceAdd,Int.reduceSub,Int.reduceLT,Int.reduceLE,Int.reduceEq,Int.reduceNeg,↓reduceIte,reduceCtorEq,scL,scD,expand,List.replicate,c51l1])|apply gC_drawW|((first|apply gI_dec|apply gG_dec|apply gPG_dec|apply gI_var|apply gG_var|apply gPG_var)<;>intro _))
  all_goals try (exfalso;omega)
  refine weak_fin (s:=0) (n:=_) (l:=_) ?_ rfl (.inl (by decide)) h0 rfl
  rw[hR]
  exact snap_refD rfl (by rw[List.length_map,hR])
 have hpl:s.length=p.length+r.length:=by rw[hs];simp
 obtain ⟨x,q,rfl,hx,hq,hwr⟩:∃ x q,r=x++q∧32 ∉ x∧(q= []∨∃ q',q=32::q')∧words 32 r=x::(match q with| []=> []|_::q'=>words 32 q'):=by
  rcases byte_split 32 r with hf|⟨x,r',rfl,hf⟩
  ·exact ⟨r,[],by simp,hf,.inl rfl,words_free hf⟩
  ·exact ⟨x,32::r',rfl,hf,.inr ⟨r',rfl⟩,words_app r' hf⟩
 rw[hwr] at hloop
 have hxl:(x++q).length=x.length+q.length:=by simp
 have e1:=slcS_both s .i64 .i64 (p.length:Int) ((p.length+x.length:Nat):Int) (by omega) (by omega) (by omega)
 have e2:List.take (p.length+x.length - p.length) (List.drop p.length s)=x:=by
  rw[hs,List.drop_left,Nat.add_sub_cancel_left,List.take_left]
 simp only[Int.toNat_natCast] at e1
 rw[e2] at e1
 have hnum:=(number_p w (n) x (by omega)).of hC rfl
 rw[rowsLoop] at hloop
 generalize hz:numF x=zb at*
 obtain ⟨z,b⟩:=zb
 by_cases hb:b=true
 case neg=>
  have hb:=Bool.eq_false_iff.2 hb
  subst hb
  rw[if_neg (fun h=>by cases h.1)] at hloop
  rw[hloop]
  repeat' (first|(simp (disch:=first|omega|assumption|exact bd (by with_unfolding_all rfl)|exact Or.inl rfl|exact Or.inl trivial|exact okL_map _ (fun _=>rfl) _|(simp only[VVlen]<;>omega)|fail) only[VV0,VV1,VV2,VV3,VV4,VV5,VV6,VV7,VV8,VV9,mkFnV,vargs,slotsL,opdsA,Nat.reduceEqDiff,Nat.reduceLT,Nat.reduceAdd,Nat.reduceBEq,Int.reduceAdd,Int.reduceSub,Int.reduceLT,Int.reduceLE,Int.reduceEq,Int.reduceNeg,↓reduceIte,reduceCtorEq,scL,scD,expand,List.replicate,c51l1])|apply gC_drawW|((first|apply gI_dec|apply gG_dec|apply gPG_dec|apply gI_var|apply gG_var|apply gPG_var)<;>intro _))
  all_goals try (exfalso;omega)
  refine scanR hrn hs (by omega) hx hq _ _ _ ?_
  repeat' (first|(simp (disch:=first|omega|assumption|exact bd (by with_unfolding_all rfl)|exact Or.inl rfl|exact Or.inl trivial|exact okL_map _ (fun _=>rfl) _|(simp only[VVlen]<;>omega)|fail) only[VV0,VV1,VV2,VV3,VV4,VV5,VV6,VV7,VV8,VV9,mkFnV,vargs,slotsL,opdsA,Nat.reduceEqDiff,Nat.reduceLT,Nat.reduceAdd,Nat.reduceBEq,Int.reduceAdd,Int.reduceSub,Int.reduceLT,Int.reduceLE,Int.reduceEq,Int.reduceNeg,↓reduceIte,reduceCtorEq,scL,scD,expand,List.replicate,e1])|apply gC_drawW|((first|apply gI_dec|apply gG_dec|apply gPG_dec|apply gI_var|apply gG_var|apply gPG_var)<;>intro _))
  refine callV_flat (hnum _ rfl) ?_
  repeat' (first|(simp (disch:=first|omega|assumption|exact bd (by with_unfolding_all rfl)|exact Or.inl rfl|exact Or.inl trivial|exact okL_map _ (fun _=>rfl) _|(simp only[VVlen]<;>omega)|fail) only[VV0,VV1,VV2,VV3,VV4,VV5,VV6,VV7,VV8,VV9,mkFnV,vargs,slotsL,opdsA,Nat.reduceEqDiff,Nat.reduceLT,Nat.reduceAdd,Nat.reduceBEq,Int.reduceAdd,Int.reduceSub,Int.reduceLT,Int.reduceLE,Int.reduceEq,Int.reduceNeg,↓reduceIte,reduceCtorEq,scL,scD,expand,List.replicate])|apply gC_drawW|((first|apply gI_dec|apply gG_dec|apply gPG_dec|apply gI_var|apply gG_var|apply gPG_var)<;>intro _))
  all_goals try (exfalso;omega)
  exact weak_finNil h0 rfl
 subst hb
 obtain ⟨z1,z2,_⟩:=numF_some hz
 by_cases hc:(last:Int)<z∧z≤(N:Int)
 case neg=>
  rw[if_neg (fun h=>hc ⟨h.2.1,h.2.2⟩)] at hloop
  rw[hloop]
  repeat' (first|(simp (disch:=first|omega|assumption|exact bd (by with_unfolding_all rfl)|exact Or.inl rfl|exact Or.inl trivial|exact okL_map _ (fun _=>rfl) _|(simp only[VVlen]<;>omega)|fail) only[VV0,VV1,VV2,VV3,VV4,VV5,VV6,VV7,VV8,VV9,mkFnV,vargs,slotsL,opdsA,Nat.reduceEqDiff,Nat.reduceLT,Nat.reduceAdd,Nat.reduceBEq,Int.reduceAdd,Int.reduceSub,Int.reduceLT,Int.reduceLE,Int.reduceEq,Int.reduceNeg,↓reduceIte,reduceCtorEq,scL,scD,expand,List.replicate,c51l1])|apply gC_drawW|((first|apply gI_dec|apply gG_dec|apply gPG_dec|apply gI_var|apply gG_var|apply gPG_var)<;>intro _))
  all_goals try (exfalso;omega)
  refine scanR hrn hs (by omega) hx hq _ _ _ ?_
  repeat' (first|(simp (disch:=first|omega|assumption|exact bd (by with_unfolding_all rfl)|exact Or.inl rfl|exact Or.inl trivial|exact okL_map _ (fun _=>rfl) _|(simp only[VVlen]<;>omega)|fail) only[VV0,VV1,VV2,VV3,VV4,VV5,VV6,VV7,VV8,VV9,mkFnV,vargs,slotsL,opdsA,Nat.reduceEqDiff,Nat.reduceLT,Nat.reduceAdd,Nat.reduceBEq,Int.reduceAdd,Int.reduceSub,Int.reduceLT,Int.reduceLE,Int.reduceEq,Int.reduceNeg,↓reduceIte,reduceCtorEq,scL,scD,expand,List.replicate,e1])|apply gC_drawW|((first|apply gI_dec|apply gG_dec|apply gPG_dec|apply gI_var|apply gG_var|apply gPG_var)<;>intro _))
  refine callV_flat (hnum _ rfl) ?_
  repeat' (first|(simp (disch:=first|omega|assumption|exact bd (by with_unfolding_all rfl)|exact Or.inl rfl|exact Or.inl trivial|exact okL_map _ (fun _=>rfl) _|(simp only[VVlen]<;>omega)|fail) only[VV0,VV1,VV2,VV3,VV4,VV5,VV6,VV7,VV8,VV9,mkFnV,vargs,slotsL,opdsA,Nat.reduceEqDiff,Nat.reduceLT,Nat.reduceAdd,Nat.reduceBEq,Int.reduceAdd,Int.reduceSub,Int.reduceLT,Int.reduceLE,Int.reduceEq,Int.reduceNeg,↓reduceIte,reduceCtorEq,scL,scD,expand,List.replicate])|apply gC_drawW|((first|apply gI_dec|apply gG_dec|apply gPG_dec|apply gI_var|apply gG_var|apply gPG_var)<;>intro _))
  all_goals try (exfalso;omega)
  all_goals exact weak_finNil h0 rfl
 rw[if_pos ⟨rfl,hc.1,hc.2⟩] at hloop
 obtain ⟨c1,c2⟩:=hc
 have hRm:(R.map bD).length=N:=by rw[List.length_map,hR]
 have hzn:(z - 1).toNat=z.toNat - 1:=by omega
 repeat' (first|(simp (disch:=first|omega|assumption|exact bd (by with_unfolding_all rfl)|exact Or.inl rfl|exact Or.inl trivial|exact okL_map _ (fun _=>rfl) _|(simp only[VVlen]<;>omega)|fail) only[VV0,VV1,VV2,VV3,VV4,VV5,VV6,VV7,VV8,VV9,mkFnV,vargs,slotsL,opdsA,Nat.reduceEqDiff,Nat.reduceLT,Nat.reduceAdd,Nat.reduceBEq,Int.reduceAdd,Int.reduceSub,Int.reduceLT,Int.reduceLE,Int.reduceEq,Int.reduceNeg,↓reduceIte,reduceCtorEq,scL,scD,expand,List.replicate,c51l1])|apply gC_drawW|((first|apply gI_dec|apply gG_dec|apply gPG_dec|apply gI_var|apply gG_var|apply gPG_var)<;>intro _))
 all_goals try (exfalso;omega)
 refine scanR hrn hs (by omega) hx hq _ _ _ ?_
 repeat' (first|(simp (disch:=first|omega|assumption|exact bd (by with_unfolding_all rfl)|exact Or.inl rfl|exact Or.inl trivial|exact okL_map _ (fun _=>rfl) _|(simp only[VVlen]<;>omega)|fail) only[VV0,VV1,VV2,VV3,VV4,VV5,VV6,VV7,VV8,VV9,mkFnV,vargs,slotsL,opdsA,Nat.reduceEqDiff,Nat.reduceLT,Nat.reduceAdd,Nat.reduceBEq,Int.reduceAdd,Int.reduceSub,Int.reduceLT,Int.reduceLE,Int.reduceEq,Int.reduceNeg,↓reduceIte,reduceCtorEq,scL,scD,expand,List.replicate,e1])|apply gC_drawW|((first|apply gI_dec|apply gG_dec|apply gPG_dec|apply gI_var|apply gG_var|apply gPG_var)<;>intro _))
 refine callV_flat (hnum _ rfl) ?_
 repeat' (first|(simp (disch:=first|omega|assumption|exact bd (by with_unfolding_all rfl)|exact Or.inl rfl|exact Or.inl trivial|exact okL_map _ (fun _=>rfl) _|(simp only[VVlen]<;>omega)|fail) only[VV0,VV1,VV2,VV3,VV4,VV5,VV6,VV7,VV8,VV9,mkFnV,vargs,slotsL,opdsA,Nat.reduceEqDiff,Nat.reduceLT,Nat.reduceAdd,Nat.reduceBEq,Int.reduceAdd,Int.reduceSub,Int.reduceLT,Int.reduceLE,Int.reduceEq,Int.reduceNeg,↓reduceIte,reduceCtorEq,scL,scD,expand,List.replicate])|apply gC_drawW|((first|apply gI_dec|apply gG_dec|apply gPG_dec|apply gI_var|apply gG_var|apply gPG_var)<;>intro _))
 all_goals try (exfalso;omega)
 refine ⟨_,_,_,?_,.refl _ _,R.set (z.toNat - 1) true,z.toNat,p.length+x.length+1,rfl,by omega,by rw[List.length_set];exact hR,by omega,?_,?_,?_⟩
 ·omega
 ·rcases hq with rfl|⟨q',rfl⟩
  ·refine .inr ⟨by rw[hs];simp,?_⟩
   rw[hloop]
   rfl
  ·refine .inl ⟨p++(x++ [32]),q',?_,?_,hloop⟩
   ·rw[hs];simp
   ·simp;omega
 ·rw[show ((z.toNat:Nat):Int)=z by omega];rfl
 ·rw[List.map_set,hzn];rfl
end
end Go.Proofs.YtepdkmdcainddaaDoor
