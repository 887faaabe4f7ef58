/- Part of the proof of Rows.PegLiftsCardSaid: for every input the law returns true, with no condition.
   Texts: C18VA, S18D, H18V, VT, VT2, VT3, VT4, VT5, VT6, W18p, W18a, W18b, W18c, W18d, W18e, W18f, W18g, W18h.
-/
import Derived.Test.YtepdkmdcainddaaDoorPart4
import Derived.Test.YtepdkmdcainddaaDoorProg
import Derived.Shelf.Strings.Builder1
import Derived.Shelf.Strings.Builder2
import Derived.Shelf.Strings.OnBuilder
import Derived.Shelf.Small.Wraps
import Derived.Shelf.Strings.BuilderF
import Derived.Shelf.Strings.BuilderK
import Derived.Shelf.Utf8.RuneCount
import Derived.Shelf.Strings.Builder2Cap
import Derived.Shelf.Strconv.Atoi
import Derived.Shelf.Strconv.Itoa0
import Derived.Shelf.Strconv.Itoa1
import Derived.Shelf.LaysM
import Derived.Shelf.Strconv.Itoa2
import Derived.Shelf.Strconv.Itoa3
import Derived.Shelf.Strconv.AtoiErrFast
import Derived.Shelf.Strconv.ParseIntEmpty
import Derived.Shelf.Strconv.AtoiFail
import Derived.Shelf.Strconv.Clone
import Derived.Shelf.Strconv.SyntaxError
import Derived.Shelf.LaysC
import Derived.Shelf.Strconv.ToError
import Derived.Shelf.Strconv.AtoiErr
import Derived.Shelf.Strconv.Lower
import Derived.Shelf.Strconv.ParseUint10
import Derived.Shelf.Strconv.ParseUint10Empty
import Derived.Shelf.Strconv.ParseUint10Any
import Derived.Shelf.Strconv.ParseInt10
import Derived.Shelf.Strconv.AtoiLong
import Derived.Shelf.Strconv.AtoiInnerAll
import Derived.Shelf.Strconv.RangeError
import Derived.Shelf.Strconv.ToErrorRange
import Derived.Shelf.Strconv.AtoiAll
import Derived.Shelf.Strconv.ErrVarAll
import Derived.Shelf.Strconv.ParseUintEmpty
import Derived.Shelf.Strconv.ParseUint10b64
import Derived.Shelf.Strconv.ParseUint10b32
import Derived.Shelf.Strconv.ParseUint10b16
import Derived.Shelf.Strconv.ParseUint10b8
import Derived.Shelf.Strconv.ParseUint10At
import Derived.Shelf.Strings.Search1
import Derived.Shelf.Strings.Search2
import Derived.Shelf.Strings.Search3
import Derived.Shelf.Strings.Count
import Derived.Shelf.Strings.Shaped
import Derived.Shelf.Strings.Prefix
import Derived.Shelf.Strings.Split
import Derived.Shelf.Strings.SplitShaped
import Derived.Shelf.Unicode.Decode
import Derived.Shelf.Strings.RuneCount
import Derived.Shelf.Strings.Explode
import Derived.Shelf.Unicode.DecodeSlow
import Derived.Shelf.Unicode.DecodeAny
import Derived.Shelf.Strings.BuilderCap
import Derived.KernelRfl
import Derived.Lib.ItoaLen
import Derived.Lib.Join
import Derived.Test.YtepdkmdcainddaaDoorCards
import Derived.Test.YtepdkmdcainddaaDoorTie
import Derived.SizedLaws
import Derived.ChangeAt
import Derived.SevenTiedAt
import Derived.Stop.Joined
import Derived.Lay
/- The seat's functions as the interpreter runs them: written by a program out of the loaded form, and shown equal to it below. -/
namespace Go.Proofs.YtepdkmdcainddaaDoor
open Go Go.Itp
set_option maxRecDepth 100000
/- raddle/raddlelaw18.PegLifts -/
def c3 : AFun := ⟨
  .seq (.ops [⟨(some 1), none, .box 24 (.tmp 0)⟩,
      ⟨(some 2), none, .mov (.const (.bool false))⟩] [1])
  (.seq (.seq (.ops [⟨(some 12), none, .load (some 3) (.tmp 1)⟩,
      ⟨(some 13), none, .callF 9 [(.tmp 12)]⟩] [1, 13])
  (.cond (.tmp 13)
    (.seq (.ops [⟨(some 2), none, .mov (.const (.bool true))⟩] [2])
    (.ret))
    (.skip)))
  (.seq (.ops [⟨(some 14), none, .load (some 3) (.tmp 1)⟩,
      ⟨(some 15), none, .callF 10 [(.tmp 14)]⟩,
      ⟨(some 3), none, .alloc 24 [(2, (.int .i64 0)), (1, (.slice none 0 0))]⟩,
      ⟨none, none, .store 3 (.tmp 3) (.tmp 15)⟩] [1, 3])
  (.seq (.ops [⟨(some 17), none, .load (some 3) (.tmp 3)⟩,
      ⟨(some 18), none, .callF 11 [(.tmp 17)]⟩,
      ⟨(some 16), none, .mov (.tmp 18)⟩,
      ⟨(some 19), none, .ext (.tmp 16) 0⟩,
      ⟨(some 20), none, .ext (.tmp 16) 1⟩,
      ⟨(some 4), none, .mov (.tmp 19)⟩,
      ⟨(some 5), none, .mov (.tmp 20)⟩] [1, 3, 4, 5])
  (.seq (.ops [⟨(some 22), none, .load (some 3) (.tmp 1)⟩,
      ⟨(some 23), none, .callF 12 [(.tmp 22)]⟩,
      ⟨(some 21), none, .mov (.tmp 23)⟩,
      ⟨(some 24), none, .ext (.tmp 21) 0⟩,
      ⟨(some 25), none, .ext (.tmp 21) 1⟩,
      ⟨(some 6), none, .mov (.tmp 24)⟩,
      ⟨(some 7), none, .mov (.tmp 25)⟩] [1, 3, 4, 5, 6, 7])
  (.seq (.ops [⟨(some 27), none, .load (some 3) (.tmp 3)⟩,
      ⟨(some 28), none, .callF 13 [(.tmp 27)]⟩,
      ⟨(some 26), none, .mov (.tmp 28)⟩,
      ⟨(some 29), none, .ext (.tmp 26) 0⟩,
      ⟨(some 30), none, .ext (.tmp 26) 1⟩,
      ⟨(some 8), none, .alloc 34 [(1, (.int .i64 0)), (1, (.slice none 0 0))]⟩,
      ⟨none, none, .store 2 (.tmp 8) (.tmp 29)⟩,
      ⟨(some 9), none, .mov (.tmp 30)⟩] [1, 3, 4, 5, 6, 7, 8, 9])
  (.seq (.ops [⟨(some 32), none, .load (some 3) (.tmp 1)⟩,
      ⟨(some 33), none, .callF 14 [(.tmp 32)]⟩,
      ⟨(some 31), none, .mov (.tmp 33)⟩,
      ⟨(some 34), none, .ext (.tmp 31) 0⟩,
      ⟨(some 35), none, .ext (.tmp 31) 1⟩,
      ⟨(some 10), none, .alloc 34 [(1, (.int .i64 0)), (1, (.slice none 0 0))]⟩,
      ⟨none, none, .store 2 (.tmp 10) (.tmp 34)⟩,
      ⟨(some 11), none, .mov (.tmp 35)⟩] [1, 3, 4, 5, 6, 7, 8, 9, 10, 11])
  (.seq (.draw [⟨(some 36), none, .load (some 3) (.tmp 3)⟩,
      ⟨(some 37), none, .callF 15 [(.tmp 36)]⟩,
      ⟨(some 38), none, .load (some 3) (.tmp 1)⟩,
      ⟨(some 39), none, .callF 16 [(.tmp 38)]⟩,
      ⟨(some 40), none, .bin .eql (.tmp 37) (.tmp 39)⟩,
      ⟨(some 41), none, .mov (.tmp 40)⟩,
      ⟨(some 42), (some (41, true)), .mov (.tmp 4)⟩,
      ⟨(some 43), (some (41, true)), .mov (.tmp 6)⟩,
      ⟨(some 44), (some (41, true)), .bin .eql (.tmp 42) (.tmp 43)⟩,
      ⟨(some 45), none, .pick (.tmp 41) (.tmp 44) (.const (.bool false))⟩,
      ⟨(some 46), none, .mov (.tmp 45)⟩,
      ⟨(some 47), (some (46, true)), .mov (.tmp 5)⟩,
      ⟨(some 48), (some (46, true)), .mov (.tmp 7)⟩,
      ⟨(some 49), (some (46, true)), .bin .eql (.tmp 47) (.tmp 48)⟩,
      ⟨(some 50), none, .pick (.tmp 46) (.tmp 49) (.const (.bool false))⟩,
      ⟨(some 51), none, .mov (.tmp 50)⟩,
      ⟨(some 52), (some (51, true)), .load (some 2) (.tmp 8)⟩,
      ⟨(some 53), (some (51, true)), .load (some 2) (.tmp 10)⟩,
      ⟨(some 54), (some (51, true)), .callF 17 [(.tmp 52), (.tmp 53)]⟩,
      ⟨(some 55), none, .pick (.tmp 51) (.tmp 54) (.const (.bool false))⟩,
      ⟨(some 56), none, .mov (.tmp 55)⟩,
      ⟨(some 57), (some (56, true)), .mov (.tmp 9)⟩,
      ⟨(some 58), (some (56, true)), .mov (.tmp 11)⟩,
      ⟨(some 59), (some (56, true)), .bin .eql (.tmp 57) (.tmp 58)⟩,
      ⟨(some 60), none, .pick (.tmp 56) (.tmp 59) (.const (.bool false))⟩,
      ⟨(some 61), none, .mov (.tmp 60)⟩,
      ⟨(some 62), (some (61, true)), .load (some 3) (.tmp 3)⟩,
      ⟨(some 63), (some (61, true)), .load (some 3) (.tmp 1)⟩] [⟨(some 64), (some (61, true)), .callF 18 [(.tmp 62), (.tmp 63)]⟩,
      ⟨(some 65), none, .pick (.tmp 61) (.tmp 64) (.const (.bool false))⟩,
      ⟨(some 2), none, .mov (.tmp 65)⟩] [[], [], [false, false], [], [], [], [], [], [], [], [], [], [], [], [], [], [], [], [], [], [], [], [], [], [], [], [], []] [2])
  (.ret)))))))),
  66, [(2, none)], true⟩
theorem ok3 : FunOK Tryd.prog 3 c3 := .code ⟨Tryd.f3, _, c3.code, Tryd.func3, rfl, by kernel_rfl, rfl, by kernel_rfl, by kernel_rfl⟩
/- raddle/raddleref01.Great -/
def c9 : AFun := ⟨
  .seq (.ops [⟨(some 1), none, .box 24 (.tmp 0)⟩,
      ⟨(some 2), none, .mov (.const (.bool false))⟩] [1])
  (.seq (.ops [⟨(some 3), none, .fldA 2 (.tmp 1)⟩,
      ⟨(some 4), none, .load none (.tmp 3)⟩,
      ⟨(some 5), none, .len false (.tmp 4)⟩,
      ⟨(some 6), none, .bin .gtr (.tmp 5) (.const (.int .i64 4200))⟩,
      ⟨(some 2), none, .mov (.tmp 6)⟩] [2])
  (.ret)),
  7, [(2, none)], true⟩
theorem ok9 : FunOK Tryd.prog 9 c9 := .code ⟨Tryd.f9, _, c9.code, Tryd.func9, rfl, by kernel_rfl, rfl, by kernel_rfl, by kernel_rfl⟩
/- raddle/raddleref01.Twin -/
def c10 : AFun := ⟨
  .seq (.ops [⟨(some 1), none, .box 24 (.tmp 0)⟩,
      ⟨(some 2), none, .alloc 24 [(2, (.int .i64 0)), (1, (.slice none 0 0))]⟩] [1, 2])
  (.seq (.draw [⟨(some 3), none, .fldA 0 (.tmp 1)⟩,
      ⟨(some 4), none, .load none (.tmp 3)⟩,
      ⟨(some 5), none, .fldA 1 (.tmp 1)⟩,
      ⟨(some 6), none, .load none (.tmp 5)⟩,
      ⟨(some 7), none, .mkRow 4 1 0 [(.bool false)] []⟩,
      ⟨(some 8), none, .fldA 2 (.tmp 1)⟩,
      ⟨(some 9), none, .load none (.tmp 8)⟩,
      ⟨(some 10), none, .app 4 1 1 (.tmp 7) (.tmp 9)⟩] [⟨(some 11), none, .build [(.int .i64 0), (.int .i64 0), (.slice none 0 0)] [(0, 1, (.tmp 4)), (1, 1, (.tmp 6)), (2, 1, (.tmp 10))]⟩,
      ⟨none, none, .store 3 (.tmp 2) (.tmp 11)⟩] [[], [], [], [], [], [false, false, false, false, false], [true, false, false, false, false, false], []] [2])
  (.ret)),
  12, [(2, (some (some 3)))], true⟩
theorem ok10 : FunOK Tryd.prog 10 c10 := .code ⟨Tryd.f10, _, c10.code, Tryd.func10, rfl, by kernel_rfl, rfl, by kernel_rfl, by kernel_rfl⟩
/- raddle/peg.Plan -/
def c11l0 : AC :=
  .seq (.ops [⟨(some 34), none, .bin .lss (.tmp 33) (.tmp 32)⟩] [1, 5, 7, 16, 17, 31, 32, 33, 34])
            (.seq (.cond (.tmp 34)
              (.skip)
              (.exit 2))
            (.seq (.block 3
              (.seq (.ops [⟨(some 35), none, .mov (.tmp 33)⟩,
                  ⟨(some 36), none, .idxS 1 (.tmp 31) (.tmp 33)⟩,
                  ⟨(some 37), none, .load none (.tmp 36)⟩,
                  ⟨(some 8), none, .mov (.tmp 35)⟩,
                  ⟨(some 9), none, .mov (.tmp 37)⟩] [1, 5, 7, 8, 9, 16, 17, 31, 32, 33])
              (.seq (.ops [⟨(some 38), none, .mov (.tmp 9)⟩] [1, 5, 7, 8, 16, 17, 31, 32, 33, 38])
              (.cond (.tmp 38)
                (.ops [⟨(some 39), none, .mov (.tmp 7)⟩,
                    ⟨(some 40), none, .mov (.tmp 8)⟩,
                    ⟨(some 41), none, .bin .add (.tmp 40) (.const (.int .i64 1))⟩,
                    ⟨(some 42), none, .callF 32 [(.tmp 41)]⟩,
                    ⟨(some 43), none, .mkRow 9 1 1 [(.string ⟨#[]⟩)] [(0, 1, (.tmp 42))]⟩,
                    ⟨(some 44), none, .app 9 1 16 (.tmp 39) (.tmp 43)⟩,
                    ⟨(some 7), none, .mov (.tmp 44)⟩] [1, 5, 7, 16, 17, 31, 32, 33])
                (.skip)))))
            (.ops [⟨(some 45), none, .bin .add (.tmp 33) (.const (.int .i64 1))⟩,
                ⟨(some 33), none, .mov (.tmp 45)⟩] [1, 5, 7, 16, 17, 31, 32, 33])))
def c11l1 : AC :=
  .seq (.ops [⟨(some 18), none, .bin .lss (.tmp 17) (.tmp 16)⟩] [1, 5, 16, 17, 18])
      (.seq (.cond (.tmp 18)
        (.skip)
        (.exit 0))
      (.seq (.block 1
        (.seq (.ops [⟨(some 19), none, .mov (.tmp 17)⟩,
            ⟨(some 6), none, .mov (.tmp 19)⟩] [1, 5, 6, 16, 17])
        (.seq (.ops [⟨(some 7), none, .mov (.const (.slice none 0 0))⟩] [1, 5, 6, 7, 16, 17])
        (.seq (.seq (.ops [⟨(some 20), none, .fldA 2 (.tmp 1)⟩,
            ⟨(some 21), none, .load none (.tmp 20)⟩,
            ⟨(some 22), none, .mov (.tmp 6)⟩,
            ⟨(some 23), none, .fldA 0 (.tmp 1)⟩,
            ⟨(some 24), none, .load none (.tmp 23)⟩,
            ⟨(some 25), none, .bin .mul (.tmp 22) (.tmp 24)⟩,
            ⟨(some 26), none, .mov (.tmp 6)⟩,
            ⟨(some 27), none, .bin .add (.tmp 26) (.const (.int .i64 1))⟩,
            ⟨(some 28), none, .fldA 0 (.tmp 1)⟩,
            ⟨(some 29), none, .load none (.tmp 28)⟩,
            ⟨(some 30), none, .bin .mul (.tmp 27) (.tmp 29)⟩,
            ⟨(some 31), none, .slc 1 (.tmp 21) (some (.tmp 25)) (some (.tmp 30)) none⟩,
            ⟨(some 32), none, .len false (.tmp 31)⟩,
            ⟨(some 33), none, .mov (.const (.int .i64 0))⟩] [1, 5, 7, 16, 17, 31, 32, 33])
        (.block 2
          (.loop [1, 5, 7, 16, 17, 31, 32, 33]
            c11l0)))
        (.seq (.seq (.ops [⟨(some 46), none, .mov (.tmp 7)⟩,
            ⟨(some 47), none, .eqNil 1 false (.tmp 46) (.const (.slice none 0 0))⟩] [1, 5, 7, 16, 17, 47])
        (.cond (.tmp 47)
          (.ops [⟨(some 48), none, .mkRow 9 1 1 [(.string ⟨#[]⟩)] [(0, 1, (.const (.string ⟨#[45]⟩)))]⟩,
              ⟨(some 7), none, .mov (.tmp 48)⟩] [1, 5, 7, 16, 17])
          (.skip)))
        (.ops [⟨(some 49), none, .mov (.tmp 7)⟩,
            ⟨(some 50), none, .callF 34 [(.tmp 49), (.const (.string ⟨#[32]⟩))]⟩,
            ⟨(some 51), none, .bin .add (.tmp 50) (.const (.string ⟨#[10]⟩))⟩,
            ⟨(some 52), none, .callF 33 [(.tmp 5), (.tmp 51)]⟩] [1, 5, 16, 17]))))))
      (.ops [⟨(some 53), none, .bin .add (.tmp 17) (.const (.int .i64 1))⟩,
          ⟨(some 17), none, .mov (.tmp 53)⟩] [1, 5, 16, 17])))
def c11 : AFun := ⟨
  .seq (.ops [⟨(some 1), none, .box 24 (.tmp 0)⟩,
      ⟨(some 2), none, .mov (.const (.string ⟨#[]⟩))⟩,
      ⟨(some 3), none, .mov (.const (.int .i64 0))⟩] [1])
  (.seq (.seq (.ops [⟨(some 10), none, .load (some 3) (.tmp 1)⟩,
      ⟨(some 11), none, .callF 15 [(.tmp 10)]⟩,
      ⟨(some 4), none, .mov (.tmp 11)⟩] [1, 4])
  (.seq (.ops [⟨(some 12), none, .mov (.tmp 4)⟩,
      ⟨(some 13), none, .bin .neq (.tmp 12) (.const (.int .i64 0))⟩] [1, 4, 13])
  (.cond (.tmp 13)
    (.seq (.ops [⟨(some 14), none, .mov (.tmp 4)⟩,
        ⟨(some 2), none, .mov (.const (.string ⟨#[]⟩))⟩,
        ⟨(some 3), none, .mov (.tmp 14)⟩] [2, 3])
    (.ret))
    (.skip))))
  (.seq (.ops [⟨(some 5), none, .alloc 69 [(1, (.pointer none)), (1, (.slice none 0 0))]⟩] [1, 5])
  (.seq (.seq (.ops [⟨(some 15), none, .fldA 1 (.tmp 1)⟩,
      ⟨(some 16), none, .load none (.tmp 15)⟩,
      ⟨(some 17), none, .mov (.const (.int .i64 0))⟩] [1, 5, 16, 17])
  (.block 0
    (.loop [1, 5, 16, 17]
      c11l1)))
  (.seq (.ops [⟨(some 54), none, .callF 35 [(.tmp 5)]⟩,
      ⟨(some 2), none, .mov (.tmp 54)⟩,
      ⟨(some 3), none, .mov (.const (.int .i64 0))⟩] [2, 3])
  (.ret))))),
  55, [(2, none), (3, none)], true⟩
theorem ok11 : FunOK Tryd.prog 11 c11 := .code ⟨Tryd.f11, _, c11.code, Tryd.func11, rfl, by kernel_rfl, rfl, by kernel_rfl, by kernel_rfl⟩
/- raddle/raddleref18.Plan -/
def c12l0 : AC :=
  .seq (.seq (.ops [⟨(some 19), none, .mov (.tmp 7)⟩,
                ⟨(some 20), none, .fldA 0 (.tmp 1)⟩,
                ⟨(some 21), none, .load none (.tmp 20)⟩,
                ⟨(some 22), none, .bin .lss (.tmp 19) (.tmp 21)⟩] [1, 4, 5, 6, 7, 22])
            (.cond (.tmp 22)
              (.skip)
              (.exit 2)))
            (.seq (.block 3
              (.seq (.ops [⟨(some 25), none, .load (some 3) (.tmp 1)⟩,
                  ⟨(some 26), none, .mov (.tmp 7)⟩,
                  ⟨(some 27), none, .mov (.tmp 5)⟩,
                  ⟨(some 28), none, .callF 36 [(.tmp 25), (.tmp 26), (.tmp 27)]⟩] [1, 4, 5, 6, 7, 28])
              (.cond (.tmp 28)
                (.seq (.seq (.ops [⟨(some 29), none, .mov (.tmp 6)⟩,
                    ⟨(some 30), none, .bin .neq (.tmp 29) (.const (.string ⟨#[]⟩))⟩] [1, 4, 5, 6, 7, 30])
                (.cond (.tmp 30)
                  (.ops [⟨(some 31), none, .mov (.tmp 6)⟩,
                      ⟨(some 32), none, .bin .add (.tmp 31) (.const (.string ⟨#[32]⟩))⟩,
                      ⟨(some 6), none, .mov (.tmp 32)⟩] [1, 4, 5, 6, 7])
                  (.skip)))
                (.ops [⟨(some 33), none, .mov (.tmp 6)⟩,
                    ⟨(some 34), none, .mov (.tmp 7)⟩,
                    ⟨(some 35), none, .bin .add (.tmp 34) (.const (.int .i64 1))⟩,
                    ⟨(some 36), none, .callF 37 [(.tmp 35)]⟩,
                    ⟨(some 37), none, .bin .add (.tmp 33) (.tmp 36)⟩,
                    ⟨(some 6), none, .mov (.tmp 37)⟩] [1, 4, 5, 6, 7]))
                (.skip))))
            (.ops [⟨(some 23), none, .mov (.tmp 7)⟩,
                ⟨(some 24), none, .bin .add (.tmp 23) (.const (.int .i64 1))⟩,
                ⟨(some 7), none, .mov (.tmp 24)⟩] [1, 4, 5, 6, 7]))
def c12l1 : AC :=
  .seq (.seq (.ops [⟨(some 13), none, .mov (.tmp 5)⟩,
          ⟨(some 14), none, .fldA 1 (.tmp 1)⟩,
          ⟨(some 15), none, .load none (.tmp 14)⟩,
          ⟨(some 16), none, .bin .lss (.tmp 13) (.tmp 15)⟩] [1, 4, 5, 16])
      (.cond (.tmp 16)
        (.skip)
        (.exit 0)))
      (.seq (.block 1
        (.seq (.ops [⟨(some 6), none, .mov (.const (.string ⟨#[]⟩))⟩] [1, 4, 5, 6])
        (.seq (.seq (.ops [⟨(some 7), none, .mov (.const (.int .i64 0))⟩] [1, 4, 5, 6, 7])
        (.block 2
          (.loop [1, 4, 5, 6, 7]
            c12l0)))
        (.seq (.seq (.ops [⟨(some 38), none, .mov (.tmp 6)⟩,
            ⟨(some 39), none, .bin .eql (.tmp 38) (.const (.string ⟨#[]⟩))⟩] [1, 4, 5, 6, 39])
        (.cond (.tmp 39)
          (.ops [⟨(some 6), none, .mov (.const (.string ⟨#[45]⟩))⟩] [1, 4, 5, 6])
          (.skip)))
        (.ops [⟨(some 40), none, .mov (.tmp 4)⟩,
            ⟨(some 41), none, .mov (.tmp 6)⟩,
            ⟨(some 42), none, .bin .add (.tmp 40) (.tmp 41)⟩,
            ⟨(some 43), none, .bin .add (.tmp 42) (.const (.string ⟨#[10]⟩))⟩,
            ⟨(some 4), none, .mov (.tmp 43)⟩] [1, 4, 5])))))
      (.ops [⟨(some 17), none, .mov (.tmp 5)⟩,
          ⟨(some 18), none, .bin .add (.tmp 17) (.const (.int .i64 1))⟩,
          ⟨(some 5), none, .mov (.tmp 18)⟩] [1, 4, 5]))
def c12 : AFun := ⟨
  .seq (.ops [⟨(some 1), none, .box 24 (.tmp 0)⟩,
      ⟨(some 2), none, .mov (.const (.string ⟨#[]⟩))⟩,
      ⟨(some 3), none, .mov (.const (.int .i64 0))⟩] [1])
  (.seq (.seq (.ops [⟨(some 8), none, .load (some 3) (.tmp 1)⟩,
      ⟨(some 9), none, .callF 16 [(.tmp 8)]⟩,
      ⟨(some 10), none, .bin .neq (.tmp 9) (.const (.int .i64 0))⟩] [1, 10])
  (.cond (.tmp 10)
    (.seq (.ops [⟨(some 11), none, .load (some 3) (.tmp 1)⟩,
        ⟨(some 12), none, .callF 16 [(.tmp 11)]⟩,
        ⟨(some 2), none, .mov (.const (.string ⟨#[]⟩))⟩,
        ⟨(some 3), none, .mov (.tmp 12)⟩] [2, 3])
    (.ret))
    (.skip)))
  (.seq (.ops [⟨(some 4), none, .mov (.const (.string ⟨#[]⟩))⟩] [1, 4])
  (.seq (.seq (.ops [⟨(some 5), none, .mov (.const (.int .i64 0))⟩] [1, 4, 5])
  (.block 0
    (.loop [1, 4, 5]
      c12l1)))
  (.seq (.ops [⟨(some 44), none, .mov (.tmp 4)⟩,
      ⟨(some 2), none, .mov (.tmp 44)⟩,
      ⟨(some 3), none, .mov (.const (.int .i64 0))⟩] [2, 3])
  (.ret))))),
  45, [(2, none), (3, none)], true⟩
theorem ok12 : FunOK Tryd.prog 12 c12 := .code ⟨Tryd.f12, _, c12.code, Tryd.func12, rfl, by kernel_rfl, rfl, by kernel_rfl, by kernel_rfl⟩
/- raddle/peg.Encode -/
def c13l0 : AC :=
  .seq (.ops [⟨(some 64), none, .bin .lss (.tmp 63) (.tmp 62)⟩] [1, 2, 5, 8, 62, 63, 64])
      (.seq (.cond (.tmp 64)
        (.skip)
        (.exit 2))
      (.seq (.block 3
        (.seq (.ops [⟨(some 65), none, .mov (.tmp 63)⟩,
            ⟨(some 9), none, .alloc 3 [(1, (.int .i64 0))]⟩,
            ⟨none, none, .store 1 (.tmp 9) (.tmp 65)⟩] [1, 2, 5, 8, 9, 62, 63])
        (.draw [⟨(some 66), none, .mov (.tmp 8)⟩,
            ⟨(some 67), none, .load none (.tmp 9)⟩,
            ⟨(some 68), none, .fldA 1 (.tmp 1)⟩,
            ⟨(some 69), none, .load none (.tmp 68)⟩,
            ⟨(some 70), none, .mkFn 40 [] [(.tmp 5), (.tmp 9)]⟩,
            ⟨(some 71), none, .callF 38 [(.tmp 69), (.tmp 70)]⟩] [⟨(some 72), none, .idxS 1 (.tmp 66) (.tmp 67)⟩,
            ⟨none, none, .store 1 (.tmp 72) (.tmp 71)⟩] [[], [], [], [], [], []] [1, 2, 5, 8, 62, 63])))
      (.ops [⟨(some 73), none, .bin .add (.tmp 63) (.const (.int .i64 1))⟩,
          ⟨(some 63), none, .mov (.tmp 73)⟩] [1, 2, 5, 8, 62, 63])))
def c13l1 : AC :=
  .seq (.ops [⟨(some 22), none, .bin .lss (.tmp 21) (.tmp 20)⟩] [1, 2, 5, 20, 21, 22])
      (.seq (.cond (.tmp 22)
        (.skip)
        (.exit 0))
      (.seq (.block 1
        (.seq (.ops [⟨(some 23), none, .mov (.tmp 21)⟩,
            ⟨(some 6), none, .mov (.tmp 23)⟩] [1, 2, 5, 6, 20, 21])
        (.seq (.ops [⟨(some 24), none, .fldA 0 (.tmp 1)⟩,
            ⟨(some 25), none, .load none (.tmp 24)⟩,
            ⟨(some 26), none, .bin .add (.tmp 25) (.const (.int .i64 1))⟩,
            ⟨(some 27), none, .mkSlice 4 1 1 [(.bool false)] (.tmp 26) (.tmp 26)⟩,
            ⟨(some 7), none, .alloc 22 [(1, (.slice none 0 0))]⟩,
            ⟨none, none, .store 1 (.tmp 7) (.tmp 27)⟩] [1, 2, 5, 6, 7, 20, 21])
        (.seq (.draw [⟨(some 28), none, .load none (.tmp 7)⟩,
            ⟨(some 29), none, .fldA 2 (.tmp 1)⟩,
            ⟨(some 30), none, .load none (.tmp 29)⟩,
            ⟨(some 31), none, .mov (.tmp 6)⟩,
            ⟨(some 32), none, .fldA 0 (.tmp 1)⟩,
            ⟨(some 33), none, .load none (.tmp 32)⟩,
            ⟨(some 34), none, .bin .mul (.tmp 31) (.tmp 33)⟩,
            ⟨(some 35), none, .mov (.tmp 6)⟩,
            ⟨(some 36), none, .bin .add (.tmp 35) (.const (.int .i64 1))⟩,
            ⟨(some 37), none, .fldA 0 (.tmp 1)⟩,
            ⟨(some 38), none, .load none (.tmp 37)⟩,
            ⟨(some 39), none, .bin .mul (.tmp 36) (.tmp 38)⟩,
            ⟨(some 40), none, .slc 1 (.tmp 30) (some (.tmp 34)) (some (.tmp 39)) none⟩] [⟨(some 41), none, .copy 1 (.tmp 28) (.tmp 40)⟩] [[], [], [], [], [], [], [], [], [], [], [], [], []] [1, 2, 5, 7, 20, 21])
        (.seq (.draw [⟨(some 42), none, .load none (.tmp 7)⟩,
            ⟨(some 43), none, .fldA 0 (.tmp 1)⟩,
            ⟨(some 44), none, .load none (.tmp 43)⟩,
            ⟨(some 45), none, .fldA 0 (.tmp 1)⟩,
            ⟨(some 46), none, .load none (.tmp 45)⟩,
            ⟨(some 47), none, .mkFn 39 [] [(.tmp 7)]⟩,
            ⟨(some 48), none, .callF 38 [(.tmp 46), (.tmp 47)]⟩] [⟨(some 49), none, .idxS 1 (.tmp 42) (.tmp 44)⟩,
            ⟨none, none, .store 1 (.tmp 49) (.tmp 48)⟩] [[], [], [], [], [], [], []] [1, 2, 5, 7, 20, 21])
        (.ops [⟨(some 50), none, .fldA 1 (.tmp 5)⟩,
            ⟨(some 51), none, .load none (.tmp 50)⟩,
            ⟨(some 52), none, .load none (.tmp 7)⟩,
            ⟨(some 53), none, .mkRow 22 1 1 [(.slice none 0 0)] [(0, 1, (.tmp 52))]⟩,
            ⟨(some 54), none, .app 22 1 24 (.tmp 51) (.tmp 53)⟩,
            ⟨(some 55), none, .fldA 1 (.tmp 5)⟩,
            ⟨none, none, .store 1 (.tmp 55) (.tmp 54)⟩] [1, 2, 5, 20, 21]))))))
      (.ops [⟨(some 56), none, .bin .add (.tmp 21) (.const (.int .i64 1))⟩,
          ⟨(some 21), none, .mov (.tmp 56)⟩] [1, 2, 5, 20, 21])))
def c13 : AFun := ⟨
  .seq (.ops [⟨(some 1), none, .box 24 (.tmp 0)⟩,
      ⟨(some 2), none, .alloc 34 [(1, (.int .i64 0)), (1, (.slice none 0 0))]⟩,
      ⟨(some 3), none, .mov (.const (.int .i64 0))⟩] [1, 2])
  (.seq (.seq (.ops [⟨(some 10), none, .load (some 3) (.tmp 1)⟩,
      ⟨(some 11), none, .callF 15 [(.tmp 10)]⟩,
      ⟨(some 4), none, .mov (.tmp 11)⟩] [1, 2, 4])
  (.seq (.ops [⟨(some 12), none, .mov (.tmp 4)⟩,
      ⟨(some 13), none, .bin .neq (.tmp 12) (.const (.int .i64 0))⟩] [1, 2, 4, 13])
  (.cond (.tmp 13)
    (.seq (.ops [⟨(some 14), none, .build [(.int .i64 0), (.slice none 0 0)] []⟩,
        ⟨(some 15), none, .mov (.tmp 4)⟩,
        ⟨none, none, .store 2 (.tmp 2) (.tmp 14)⟩,
        ⟨(some 3), none, .mov (.tmp 15)⟩] [2, 3])
    (.ret))
    (.skip))))
  (.seq (.ops [⟨(some 16), none, .fldA 0 (.tmp 1)⟩,
      ⟨(some 17), none, .load none (.tmp 16)⟩,
      ⟨(some 18), none, .build [(.int .i64 0), (.slice none 0 0)] [(0, 1, (.tmp 17))]⟩,
      ⟨(some 5), none, .alloc 34 [(1, (.int .i64 0)), (1, (.slice none 0 0))]⟩,
      ⟨none, none, .store 2 (.tmp 5) (.tmp 18)⟩] [1, 2, 5])
  (.seq (.seq (.ops [⟨(some 19), none, .fldA 1 (.tmp 1)⟩,
      ⟨(some 20), none, .load none (.tmp 19)⟩,
      ⟨(some 21), none, .mov (.const (.int .i64 0))⟩] [1, 2, 5, 20, 21])
  (.block 0
    (.loop [1, 2, 5, 20, 21]
      c13l1)))
  (.seq (.ops [⟨(some 57), none, .fldA 0 (.tmp 1)⟩,
      ⟨(some 58), none, .load none (.tmp 57)⟩,
      ⟨(some 59), none, .bin .add (.tmp 58) (.const (.int .i64 1))⟩,
      ⟨(some 60), none, .mkSlice 4 1 1 [(.bool false)] (.tmp 59) (.tmp 59)⟩,
      ⟨(some 8), none, .mov (.tmp 60)⟩] [1, 2, 5, 8])
  (.seq (.seq (.ops [⟨(some 61), none, .mov (.tmp 8)⟩,
      ⟨(some 62), none, .len false (.tmp 61)⟩,
      ⟨(some 63), none, .mov (.const (.int .i64 0))⟩] [1, 2, 5, 8, 62, 63])
  (.block 2
    (.loop [1, 2, 5, 8, 62, 63]
      c13l0)))
  (.seq (.ops [⟨(some 74), none, .fldA 1 (.tmp 5)⟩,
      ⟨(some 75), none, .load none (.tmp 74)⟩,
      ⟨(some 76), none, .mov (.tmp 8)⟩,
      ⟨(some 77), none, .mkRow 22 1 1 [(.slice none 0 0)] [(0, 1, (.tmp 76))]⟩,
      ⟨(some 78), none, .app 22 1 24 (.tmp 75) (.tmp 77)⟩,
      ⟨(some 79), none, .fldA 1 (.tmp 5)⟩,
      ⟨none, none, .store 1 (.tmp 79) (.tmp 78)⟩] [2, 5])
  (.seq (.ops [⟨(some 80), none, .load (some 2) (.tmp 5)⟩,
      ⟨none, none, .store 2 (.tmp 2) (.tmp 80)⟩,
      ⟨(some 3), none, .mov (.const (.int .i64 0))⟩] [2, 3])
  (.ret)))))))),
  81, [(2, (some (some 2))), (3, none)], true⟩
theorem ok13 : FunOK Tryd.prog 13 c13 := .code ⟨Tryd.f13, _, c13.code, Tryd.func13, rfl, by kernel_rfl, rfl, by kernel_rfl, by kernel_rfl⟩
/- raddle/raddleref18.Encode -/
def c14l0 : AC :=
  .seq (.seq (.ops [⟨(some 52), none, .mov (.tmp 8)⟩,
          ⟨(some 53), none, .fldA 0 (.tmp 1)⟩,
          ⟨(some 54), none, .load none (.tmp 53)⟩,
          ⟨(some 55), none, .bin .leq (.tmp 52) (.tmp 54)⟩] [1, 2, 4, 7, 8, 55])
      (.cond (.tmp 55)
        (.skip)
        (.exit 2)))
      (.seq (.block 3
        (.ops [⟨(some 58), none, .mov (.tmp 7)⟩,
            ⟨(some 59), none, .fldA 1 (.tmp 4)⟩,
            ⟨(some 60), none, .load none (.tmp 59)⟩,
            ⟨(some 61), none, .mov (.tmp 8)⟩,
            ⟨(some 62), none, .callF 42 [(.tmp 60), (.tmp 61)]⟩,
            ⟨(some 63), none, .callF 41 [(.tmp 62)]⟩,
            ⟨(some 64), none, .bin .rem (.tmp 63) (.const (.int .i64 2))⟩,
            ⟨(some 65), none, .bin .eql (.tmp 64) (.const (.int .i64 1))⟩,
            ⟨(some 66), none, .mkRow 4 1 1 [(.bool false)] [(0, 1, (.tmp 65))]⟩,
            ⟨(some 67), none, .app 4 1 1 (.tmp 58) (.tmp 66)⟩,
            ⟨(some 7), none, .mov (.tmp 67)⟩] [1, 2, 4, 7, 8]))
      (.ops [⟨(some 56), none, .mov (.tmp 8)⟩,
          ⟨(some 57), none, .bin .add (.tmp 56) (.const (.int .i64 1))⟩,
          ⟨(some 8), none, .mov (.tmp 57)⟩] [1, 2, 4, 7, 8]))
def c14l1 : AC :=
  .seq (.seq (.ops [⟨(some 18), none, .mov (.tmp 5)⟩,
          ⟨(some 19), none, .fldA 1 (.tmp 1)⟩,
          ⟨(some 20), none, .load none (.tmp 19)⟩,
          ⟨(some 21), none, .bin .lss (.tmp 18) (.tmp 20)⟩] [1, 2, 4, 5, 21])
      (.cond (.tmp 21)
        (.skip)
        (.exit 0)))
      (.seq (.block 1
        (.seq (.ops [⟨(some 24), none, .mkRow 4 1 0 [(.bool false)] []⟩,
            ⟨(some 25), none, .fldA 2 (.tmp 1)⟩,
            ⟨(some 26), none, .load none (.tmp 25)⟩,
            ⟨(some 27), none, .mov (.tmp 5)⟩,
            ⟨(some 28), none, .fldA 0 (.tmp 1)⟩,
            ⟨(some 29), none, .load none (.tmp 28)⟩,
            ⟨(some 30), none, .bin .mul (.tmp 27) (.tmp 29)⟩,
            ⟨(some 31), none, .mov (.tmp 5)⟩,
            ⟨(some 32), none, .fldA 0 (.tmp 1)⟩,
            ⟨(some 33), none, .load none (.tmp 32)⟩,
            ⟨(some 34), none, .bin .mul (.tmp 31) (.tmp 33)⟩,
            ⟨(some 35), none, .fldA 0 (.tmp 1)⟩,
            ⟨(some 36), none, .load none (.tmp 35)⟩,
            ⟨(some 37), none, .bin .add (.tmp 34) (.tmp 36)⟩,
            ⟨(some 38), none, .slc 1 (.tmp 26) (some (.tmp 30)) (some (.tmp 37)) none⟩,
            ⟨(some 39), none, .app 4 1 1 (.tmp 24) (.tmp 38)⟩,
            ⟨(some 6), none, .mov (.tmp 39)⟩] [1, 2, 4, 5, 6])
        (.drawW [⟨⟨(some 40), none, .fldA 1 (.tmp 4)⟩, [], none⟩,
            ⟨⟨(some 41), none, .load none (.tmp 40)⟩, [], none⟩,
            ⟨⟨(some 42), none, .mov (.tmp 6)⟩, [0, 1], none⟩,
            ⟨⟨(some 43), none, .mov (.tmp 6)⟩, [0, 1, 2], none⟩,
            ⟨⟨(some 44), none, .callF 41 [(.tmp 43)]⟩, [0, 1, 2], (some [])⟩,
            ⟨⟨(some 45), none, .bin .rem (.tmp 44) (.const (.int .i64 2))⟩, [0, 1, 2], none⟩,
            ⟨⟨(some 46), none, .bin .eql (.tmp 45) (.const (.int .i64 1))⟩, [0, 1, 2], none⟩,
            ⟨⟨(some 47), none, .mkRow 4 1 1 [(.bool false)] [(0, 1, (.tmp 46))]⟩, [0, 1, 2], none⟩,
            ⟨⟨(some 48), none, .app 4 1 1 (.tmp 42) (.tmp 47)⟩, [0, 1], none⟩,
            ⟨⟨(some 49), none, .mkRow 22 1 1 [(.slice none 0 0)] [(0, 1, (.tmp 48))]⟩, [0, 1], none⟩] [⟨(some 50), none, .app 22 1 24 (.tmp 41) (.tmp 49)⟩,
            ⟨(some 51), none, .fldA 1 (.tmp 4)⟩,
            ⟨none, none, .store 1 (.tmp 51) (.tmp 50)⟩] [1, 2, 4, 5])))
      (.ops [⟨(some 22), none, .mov (.tmp 5)⟩,
          ⟨(some 23), none, .bin .add (.tmp 22) (.const (.int .i64 1))⟩,
          ⟨(some 5), none, .mov (.tmp 23)⟩] [1, 2, 4, 5]))
def c14 : AFun := ⟨
  .seq (.ops [⟨(some 1), none, .box 24 (.tmp 0)⟩,
      ⟨(some 2), none, .alloc 34 [(1, (.int .i64 0)), (1, (.slice none 0 0))]⟩,
      ⟨(some 3), none, .mov (.const (.int .i64 0))⟩] [1, 2])
  (.seq (.seq (.ops [⟨(some 9), none, .load (some 3) (.tmp 1)⟩,
      ⟨(some 10), none, .callF 16 [(.tmp 9)]⟩,
      ⟨(some 11), none, .bin .neq (.tmp 10) (.const (.int .i64 0))⟩] [1, 2, 11])
  (.cond (.tmp 11)
    (.seq (.ops [⟨(some 12), none, .build [(.int .i64 0), (.slice none 0 0)] []⟩,
        ⟨(some 13), none, .load (some 3) (.tmp 1)⟩,
        ⟨(some 14), none, .callF 16 [(.tmp 13)]⟩,
        ⟨none, none, .store 2 (.tmp 2) (.tmp 12)⟩,
        ⟨(some 3), none, .mov (.tmp 14)⟩] [2, 3])
    (.ret))
    (.skip)))
  (.seq (.ops [⟨(some 15), none, .fldA 0 (.tmp 1)⟩,
      ⟨(some 16), none, .load none (.tmp 15)⟩,
      ⟨(some 17), none, .build [(.int .i64 0), (.slice none 0 0)] [(0, 1, (.tmp 16))]⟩,
      ⟨(some 4), none, .alloc 34 [(1, (.int .i64 0)), (1, (.slice none 0 0))]⟩,
      ⟨none, none, .store 2 (.tmp 4) (.tmp 17)⟩] [1, 2, 4])
  (.seq (.seq (.ops [⟨(some 5), none, .mov (.const (.int .i64 0))⟩] [1, 2, 4, 5])
  (.block 0
    (.loop [1, 2, 4, 5]
      c14l1)))
  (.seq (.ops [⟨(some 7), none, .mov (.const (.slice none 0 0))⟩] [1, 2, 4, 7])
  (.seq (.seq (.ops [⟨(some 8), none, .mov (.const (.int .i64 0))⟩] [1, 2, 4, 7, 8])
  (.block 2
    (.loop [1, 2, 4, 7, 8]
      c14l0)))
  (.seq (.ops [⟨(some 68), none, .fldA 1 (.tmp 4)⟩,
      ⟨(some 69), none, .load none (.tmp 68)⟩,
      ⟨(some 70), none, .mov (.tmp 7)⟩,
      ⟨(some 71), none, .mkRow 22 1 1 [(.slice none 0 0)] [(0, 1, (.tmp 70))]⟩,
      ⟨(some 72), none, .app 22 1 24 (.tmp 69) (.tmp 71)⟩,
      ⟨(some 73), none, .fldA 1 (.tmp 4)⟩,
      ⟨none, none, .store 1 (.tmp 73) (.tmp 72)⟩] [2, 4])
  (.seq (.ops [⟨(some 74), none, .load (some 2) (.tmp 4)⟩,
      ⟨none, none, .store 2 (.tmp 2) (.tmp 74)⟩,
      ⟨(some 3), none, .mov (.const (.int .i64 0))⟩] [2, 3])
  (.ret)))))))),
  75, [(2, (some (some 2))), (3, none)], true⟩
theorem ok14 : FunOK Tryd.prog 14 c14 := .code ⟨Tryd.f14, _, c14.code, Tryd.func14, rfl, by kernel_rfl, rfl, by kernel_rfl, by kernel_rfl⟩
/- raddle/peg.Check -/
def c15 : AFun := ⟨
  .seq (.ops [⟨(some 1), none, .box 24 (.tmp 0)⟩,
      ⟨(some 2), none, .mov (.const (.int .i64 0))⟩] [1])
  (.seq (.seq (.ops [⟨(some 4), none, .load (some 3) (.tmp 1)⟩,
      ⟨(some 5), none, .callF 43 [(.tmp 4)]⟩,
      ⟨(some 3), none, .mov (.tmp 5)⟩] [1, 3])
  (.seq (.ops [⟨(some 6), none, .mov (.tmp 3)⟩,
      ⟨(some 7), none, .bin .neq (.tmp 6) (.const (.int .i64 0))⟩] [1, 3, 7])
  (.cond (.tmp 7)
    (.seq (.ops [⟨(some 8), none, .mov (.tmp 3)⟩,
        ⟨(some 2), none, .mov (.tmp 8)⟩] [2])
    (.ret))
    (.skip))))
  (.seq (.seq (.ops [⟨(some 9), none, .fldA 0 (.tmp 1)⟩,
      ⟨(some 10), none, .load none (.tmp 9)⟩,
      ⟨(some 11), none, .bin .gtr (.tmp 10) (.const (.int .i64 40))⟩] [11])
  (.cond (.tmp 11)
    (.seq (.ops [⟨(some 2), none, .mov (.const (.int .i64 8))⟩] [2])
    (.ret))
    (.skip)))
  (.seq (.ops [⟨(some 2), none, .mov (.const (.int .i64 0))⟩] [2])
  (.ret)))),
  12, [(2, none)], true⟩
theorem ok15 : FunOK Tryd.prog 15 c15 := .code ⟨Tryd.f15, _, c15.code, Tryd.func15, rfl, by kernel_rfl, rfl, by kernel_rfl, by kernel_rfl⟩
/- raddle/raddleref18.Check -/
def c16 : AFun := ⟨
  .seq (.ops [⟨(some 1), none, .box 24 (.tmp 0)⟩,
      ⟨(some 2), none, .mov (.const (.int .i64 0))⟩] [1])
  (.seq (.seq (.ops [⟨(some 3), none, .load (some 3) (.tmp 1)⟩,
      ⟨(some 4), none, .callF 44 [(.tmp 3)]⟩,
      ⟨(some 5), none, .bin .neq (.tmp 4) (.const (.int .i64 0))⟩] [1, 5])
  (.cond (.tmp 5)
    (.seq (.ops [⟨(some 6), none, .load (some 3) (.tmp 1)⟩,
        ⟨(some 7), none, .callF 44 [(.tmp 6)]⟩,
        ⟨(some 2), none, .mov (.tmp 7)⟩] [2])
    (.ret))
    (.skip)))
  (.seq (.seq (.ops [⟨(some 8), none, .fldA 0 (.tmp 1)⟩,
      ⟨(some 9), none, .load none (.tmp 8)⟩,
      ⟨(some 10), none, .bin .gtr (.tmp 9) (.const (.int .i64 40))⟩] [10])
  (.cond (.tmp 10)
    (.seq (.ops [⟨(some 2), none, .mov (.const (.int .i64 8))⟩] [2])
    (.ret))
    (.skip)))
  (.seq (.ops [⟨(some 2), none, .mov (.const (.int .i64 0))⟩] [2])
  (.ret)))),
  11, [(2, none)], true⟩
theorem ok16 : FunOK Tryd.prog 16 c16 := .code ⟨Tryd.f16, _, c16.code, Tryd.func16, rfl, by kernel_rfl, rfl, by kernel_rfl, by kernel_rfl⟩
/- raddle/raddleref18.Same -/
def c17l0 : AC :=
  .seq (.seq (.ops [⟨(some 41), none, .mov (.tmp 6)⟩,
                ⟨(some 42), none, .fldA 1 (.tmp 2)⟩,
                ⟨(some 43), none, .load none (.tmp 42)⟩,
                ⟨(some 44), none, .mov (.tmp 5)⟩,
                ⟨(some 45), none, .idxS 1 (.tmp 43) (.tmp 44)⟩,
                ⟨(some 46), none, .load none (.tmp 45)⟩,
                ⟨(some 47), none, .len false (.tmp 46)⟩,
                ⟨(some 48), none, .bin .lss (.tmp 41) (.tmp 47)⟩] [2, 3, 5, 6, 48])
            (.cond (.tmp 48)
              (.skip)
              (.exit 2)))
            (.seq (.block 3
              (.seq (.draw [⟨(some 51), none, .fldA 1 (.tmp 2)⟩,
                  ⟨(some 52), none, .load none (.tmp 51)⟩,
                  ⟨(some 53), none, .mov (.tmp 5)⟩,
                  ⟨(some 54), none, .idxS 1 (.tmp 52) (.tmp 53)⟩,
                  ⟨(some 55), none, .load none (.tmp 54)⟩,
                  ⟨(some 56), none, .mov (.tmp 6)⟩,
                  ⟨(some 57), none, .idxS 1 (.tmp 55) (.tmp 56)⟩,
                  ⟨(some 58), none, .load none (.tmp 57)⟩,
                  ⟨(some 59), none, .fldA 1 (.tmp 3)⟩,
                  ⟨(some 60), none, .load none (.tmp 59)⟩,
                  ⟨(some 61), none, .mov (.tmp 5)⟩,
                  ⟨(some 62), none, .idxS 1 (.tmp 60) (.tmp 61)⟩,
                  ⟨(some 63), none, .load none (.tmp 62)⟩,
                  ⟨(some 64), none, .mov (.tmp 6)⟩,
                  ⟨(some 65), none, .idxS 1 (.tmp 63) (.tmp 64)⟩,
                  ⟨(some 66), none, .load none (.tmp 65)⟩] [⟨(some 67), none, .eqB true (.tmp 58) (.tmp 66)⟩] [[], [], [], [], [], [], [], [], [], [], [], [], [], [], [], []] [2, 3, 5, 6, 67])
              (.cond (.tmp 67)
                (.seq (.ops [⟨(some 4), none, .mov (.const (.bool false))⟩] [4])
                (.ret))
                (.skip))))
            (.ops [⟨(some 49), none, .mov (.tmp 6)⟩,
                ⟨(some 50), none, .bin .add (.tmp 49) (.const (.int .i64 1))⟩,
                ⟨(some 6), none, .mov (.tmp 50)⟩] [2, 3, 5, 6]))
def c17l1 : AC :=
  .seq (.seq (.ops [⟨(some 21), none, .mov (.tmp 5)⟩,
          ⟨(some 22), none, .fldA 1 (.tmp 2)⟩,
          ⟨(some 23), none, .load none (.tmp 22)⟩,
          ⟨(some 24), none, .len false (.tmp 23)⟩,
          ⟨(some 25), none, .bin .lss (.tmp 21) (.tmp 24)⟩] [2, 3, 5, 25])
      (.cond (.tmp 25)
        (.skip)
        (.exit 0)))
      (.seq (.block 1
        (.seq (.seq (.draw [⟨(some 28), none, .fldA 1 (.tmp 2)⟩,
            ⟨(some 29), none, .load none (.tmp 28)⟩,
            ⟨(some 30), none, .mov (.tmp 5)⟩,
            ⟨(some 31), none, .idxS 1 (.tmp 29) (.tmp 30)⟩,
            ⟨(some 32), none, .load none (.tmp 31)⟩,
            ⟨(some 33), none, .len false (.tmp 32)⟩,
            ⟨(some 34), none, .fldA 1 (.tmp 3)⟩,
            ⟨(some 35), none, .load none (.tmp 34)⟩,
            ⟨(some 36), none, .mov (.tmp 5)⟩,
            ⟨(some 37), none, .idxS 1 (.tmp 35) (.tmp 36)⟩,
            ⟨(some 38), none, .load none (.tmp 37)⟩,
            ⟨(some 39), none, .len false (.tmp 38)⟩] [⟨(some 40), none, .bin .neq (.tmp 33) (.tmp 39)⟩] [[], [], [], [], [], [], [], [], [], [], [], []] [2, 3, 5, 40])
        (.cond (.tmp 40)
          (.seq (.ops [⟨(some 4), none, .mov (.const (.bool false))⟩] [4])
          (.ret))
          (.skip)))
        (.seq (.ops [⟨(some 6), none, .mov (.const (.int .i64 0))⟩] [2, 3, 5, 6])
        (.block 2
          (.loop [2, 3, 5, 6]
            c17l0)))))
      (.ops [⟨(some 26), none, .mov (.tmp 5)⟩,
          ⟨(some 27), none, .bin .add (.tmp 26) (.const (.int .i64 1))⟩,
          ⟨(some 5), none, .mov (.tmp 27)⟩] [2, 3, 5]))
def c17 : AFun := ⟨
  .seq (.ops [⟨(some 2), none, .box 34 (.tmp 0)⟩,
      ⟨(some 3), none, .box 34 (.tmp 1)⟩,
      ⟨(some 4), none, .mov (.const (.bool false))⟩] [2, 3])
  (.seq (.seq (.ops [⟨(some 7), none, .fldA 0 (.tmp 2)⟩,
      ⟨(some 8), none, .load none (.tmp 7)⟩,
      ⟨(some 9), none, .fldA 0 (.tmp 3)⟩,
      ⟨(some 10), none, .load none (.tmp 9)⟩,
      ⟨(some 11), none, .bin .neq (.tmp 8) (.tmp 10)⟩,
      ⟨(some 12), none, .mov (.tmp 11)⟩,
      ⟨(some 13), (some (12, false)), .fldA 1 (.tmp 2)⟩,
      ⟨(some 14), (some (12, false)), .load none (.tmp 13)⟩,
      ⟨(some 15), (some (12, false)), .len false (.tmp 14)⟩,
      ⟨(some 16), (some (12, false)), .fldA 1 (.tmp 3)⟩,
      ⟨(some 17), (some (12, false)), .load none (.tmp 16)⟩,
      ⟨(some 18), (some (12, false)), .len false (.tmp 17)⟩,
      ⟨(some 19), (some (12, false)), .bin .neq (.tmp 15) (.tmp 18)⟩,
      ⟨(some 20), none, .pick (.tmp 12) (.const (.bool true)) (.tmp 19)⟩] [2, 3, 20])
  (.cond (.tmp 20)
    (.seq (.ops [⟨(some 4), none, .mov (.const (.bool false))⟩] [4])
    (.ret))
    (.skip)))
  (.seq (.seq (.ops [⟨(some 5), none, .mov (.const (.int .i64 0))⟩] [2, 3, 5])
  (.block 0
    (.loop [2, 3, 5]
      c17l1)))
  (.seq (.ops [⟨(some 4), none, .mov (.const (.bool true))⟩] [4])
  (.ret)))),
  68, [(4, none)], true⟩
theorem ok17 : FunOK Tryd.prog 17 c17 := .code ⟨Tryd.f17, _, c17.code, Tryd.func17, rfl, by kernel_rfl, rfl, by kernel_rfl, by kernel_rfl⟩
/- raddle/raddleref01.Same -/
def c18l0 : AC :=
  .seq (.seq (.ops [⟨(some 27), none, .mov (.tmp 5)⟩,
          ⟨(some 28), none, .fldA 2 (.tmp 2)⟩,
          ⟨(some 29), none, .load none (.tmp 28)⟩,
          ⟨(some 30), none, .len false (.tmp 29)⟩,
          ⟨(some 31), none, .bin .lss (.tmp 27) (.tmp 30)⟩] [2, 3, 5, 31])
      (.cond (.tmp 31)
        (.skip)
        (.exit 0)))
      (.seq (.block 1
        (.seq (.draw [⟨(some 34), none, .fldA 2 (.tmp 2)⟩,
            ⟨(some 35), none, .load none (.tmp 34)⟩,
            ⟨(some 36), none, .mov (.tmp 5)⟩,
            ⟨(some 37), none, .idxS 1 (.tmp 35) (.tmp 36)⟩,
            ⟨(some 38), none, .load none (.tmp 37)⟩,
            ⟨(some 39), none, .fldA 2 (.tmp 3)⟩,
            ⟨(some 40), none, .load none (.tmp 39)⟩,
            ⟨(some 41), none, .mov (.tmp 5)⟩,
            ⟨(some 42), none, .idxS 1 (.tmp 40) (.tmp 41)⟩,
            ⟨(some 43), none, .load none (.tmp 42)⟩] [⟨(some 44), none, .eqB true (.tmp 38) (.tmp 43)⟩] [[], [], [], [], [], [], [], [], [], []] [2, 3, 5, 44])
        (.cond (.tmp 44)
          (.seq (.ops [⟨(some 4), none, .mov (.const (.bool false))⟩] [4])
          (.ret))
          (.skip))))
      (.ops [⟨(some 32), none, .mov (.tmp 5)⟩,
          ⟨(some 33), none, .bin .add (.tmp 32) (.const (.int .i64 1))⟩,
          ⟨(some 5), none, .mov (.tmp 33)⟩] [2, 3, 5]))
def c18 : AFun := ⟨
  .seq (.ops [⟨(some 2), none, .box 24 (.tmp 0)⟩,
      ⟨(some 3), none, .box 24 (.tmp 1)⟩,
      ⟨(some 4), none, .mov (.const (.bool false))⟩] [2, 3])
  (.seq (.seq (.ops [⟨(some 6), none, .fldA 0 (.tmp 2)⟩,
      ⟨(some 7), none, .load none (.tmp 6)⟩,
      ⟨(some 8), none, .fldA 0 (.tmp 3)⟩,
      ⟨(some 9), none, .load none (.tmp 8)⟩,
      ⟨(some 10), none, .bin .neq (.tmp 7) (.tmp 9)⟩,
      ⟨(some 11), none, .mov (.tmp 10)⟩,
      ⟨(some 12), (some (11, false)), .fldA 1 (.tmp 2)⟩,
      ⟨(some 13), (some (11, false)), .load none (.tmp 12)⟩,
      ⟨(some 14), (some (11, false)), .fldA 1 (.tmp 3)⟩,
      ⟨(some 15), (some (11, false)), .load none (.tmp 14)⟩,
      ⟨(some 16), (some (11, false)), .bin .neq (.tmp 13) (.tmp 15)⟩,
      ⟨(some 17), none, .pick (.tmp 11) (.const (.bool true)) (.tmp 16)⟩,
      ⟨(some 18), none, .mov (.tmp 17)⟩,
      ⟨(some 19), (some (18, false)), .fldA 2 (.tmp 2)⟩,
      ⟨(some 20), (some (18, false)), .load none (.tmp 19)⟩,
      ⟨(some 21), (some (18, false)), .len false (.tmp 20)⟩,
      ⟨(some 22), (some (18, false)), .fldA 2 (.tmp 3)⟩,
      ⟨(some 23), (some (18, false)), .load none (.tmp 22)⟩,
      ⟨(some 24), (some (18, false)), .len false (.tmp 23)⟩,
      ⟨(some 25), (some (18, false)), .bin .neq (.tmp 21) (.tmp 24)⟩,
      ⟨(some 26), none, .pick (.tmp 18) (.const (.bool true)) (.tmp 25)⟩] [2, 3, 26])
  (.cond (.tmp 26)
    (.seq (.ops [⟨(some 4), none, .mov (.const (.bool false))⟩] [4])
    (.ret))
    (.skip)))
  (.seq (.seq (.ops [⟨(some 5), none, .mov (.const (.int .i64 0))⟩] [2, 3, 5])
  (.block 0
    (.loop [2, 3, 5]
      c18l0)))
  (.seq (.ops [⟨(some 4), none, .mov (.const (.bool true))⟩] [4])
  (.ret)))),
  45, [(4, none)], true⟩
theorem ok18 : FunOK Tryd.prog 18 c18 := .code ⟨Tryd.f18, _, c18.code, Tryd.func18, rfl, by kernel_rfl, rfl, by kernel_rfl, by kernel_rfl⟩
/- (*strings.Builder).WriteString -/
def c33 : AFun := ⟨
  .seq (.ops [⟨(some 4), none, .mov (.const (.int .i64 0))⟩,
      ⟨(some 5), none, .mov (.const .nilIface)⟩] [0, 1])
  (.seq (.ops [⟨(some 6), none, .mov (.tmp 0)⟩,
      ⟨(some 7), none, .callF 57 [(.tmp 6)]⟩] [0, 1])
  (.seq (.ops [⟨(some 8), none, .mov (.tmp 0)⟩,
      ⟨(some 9), none, .mov (.tmp 0)⟩,
      ⟨(some 10), none, .nilChk (.tmp 9)⟩,
      ⟨(some 11), none, .fldA 1 (.tmp 10)⟩,
      ⟨(some 12), none, .load none (.tmp 11)⟩,
      ⟨(some 13), none, .mov (.tmp 1)⟩,
      ⟨(some 14), none, .app 5 1 1 (.tmp 12) (.tmp 13)⟩,
      ⟨(some 15), none, .nilChk (.tmp 8)⟩,
      ⟨(some 16), none, .fldA 1 (.tmp 15)⟩,
      ⟨none, none, .store 1 (.tmp 16) (.tmp 14)⟩] [1])
  (.seq (.ops [⟨(some 17), none, .mov (.tmp 1)⟩,
      ⟨(some 18), none, .len true (.tmp 17)⟩,
      ⟨(some 4), none, .mov (.tmp 18)⟩,
      ⟨(some 5), none, .mov (.const .nilIface)⟩] [4, 5])
  (.ret)))),
  19, [(4, none), (5, none)], false⟩
theorem ok33 : FunOK Tryd.prog 33 c33 := .code ⟨Tryd.f33, _, c33.code, Tryd.func33, rfl, by kernel_rfl, rfl, by kernel_rfl, by kernel_rfl⟩
/- (*strings.Builder).String -/
def c35 : AFun := ⟨
  .seq (.ops [⟨(some 2), none, .mov (.const (.string ⟨#[]⟩))⟩] [0])
  (.seq (.draw [⟨(some 3), none, .mov (.tmp 0)⟩,
      ⟨(some 4), none, .nilChk (.tmp 3)⟩,
      ⟨(some 5), none, .fldA 1 (.tmp 4)⟩,
      ⟨(some 6), none, .load none (.tmp 5)⟩,
      ⟨(some 7), none, .sdata (.tmp 6)⟩,
      ⟨(some 8), none, .mov (.tmp 0)⟩,
      ⟨(some 9), none, .nilChk (.tmp 8)⟩,
      ⟨(some 10), none, .fldA 1 (.tmp 9)⟩,
      ⟨(some 11), none, .load none (.tmp 10)⟩,
      ⟨(some 12), none, .len false (.tmp 11)⟩] [⟨(some 13), none, .ustr 5 (.tmp 7) (.tmp 12)⟩,
      ⟨(some 2), none, .mov (.tmp 13)⟩] [[], [], [], [], [], [], [], [], [], []] [2])
  (.ret)),
  14, [(2, none)], false⟩
theorem ok35 : FunOK Tryd.prog 35 c35 := .code ⟨Tryd.f35, _, c35.code, Tryd.func35, rfl, by kernel_rfl, rfl, by kernel_rfl, by kernel_rfl⟩
/- raddle/raddleref01.At -/
def c36 : AFun := ⟨
  .seq (.ops [⟨(some 3), none, .box 24 (.tmp 0)⟩,
      ⟨(some 6), none, .mov (.const (.bool false))⟩] [1, 2, 3])
  (.seq (.ops [⟨(some 7), none, .fldA 2 (.tmp 3)⟩,
      ⟨(some 8), none, .load none (.tmp 7)⟩,
      ⟨(some 9), none, .mov (.tmp 2)⟩,
      ⟨(some 10), none, .fldA 0 (.tmp 3)⟩,
      ⟨(some 11), none, .load none (.tmp 10)⟩,
      ⟨(some 12), none, .bin .mul (.tmp 9) (.tmp 11)⟩,
      ⟨(some 13), none, .mov (.tmp 1)⟩,
      ⟨(some 14), none, .bin .add (.tmp 12) (.tmp 13)⟩,
      ⟨(some 15), none, .idxS 1 (.tmp 8) (.tmp 14)⟩,
      ⟨(some 16), none, .load none (.tmp 15)⟩,
      ⟨(some 6), none, .mov (.tmp 16)⟩] [6])
  (.ret)),
  17, [(6, none)], true⟩
theorem ok36 : FunOK Tryd.prog 36 c36 := .code ⟨Tryd.f36, _, c36.code, Tryd.func36, rfl, by kernel_rfl, rfl, by kernel_rfl, by kernel_rfl⟩
/- raddle/raddleref02.Decimal -/
def c37l0 : AC :=
  .seq (.seq (.ops [⟨(some 4), none, .mov (.tmp 0)⟩,
          ⟨(some 5), none, .bin .gtr (.tmp 4) (.const (.int .i64 9))⟩] [0, 3, 5])
      (.cond (.tmp 5)
        (.skip)
        (.exit 0)))
      (.block 1
        (.seq (.ops [⟨(some 6), none, .mov (.tmp 0)⟩,
            ⟨(some 7), none, .bin .rem (.tmp 6) (.const (.int .i64 10))⟩,
            ⟨(some 8), none, .bin .add (.const (.int .i64 48)) (.tmp 7)⟩,
            ⟨(some 9), none, .convI .u8 (.tmp 8)⟩,
            ⟨(some 10), none, .mkRow 5 1 1 [(.int .u8 0)] [(0, 1, (.tmp 9))]⟩,
            ⟨(some 11), none, .b2s (.tmp 10)⟩,
            ⟨(some 12), none, .mov (.tmp 3)⟩,
            ⟨(some 13), none, .bin .add (.tmp 11) (.tmp 12)⟩,
            ⟨(some 3), none, .mov (.tmp 13)⟩] [0, 3])
        (.ops [⟨(some 14), none, .mov (.tmp 0)⟩,
            ⟨(some 15), none, .bin .quo (.tmp 14) (.const (.int .i64 10))⟩,
            ⟨(some 0), none, .mov (.tmp 15)⟩] [0, 3])))
def c37 : AFun := ⟨
  .seq (.ops [⟨(some 2), none, .mov (.const (.string ⟨#[]⟩))⟩] [0])
  (.seq (.ops [⟨(some 3), none, .mov (.const (.string ⟨#[]⟩))⟩] [0, 3])
  (.seq (.block 0
    (.loop [0, 3]
      c37l0))
  (.seq (.ops [⟨(some 16), none, .mov (.tmp 0)⟩,
      ⟨(some 17), none, .bin .add (.const (.int .i64 48)) (.tmp 16)⟩,
      ⟨(some 18), none, .convI .u8 (.tmp 17)⟩,
      ⟨(some 19), none, .mkRow 5 1 1 [(.int .u8 0)] [(0, 1, (.tmp 18))]⟩,
      ⟨(some 20), none, .b2s (.tmp 19)⟩,
      ⟨(some 21), none, .mov (.tmp 3)⟩,
      ⟨(some 22), none, .bin .add (.tmp 20) (.tmp 21)⟩,
      ⟨(some 2), none, .mov (.tmp 22)⟩] [2])
  (.ret)))),
  23, [(2, none)], true⟩
theorem ok37 : FunOK Tryd.prog 37 c37 := .code ⟨Tryd.f37, _, c37.code, Tryd.func37, rfl, by kernel_rfl, rfl, by kernel_rfl, by kernel_rfl⟩
/- raddle/peg.odd -/
def c38l0 : AC :=
  .seq (.ops [⟨(some 9), none, .bin .lss (.tmp 8) (.tmp 7)⟩] [1, 5, 7, 8, 9])
      (.seq (.cond (.tmp 9)
        (.skip)
        (.exit 0))
      (.seq (.block 1
        (.seq (.ops [⟨(some 10), none, .mov (.tmp 8)⟩,
            ⟨(some 6), none, .mov (.tmp 10)⟩] [1, 5, 6, 7, 8])
        (.ops [⟨(some 11), none, .mov (.tmp 5)⟩,
            ⟨(some 12), none, .mov (.tmp 1)⟩,
            ⟨(some 13), none, .mov (.tmp 6)⟩,
            ⟨(some 14), none, .callV (.tmp 12) [(.tmp 13)]⟩,
            ⟨(some 15), none, .eqB true (.tmp 11) (.tmp 14)⟩,
            ⟨(some 5), none, .mov (.tmp 15)⟩] [1, 5, 7, 8])))
      (.ops [⟨(some 16), none, .bin .add (.tmp 8) (.const (.int .i64 1))⟩,
          ⟨(some 8), none, .mov (.tmp 16)⟩] [1, 5, 7, 8])))
def c38 : AFun := ⟨
  .seq (.ops [⟨(some 4), none, .mov (.const (.bool false))⟩] [0, 1])
  (.seq (.ops [⟨(some 5), none, .mov (.const (.bool false))⟩] [0, 1, 5])
  (.seq (.seq (.ops [⟨(some 7), none, .mov (.tmp 0)⟩,
      ⟨(some 8), none, .mov (.const (.int .i64 0))⟩] [1, 5, 7, 8])
  (.block 0
    (.loop [1, 5, 7, 8]
      c38l0)))
  (.seq (.ops [⟨(some 17), none, .mov (.tmp 5)⟩,
      ⟨(some 4), none, .mov (.tmp 17)⟩] [4])
  (.ret)))),
  18, [(4, none)], true⟩
theorem ok38 : FunOK Tryd.prog 38 c38 := .code ⟨Tryd.f38, _, c38.code, Tryd.func38, rfl, by kernel_rfl, rfl, by kernel_rfl, by kernel_rfl⟩
/- raddle/peg.Encode$1 -/
def c39 : AFun := ⟨
  .seq (.ops [⟨(some 3), none, .mov (.const (.bool false))⟩] [0, 1])
  (.seq (.ops [⟨(some 4), none, .load none (.tmp 1)⟩,
      ⟨(some 5), none, .mov (.tmp 0)⟩,
      ⟨(some 6), none, .idxS 1 (.tmp 4) (.tmp 5)⟩,
      ⟨(some 7), none, .load none (.tmp 6)⟩,
      ⟨(some 3), none, .mov (.tmp 7)⟩] [3])
  (.ret)),
  8, [(3, none)], true⟩
theorem ok39 : FunOK Tryd.prog 39 c39 := .code ⟨Tryd.f39, _, c39.code, Tryd.func39, rfl, by kernel_rfl, rfl, by kernel_rfl, by kernel_rfl⟩
/- raddle/peg.Encode$2 -/
def c40 : AFun := ⟨
  .seq (.ops [⟨(some 4), none, .mov (.const (.bool false))⟩] [0, 1, 2])
  (.seq (.draw [⟨(some 5), none, .fldA 1 (.tmp 1)⟩,
      ⟨(some 6), none, .load none (.tmp 5)⟩,
      ⟨(some 7), none, .mov (.tmp 0)⟩,
      ⟨(some 8), none, .idxS 1 (.tmp 6) (.tmp 7)⟩,
      ⟨(some 9), none, .load none (.tmp 8)⟩,
      ⟨(some 10), none, .load none (.tmp 2)⟩] [⟨(some 11), none, .idxS 1 (.tmp 9) (.tmp 10)⟩,
      ⟨(some 12), none, .load none (.tmp 11)⟩,
      ⟨(some 4), none, .mov (.tmp 12)⟩] [[], [], [], [], [], []] [4])
  (.ret)),
  13, [(4, none)], true⟩
theorem ok40 : FunOK Tryd.prog 40 c40 := .code ⟨Tryd.f40, _, c40.code, Tryd.func40, rfl, by kernel_rfl, rfl, by kernel_rfl, by kernel_rfl⟩
/- raddle/raddleref18.Pegs -/
def c41l0 : AC :=
  .seq (.seq (.ops [⟨(some 5), none, .mov (.tmp 4)⟩,
          ⟨(some 6), none, .mov (.tmp 0)⟩,
          ⟨(some 7), none, .len false (.tmp 6)⟩,
          ⟨(some 8), none, .bin .lss (.tmp 5) (.tmp 7)⟩] [0, 3, 4, 8])
      (.cond (.tmp 8)
        (.skip)
        (.exit 0)))
      (.seq (.block 1
        (.seq (.ops [⟨(some 11), none, .mov (.tmp 0)⟩,
            ⟨(some 12), none, .mov (.tmp 4)⟩,
            ⟨(some 13), none, .idxS 1 (.tmp 11) (.tmp 12)⟩,
            ⟨(some 14), none, .load none (.tmp 13)⟩] [0, 3, 4, 14])
        (.cond (.tmp 14)
          (.ops [⟨(some 15), none, .mov (.tmp 3)⟩,
              ⟨(some 16), none, .bin .add (.tmp 15) (.const (.int .i64 1))⟩,
              ⟨(some 3), none, .mov (.tmp 16)⟩] [0, 3, 4])
          (.skip))))
      (.ops [⟨(some 9), none, .mov (.tmp 4)⟩,
          ⟨(some 10), none, .bin .add (.tmp 9) (.const (.int .i64 1))⟩,
          ⟨(some 4), none, .mov (.tmp 10)⟩] [0, 3, 4]))
def c41 : AFun := ⟨
  .seq (.ops [⟨(some 2), none, .mov (.const (.int .i64 0))⟩] [0])
  (.seq (.ops [⟨(some 3), none, .mov (.const (.int .i64 0))⟩] [0, 3])
  (.seq (.seq (.ops [⟨(some 4), none, .mov (.const (.int .i64 0))⟩] [0, 3, 4])
  (.block 0
    (.loop [0, 3, 4]
      c41l0)))
  (.seq (.ops [⟨(some 17), none, .mov (.tmp 3)⟩,
      ⟨(some 2), none, .mov (.tmp 17)⟩] [2])
  (.ret)))),
  18, [(2, none)], true⟩
theorem ok41 : FunOK Tryd.prog 41 c41 := .code ⟨Tryd.f41, _, c41.code, Tryd.func41, rfl, by kernel_rfl, rfl, by kernel_rfl, by kernel_rfl⟩
/- raddle/raddleref18.Column -/
def c42l0 : AC :=
  .seq (.seq (.ops [⟨(some 7), none, .mov (.tmp 6)⟩,
          ⟨(some 8), none, .mov (.tmp 0)⟩,
          ⟨(some 9), none, .len false (.tmp 8)⟩,
          ⟨(some 10), none, .bin .lss (.tmp 7) (.tmp 9)⟩] [0, 1, 5, 6, 10])
      (.cond (.tmp 10)
        (.skip)
        (.exit 0)))
      (.seq (.block 1
        (.ops [⟨(some 13), none, .mov (.tmp 5)⟩,
            ⟨(some 14), none, .mov (.tmp 0)⟩,
            ⟨(some 15), none, .mov (.tmp 6)⟩,
            ⟨(some 16), none, .idxS 1 (.tmp 14) (.tmp 15)⟩,
            ⟨(some 17), none, .load none (.tmp 16)⟩,
            ⟨(some 18), none, .mov (.tmp 1)⟩,
            ⟨(some 19), none, .idxS 1 (.tmp 17) (.tmp 18)⟩,
            ⟨(some 20), none, .load none (.tmp 19)⟩,
            ⟨(some 21), none, .mkRow 4 1 1 [(.bool false)] [(0, 1, (.tmp 20))]⟩,
            ⟨(some 22), none, .app 4 1 1 (.tmp 13) (.tmp 21)⟩,
            ⟨(some 5), none, .mov (.tmp 22)⟩] [0, 1, 5, 6]))
      (.ops [⟨(some 11), none, .mov (.tmp 6)⟩,
          ⟨(some 12), none, .bin .add (.tmp 11) (.const (.int .i64 1))⟩,
          ⟨(some 6), none, .mov (.tmp 12)⟩] [0, 1, 5, 6]))
def c42 : AFun := ⟨
  .seq (.ops [⟨(some 4), none, .mov (.const (.slice none 0 0))⟩] [0, 1])
  (.seq (.ops [⟨(some 5), none, .mov (.const (.slice none 0 0))⟩] [0, 1, 5])
  (.seq (.seq (.ops [⟨(some 6), none, .mov (.const (.int .i64 0))⟩] [0, 1, 5, 6])
  (.block 0
    (.loop [0, 1, 5, 6]
      c42l0)))
  (.seq (.ops [⟨(some 23), none, .mov (.tmp 5)⟩,
      ⟨(some 4), none, .mov (.tmp 23)⟩] [4])
  (.ret)))),
  24, [(4, none)], false⟩
theorem ok42 : FunOK Tryd.prog 42 c42 := .code ⟨Tryd.f42, _, c42.code, Tryd.func42, rfl, by kernel_rfl, rfl, by kernel_rfl, by kernel_rfl⟩
/- raddle/grid.Check -/
def c43 : AFun := ⟨
  .seq (.ops [⟨(some 1), none, .box 24 (.tmp 0)⟩,
      ⟨(some 2), none, .mov (.const (.int .i64 0))⟩] [1])
  (.seq (.block 0
    (.seq (.ops [⟨(some 4), none, .fldA 0 (.tmp 1)⟩,
        ⟨(some 5), none, .load none (.tmp 4)⟩,
        ⟨(some 6), none, .fldA 1 (.tmp 1)⟩,
        ⟨(some 7), none, .load none (.tmp 6)⟩,
        ⟨(some 8), none, .mm true (.tmp 5) (.tmp 7)⟩,
        ⟨(some 9), none, .bin .gtr (.tmp 8) (.const (.int .i64 64))⟩,
        ⟨(some 3), none, .mov (.tmp 9)⟩] [1, 3])
    (.cond (.tmp 3)
      (.seq (.ops [⟨(some 2), none, .mov (.const (.int .i64 4))⟩] [2])
      (.ret))
      (.seq (.ops [⟨(some 11), none, .fldA 0 (.tmp 1)⟩,
          ⟨(some 12), none, .load none (.tmp 11)⟩,
          ⟨(some 13), none, .fldA 1 (.tmp 1)⟩,
          ⟨(some 14), none, .load none (.tmp 13)⟩,
          ⟨(some 15), none, .mm false (.tmp 12) (.tmp 14)⟩,
          ⟨(some 16), none, .bin .lss (.tmp 15) (.const (.int .i64 1))⟩,
          ⟨(some 17), none, .mov (.tmp 16)⟩,
          ⟨(some 18), (some (17, false)), .fldA 2 (.tmp 1)⟩,
          ⟨(some 19), (some (17, false)), .load none (.tmp 18)⟩,
          ⟨(some 20), (some (17, false)), .len false (.tmp 19)⟩,
          ⟨(some 21), (some (17, false)), .fldA 0 (.tmp 1)⟩,
          ⟨(some 22), (some (17, false)), .load none (.tmp 21)⟩,
          ⟨(some 23), (some (17, false)), .fldA 1 (.tmp 1)⟩,
          ⟨(some 24), (some (17, false)), .load none (.tmp 23)⟩,
          ⟨(some 25), (some (17, false)), .bin .mul (.tmp 22) (.tmp 24)⟩,
          ⟨(some 26), (some (17, false)), .bin .neq (.tmp 20) (.tmp 25)⟩,
          ⟨(some 27), none, .pick (.tmp 17) (.const (.bool true)) (.tmp 26)⟩,
          ⟨(some 10), none, .mov (.tmp 27)⟩] [10])
      (.cond (.tmp 10)
        (.seq (.ops [⟨(some 2), none, .mov (.const (.int .i64 8))⟩] [2])
        (.ret))
        (.skip))))))
  (.seq (.ops [⟨(some 2), none, .mov (.const (.int .i64 0))⟩] [2])
  (.ret))),
  28, [(2, none)], true⟩
theorem ok43 : FunOK Tryd.prog 43 c43 := .code ⟨Tryd.f43, _, c43.code, Tryd.func43, rfl, by kernel_rfl, rfl, by kernel_rfl, by kernel_rfl⟩
/- raddle/raddleref01.Check -/
def c44 : AFun := ⟨
  .seq (.ops [⟨(some 1), none, .box 24 (.tmp 0)⟩,
      ⟨(some 2), none, .mov (.const (.int .i64 0))⟩] [1])
  (.seq (.seq (.ops [⟨(some 3), none, .fldA 0 (.tmp 1)⟩,
      ⟨(some 4), none, .load none (.tmp 3)⟩,
      ⟨(some 5), none, .bin .gtr (.tmp 4) (.const (.int .i64 64))⟩,
      ⟨(some 6), none, .mov (.tmp 5)⟩,
      ⟨(some 7), (some (6, false)), .fldA 1 (.tmp 1)⟩,
      ⟨(some 8), (some (6, false)), .load none (.tmp 7)⟩,
      ⟨(some 9), (some (6, false)), .bin .gtr (.tmp 8) (.const (.int .i64 64))⟩,
      ⟨(some 10), none, .pick (.tmp 6) (.const (.bool true)) (.tmp 9)⟩] [1, 10])
  (.cond (.tmp 10)
    (.seq (.ops [⟨(some 2), none, .mov (.const (.int .i64 4))⟩] [2])
    (.ret))
    (.skip)))
  (.seq (.seq (.ops [⟨(some 11), none, .fldA 0 (.tmp 1)⟩,
      ⟨(some 12), none, .load none (.tmp 11)⟩,
      ⟨(some 13), none, .bin .lss (.tmp 12) (.const (.int .i64 1))⟩,
      ⟨(some 14), none, .mov (.tmp 13)⟩,
      ⟨(some 15), (some (14, false)), .fldA 1 (.tmp 1)⟩,
      ⟨(some 16), (some (14, false)), .load none (.tmp 15)⟩,
      ⟨(some 17), (some (14, false)), .bin .lss (.tmp 16) (.const (.int .i64 1))⟩,
      ⟨(some 18), none, .pick (.tmp 14) (.const (.bool true)) (.tmp 17)⟩,
      ⟨(some 19), none, .mov (.tmp 18)⟩,
      ⟨(some 20), (some (19, false)), .fldA 2 (.tmp 1)⟩,
      ⟨(some 21), (some (19, false)), .load none (.tmp 20)⟩,
      ⟨(some 22), (some (19, false)), .len false (.tmp 21)⟩,
      ⟨(some 23), (some (19, false)), .fldA 0 (.tmp 1)⟩,
      ⟨(some 24), (some (19, false)), .load none (.tmp 23)⟩,
      ⟨(some 25), (some (19, false)), .fldA 1 (.tmp 1)⟩,
      ⟨(some 26), (some (19, false)), .load none (.tmp 25)⟩,
      ⟨(some 27), (some (19, false)), .bin .mul (.tmp 24) (.tmp 26)⟩,
      ⟨(some 28), (some (19, false)), .bin .neq (.tmp 22) (.tmp 27)⟩,
      ⟨(some 29), none, .pick (.tmp 19) (.const (.bool true)) (.tmp 28)⟩] [29])
  (.cond (.tmp 29)
    (.seq (.ops [⟨(some 2), none, .mov (.const (.int .i64 8))⟩] [2])
    (.ret))
    (.skip)))
  (.seq (.ops [⟨(some 2), none, .mov (.const (.int .i64 0))⟩] [2])
  (.ret)))),
  30, [(2, none)], true⟩
theorem ok44 : FunOK Tryd.prog 44 c44 := .code ⟨Tryd.f44, _, c44.code, Tryd.func44, rfl, by kernel_rfl, rfl, by kernel_rfl, by kernel_rfl⟩
/- (*strings.Builder).copyCheck (1 operations that the interpreter lacks) -/
def c57 : AFun := ⟨
  .seq (.ops [⟨(some 2), none, .mov (.tmp 0)⟩,
      ⟨(some 3), none, .nilChk (.tmp 2)⟩,
      ⟨(some 4), none, .fldA 0 (.tmp 3)⟩,
      ⟨(some 5), none, .load none (.tmp 4)⟩,
      ⟨(some 6), none, .eqNil 0 false (.tmp 5) (.const (.pointer none))⟩] [0, 6])
  (.cond (.tmp 6)
    (.ops [⟨(some 7), none, .mov (.tmp 0)⟩,
        ⟨(some 8), none, .mov (.tmp 0)⟩,
        ⟨(some 9), none, .toUns (.tmp 8)⟩,
        ⟨(some 10), none, .callF 68 [(.tmp 9)]⟩,
        ⟨(some 11), none, .fromUns 69 2 (.tmp 10)⟩,
        ⟨(some 12), none, .nilChk (.tmp 7)⟩,
        ⟨(some 13), none, .fldA 0 (.tmp 12)⟩,
        ⟨none, none, .store 1 (.tmp 13) (.tmp 11)⟩] [])
    (.seq (.ops [⟨(some 14), none, .mov (.tmp 0)⟩,
        ⟨(some 15), none, .nilChk (.tmp 14)⟩,
        ⟨(some 16), none, .fldA 0 (.tmp 15)⟩,
        ⟨(some 17), none, .load none (.tmp 16)⟩,
        ⟨(some 18), none, .mov (.tmp 0)⟩,
        ⟨(some 19), none, .eqPtr true (.tmp 17) (.tmp 18)⟩] [19])
    (.cond (.tmp 19)
      (.bad)
      (.skip)))),
  20, [], false⟩
theorem ok57 : FunOK Tryd.prog 57 c57 := .code ⟨Tryd.f57, _, c57.code, Tryd.func57, rfl, by kernel_rfl, rfl, by kernel_rfl, by kernel_rfl⟩
def fns : FuncId → Option AFun
  | 3 => some c3
  | 9 => some c9
  | 10 => some c10
  | 11 => some c11
  | 12 => some c12
  | 13 => some c13
  | 14 => some c14
  | 15 => some c15
  | 16 => some c16
  | 17 => some c17
  | 18 => some c18
  | 33 => some c33
  | 35 => some c35
  | 36 => some c36
  | 37 => some c37
  | 38 => some c38
  | 39 => some c39
  | 40 => some c40
  | 41 => some c41
  | 42 => some c42
  | 43 => some c43
  | 44 => some c44
  | 57 => some c57
  | _ => none
theorem fns_ok : FunsOK Tryd.prog fns := by
  intro f af h
  unfold fns at h
  split at h
  · cases h; exact ok3
  · cases h; exact ok9
  · cases h; exact ok10
  · cases h; exact ok11
  · cases h; exact ok12
  · cases h; exact ok13
  · cases h; exact ok14
  · cases h; exact ok15
  · cases h; exact ok16
  · cases h; exact ok17
  · cases h; exact ok18
  · cases h; exact ok33
  · cases h; exact ok35
  · cases h; exact ok36
  · cases h; exact ok37
  · cases h; exact ok38
  · cases h; exact ok39
  · cases h; exact ok40
  · cases h; exact ok41
  · cases h; exact ok42
  · cases h; exact ok43
  · cases h; exact ok44
  · cases h; exact ok57
  · cases h
end Go.Proofs.YtepdkmdcainddaaDoor
/-
  DERIVED: THE SHELF's CONTRACTS AT THIS DUMP, IN PLAIN WORDS (tools/lay-plain.mjs out of 'TrydShelf.lean', which tools/lay-shelf.mjs wrote): THE SAME DECLARATIONS UNDER THE SAME NAMES: 'import', 'namespace', 'open', 'def', 'theorem' AND NOTHING ELSE: no command of the shelf's: FOR A HAND-IN. Each laying: the table of numbers ('.._ren') and one theorem, a field a fact of the dump's own or the kernel's comparison; each contract: ONE APPLICATION.
-/
namespace Go.Proofs
open Go.Shelf
def Tryd.lays156_ren : Go.Shelf.Ren := ⟨fun | 156 => 34 | 165 => 58 | 166 => 33 | 169 => 35 | 240 => 57 | 241 => 69 | 276 => 68 | 277 => 86 | n => n, fun | 31 => 65 | 9 => 9 | 3 => 3 | 4 => 4 | 0 => 0 | 20 => 20 | 72 => 69 | 76 => 73 | 70 => 66 | 37 => 67 | 75 => 72 | 127 => 94 | 164 => 103 | 5 => 5 | 80 => 76 | n => n, fun | n => n⟩
theorem Tryd.lays156 : Go.Proofs.Lays.n156 Tryd.prog Tryd.lays156_ren := {
  mixed := by kernel_rfl
  f156 := Tryd.func34.trans (congrArg some (by kernel_rfl))
  f165 := Tryd.func58.trans (congrArg some (by kernel_rfl))
  f166 := Tryd.func33.trans (congrArg some (by kernel_rfl))
  f169 := Tryd.func35.trans (congrArg some (by kernel_rfl))
  f240 := Tryd.func57.trans (congrArg some (by kernel_rfl))
  f241 := Tryd.func69.trans (congrArg some (by kernel_rfl))
  f276 := Tryd.func68.trans (congrArg some (by kernel_rfl))
  f277 := Tryd.func86.trans (congrArg some (by kernel_rfl))
  t0 := Tryd.underlying0
  a0 := Tryd.isAgg0
  z0 := Tryd.sizeOf0
  v0 := Tryd.zeroValue0
  t3 := Tryd.underlying3
  a3 := Tryd.isAgg3
  z3 := Tryd.sizeOf3
  v3 := Tryd.zeroValue3
  t4 := Tryd.underlying4
  a4 := Tryd.isAgg4
  z4 := Tryd.sizeOf4
  v4 := Tryd.zeroValue4
  t9 := Tryd.underlying9
  a9 := Tryd.isAgg9
  z9 := Tryd.sizeOf9
  v9 := Tryd.zeroValue9
  t20 := Tryd.underlying20
  a20 := Tryd.isAgg20
  z20 := Tryd.sizeOf20
  v20 := Tryd.zeroValue20
  t31 := Tryd.underlying65
  a31 := Tryd.isAgg65
  z31 := Tryd.sizeOf65
  v31 := Tryd.zeroValue65
  t37 := Tryd.underlying67
  a37 := Tryd.isAgg67
  z37 := Tryd.sizeOf67
  v37 := Tryd.zeroValue67
  t70 := Tryd.underlying66
  a70 := Tryd.isAgg66
  z70 := Tryd.sizeOf66
  v70 := Tryd.zeroValue66
  t72 := Tryd.underlying69
  a72 := Tryd.isAgg69
  z72 := Tryd.sizeOf69
  v72 := Tryd.zeroValue69
  t75 := Tryd.underlying72
  a75 := Tryd.isAgg72
  z75 := Tryd.sizeOf72
  v75 := Tryd.zeroValue72
  t76 := Tryd.underlying73
  a76 := Tryd.isAgg73
  z76 := Tryd.sizeOf73
  v76 := Tryd.zeroValue73
  t127 := Tryd.underlying94
  a127 := Tryd.isAgg94
  z127 := Tryd.sizeOf94
  v127 := Tryd.zeroValue94
  t164 := Tryd.underlying103
  a164 := Tryd.isAgg103
  z164 := Tryd.sizeOf103
  v164 := Tryd.zeroValue103 }
theorem Tryd.Builder_Extra_156 : Builder.Extra Tryd.prog Tryd.lays156_ren := {
  sizeBuilder := by kernel_rfl
  liesBuilder := by kernel_rfl
  t5 := Tryd.underlying5
  a5 := Tryd.isAgg5
  z5 := Tryd.sizeOf5
  v5 := Tryd.zeroValue5
  infoByte := by kernel_rfl
  cellsByte := by kernel_rfl
  sizeByte := by kernel_rfl
  neB5 := by decide }
open Go.RowKit in
theorem Tryd.strings_Join_none (a : Option Addr) (c : Nat) (sep : ByteArray) (w : World) :
    Calls Tryd.prog 34 #[.slice a 0 c, .string sep] w fun e w' => e = .returned (.string ⟨#[]⟩) ∧ w' = w := Any.strings_Join_none Tryd.lays156 Tryd.Builder_Extra_156 a c sep w
open Go.RowKit in
theorem Tryd.strings_Join (bk o c : Nat) (xs : List ByteArray) (sep : ByteArray) (w : World) (hcells : ∀ (j : Nat) x, xs[j]? = some x → w.cell? ⟨bk, o + j, none⟩ = some (.string x)) (hbk : bk < w.heap.size) (hN : xs.length ≤ 140737488355328) (hcap : xs.length ≤ c) (hlen : (Lib.join (xs.map (·.data.toList)) sep.data.toList).length ≤ 140737488355328) :
    Calls Tryd.prog 34 #[.slice (some ⟨bk, o, none⟩) xs.length c, .string sep] w fun e w' => e = .returned (.string ⟨(Lib.join (xs.map (·.data.toList)) sep.data.toList).toArray⟩) ∧ Below w.heap.size w w' := Any.strings_Join Tryd.lays156 Tryd.Builder_Extra_156 bk o c xs sep w hcells hbk hN hcap hlen
def Tryd.laysM171_ren : Go.Shelf.Ren := ⟨fun | 171 => 32 | 243 => 56 | 246 => 67 | 283 => 82 | 284 => 83 | 285 => 84 | 286 => 85 | 129 => 95 | 317 => 94 | 318 => 96 | 319 => 97 | 320 => 98 | 337 => 105 | 338 => 106 | n => n, fun | 3 => 3 | 9 => 9 | 2 => 2 | 4 => 4 | 171 => 118 | 0 => 0 | 53 => 119 | 37 => 67 | 5 => 5 | 173 => 122 | 212 => 136 | 51 => 137 | 20 => 20 | 213 => 138 | 46 => 129 | 232 => 151 | 233 => 152 | n => n, fun | 17 => 2 | 18 => 6 | 19 => 7 | n => n⟩
theorem Tryd.laysM171 : Go.Proofs.LaysM.n171 Tryd.prog Tryd.laysM171_ren := {
  mixed := by kernel_rfl
  f129 := Tryd.func95.trans (congrArg some (by kernel_rfl))
  f171 := Tryd.func32.trans (congrArg some (by kernel_rfl))
  f243 := Tryd.func56.trans (congrArg some (by kernel_rfl))
  f246 := Tryd.func67.trans (congrArg some (by kernel_rfl))
  f283 := Tryd.func82.trans (congrArg some (by kernel_rfl))
  f284 := Tryd.func83.trans (congrArg some (by kernel_rfl))
  f285 := Tryd.func84.trans (congrArg some (by kernel_rfl))
  f286 := Tryd.func85.trans (congrArg some (by kernel_rfl))
  f317 := Tryd.func94.trans (congrArg some (by kernel_rfl))
  f318 := Tryd.func96.trans (congrArg some (by kernel_rfl))
  f319 := Tryd.func97.trans (congrArg some (by kernel_rfl))
  f320 := Tryd.func98.trans (congrArg some (by kernel_rfl))
  f337 := Tryd.func105.trans (congrArg some (by kernel_rfl))
  f338 := Tryd.func106.trans (congrArg some (by kernel_rfl))
  t0 := Tryd.underlying0
  a0 := Tryd.isAgg0
  z0 := Tryd.sizeOf0
  v0 := Tryd.zeroValue0
  t2 := Tryd.underlying2
  a2 := Tryd.isAgg2
  z2 := Tryd.sizeOf2
  v2 := Tryd.zeroValue2
  t3 := Tryd.underlying3
  a3 := Tryd.isAgg3
  z3 := Tryd.sizeOf3
  v3 := Tryd.zeroValue3
  t4 := Tryd.underlying4
  a4 := Tryd.isAgg4
  z4 := Tryd.sizeOf4
  v4 := Tryd.zeroValue4
  t5 := Tryd.underlying5
  a5 := Tryd.isAgg5
  z5 := Tryd.sizeOf5
  v5 := Tryd.zeroValue5
  t9 := Tryd.underlying9
  a9 := Tryd.isAgg9
  z9 := Tryd.sizeOf9
  v9 := Tryd.zeroValue9
  t20 := Tryd.underlying20
  a20 := Tryd.isAgg20
  z20 := Tryd.sizeOf20
  v20 := Tryd.zeroValue20
  t37 := Tryd.underlying67
  a37 := Tryd.isAgg67
  z37 := Tryd.sizeOf67
  v37 := Tryd.zeroValue67
  t46 := Tryd.underlying129
  a46 := Tryd.isAgg129
  z46 := Tryd.sizeOf129
  v46 := Tryd.zeroValue129
  t51 := Tryd.underlying137
  a51 := Tryd.isAgg137
  z51 := Tryd.sizeOf137
  v51 := Tryd.zeroValue137
  t53 := Tryd.underlying119
  a53 := Tryd.isAgg119
  z53 := Tryd.sizeOf119
  v53 := Tryd.zeroValue119
  t171 := Tryd.underlying118
  a171 := Tryd.isAgg118
  z171 := Tryd.sizeOf118
  v171 := Tryd.zeroValue118
  t173 := Tryd.underlying122
  a173 := Tryd.isAgg122
  z173 := Tryd.sizeOf122
  v173 := Tryd.zeroValue122
  t212 := Tryd.underlying136
  a212 := Tryd.isAgg136
  z212 := Tryd.sizeOf136
  v212 := Tryd.zeroValue136
  t213 := Tryd.underlying138
  a213 := Tryd.isAgg138
  z213 := Tryd.sizeOf138
  t232 := Tryd.underlying151
  a232 := Tryd.isAgg151
  z232 := Tryd.sizeOf151
  v232 := Tryd.zeroValue151
  t233 := Tryd.underlying152
  a233 := Tryd.isAgg152
  z233 := Tryd.sizeOf152
  v233 := Tryd.zeroValue152
  g17 := by kernel_rfl
  g18 := by kernel_rfl
  g19 := by kernel_rfl
  i0 := by kernel_rfl
  i2 := by kernel_rfl
  i3 := by kernel_rfl
  i4 := by kernel_rfl
  i5 := by kernel_rfl
  i9 := by kernel_rfl
  i20 := by kernel_rfl
  i37 := by kernel_rfl
  i46 := by kernel_rfl
  i51 := by kernel_rfl
  i53 := by kernel_rfl
  i171 := by kernel_rfl
  i173 := by kernel_rfl
  i212 := by kernel_rfl
  i232 := by kernel_rfl
  i233 := by kernel_rfl
  m17 := by kernel_rfl
  m18 := by kernel_rfl
  m19 := by kernel_rfl }
open Go.RowKit Go.Sort Go.Lib in
theorem Tryd.strconv_Itoa (n : Int) (h0 : -9223372036854775808 ≤ n) (h1 : n ≤ 9223372036854775807) (w : World) (htab : Lib.TabIs Tryd.prog w "internal/strconv.uint64pow10" .u64 Lib.pow10Tab) :
    Calls Tryd.prog 32 #[.int .i64 n] w fun e w' => e = .returned (.string ⟨(Lib.itoa n).toArray⟩) ∧ ∃ k os, w' = grow (w.drewN k) os := Any.strconv_Itoa Tryd.laysM171 n h0 h1 w htab
end Go.Proofs
namespace Go.Proofs.YtepdkmdcainddaaDoor
open Go Go.Itp
open Go.RowKit (Below)
set_option linter.unusedVariables false
set_option maxRecDepth 100000
theorem own : ownKnob Tryd.prog.godebug = none := by kernel_rfl
theorem mixed : Tryd.prog.follows .mixedOrders = true := by kernel_rfl
def prims0 : List (FuncId × Prim × TypeId) := [(68, .same, 0)]
theorem prims_all : AllPrims Tryd.prog prims0 :=
  ⟨⟨⟨Tryd.f68, Tryd.func68, by kernel_rfl, by kernel_rfl, by kernel_rfl, rfl⟩⟩, trivial⟩
noncomputable abbrev PR (w : World) : FuncId → List Value → St → Option (Value × List Blk) :=
  orElseP (primsOf prims0) (orElseP (itoaP 32) (joinP (oldOf w) 34))
noncomputable abbrev EN (w : World) (n : Nat) : Env := callP (oldOf w) many fns (PR w) n
abbrev Tab (w : World) : Prop := Lib.TabIs Tryd.prog w "internal/strconv.uint64pow10" .u64 Lib.pow10Tab
theorem prims_ok (W : World) (ht : Tab W) : PrimsOK Tryd.prog (PR W) W :=
  orElse_ok (primsOf_ok prims0 prims_all W) (orElse_ok
    (itoaP_ok ⟨Tryd.f32, _, Tryd.func32, rfl, by kernel_rfl⟩ ht Tryd.strconv_Itoa)
    (joinP_ok ⟨Tryd.f34, _, Tryd.func34, rfl, by kernel_rfl⟩ (oldOf_ok W) Tryd.strings_Join_none Tryd.strings_Join))
theorem law_of {W : World} (ht : Tab W) {f : FuncId} {af : AFun} (hf : fns f = some af) {xs : List Value} (hxs : idsL 0 xs = []) (n : Nat) {v : Value} {s' : St} (hb : body (EN W n) af xs St.empty = some (v, s')) (hv : ids 0 v = []) :
    Calls Tryd.prog f xs.toArray W fun e w' => e = .returned v ∧ Below W.heap.size W w' :=
  law_at mixed fns_ok (oldOf_ok W) (prims_ok W ht) hf hxs n hb hv
theorem itoa_s (w : World) (n : Nat) (st : VSt) (k : Int) (h0 : -9223372036854775808 ≤ k) (h1 : k ≤ 9223372036854775807) : VSpecO (EN w (n + 1)) 32 st [.sc (.int .i64 k)] (.sc (.string ⟨(Lib.itoa k).toArray⟩)) :=
  itoa_o h0 h1 fun xs s r h => orElse_right rfl (orElse_left h)
theorem join_s (w : World) (n : Nat) (st : VSt) (s : Nat) (hs : s ≠ 1) (ls : List (List UInt8)) (sep : List UInt8) (hl : ls.length ≤ 1099511627776) (hlen : (Lib.join ls sep).length ≤ 140737488355328) :
    VSpecO (EN w (n + 1)) 34 st [.sl s ls.length (ls.map sD), .sc (.string ⟨sep.toArray⟩)] (.sc (.string ⟨(Lib.join ls sep).toArray⟩)) :=
  join_o s hs ls sep hl hlen fun xs s r h => orElse_right rfl (orElse_right rfl h)
end Go.Proofs.YtepdkmdcainddaaDoor
namespace Go.Proofs.YtepdkmdcainddaaDoor
open Go Go.Itp
set_option maxRecDepth 100000
set_option linter.unusedSimpArgs false
def pegs (l : List Bool) : Nat := l.countP id
theorem pegs_le (l : List Bool) : pegs l ≤ l.length := List.countP_le_length
theorem pegs_take (l : List Bool) (k : Nat) (h : k < l.length) : pegs (l.take (k + 1)) = pegs (l.take k) + (if l[k]! = true then 1 else 0) := by
  unfold pegs
  rw [List.take_succ_eq_append_getElem h, List.countP_append, getElem!_pos l k h]
  simp
def bD (b : Bool) : D := .sc (.bool b)
theorem bD_dv (b : Bool) : dv (bD b) = .sc (.bool b) := (rfl)
theorem pegs_p (w : World) (n : Nat) (s : Nat) (l : List Bool) (hl : l.length ≤ 140737488351232) : VSpec (EN w (n + 1)) 41 [.sl s l.length (l.map bD)] (.sc (.int .i64 (pegs l))) ⟨[], 0, 0⟩ := by
  refine vspec_flat rfl rfl (fun _ _ => rfl) (Nat.le_of_ble_eq_true rfl) (oldVals w) rfl fun C hC h0 => ?_
  simp (disch := first | omega | assumption | exact bd (by with_unfolding_all rfl) | exact Or.inl rfl | exact Or.inl trivial | exact okL_map _ (fun _ => rfl) _ | (simp only [VVlen] <;> omega) | fail) only [VV0, VV1, VV2, VV3, VV4, VV5, VV6, VV7, VV8, VV9, mkFnV, vargs, slotsL, opdsA, Nat.reduceEqDiff, Nat.reduceLT, Nat.reduceAdd, Nat.reduceBEq, Int.reduceAdd, Int.reduceSub, Int.reduceLT, Int.reduceLE, Int.reduceEq, Int.reduceNeg, ↓reduceIte, reduceCtorEq, scL, scD, expand, List.replicate, c41]
  refine g_while (fun m fr st => ∃ k : Nat, m = l.length - k ∧ k ≤ l.length ∧ fr = [(0, .sl s l.length (l.map bD)), (3, .sc (.int .i64 (pegs (l.take k)))), (4, .sc (.int .i64 k))] ∧ st = ⟨[], 0, 0⟩) l.length ?_ ⟨_, _, .refl _ _, 0, ?_⟩ ?_
  · rw [hC, callP_rounds]; unfold many; omega
  · exact ⟨by omega, by omega, rfl, rfl⟩
  · rintro m fr st ⟨k, rfl, hk, rfl, rfl⟩
    by_cases hlt : k < l.length
    · have h1 := pegs_take l k hlt
      have h2 := pegs_le (l.take k)
      rw [List.length_take] at h2
      repeat' (first | (simp (disch := first | omega | assumption | exact bd (by with_unfolding_all rfl) | exact Or.inl rfl | exact Or.inl trivial | exact okL_map _ (fun _ => rfl) _ | (simp only [VVlen] <;> omega) | fail) only [VV0, VV1, VV2, VV3, VV4, VV5, VV6, VV7, VV8, VV9, mkFnV, vargs, slotsL, opdsA, Nat.reduceEqDiff, Nat.reduceLT, Nat.reduceAdd, Nat.reduceBEq, Int.reduceAdd, Int.reduceSub, Int.reduceLT, Int.reduceLE, Int.reduceEq, Int.reduceNeg, ↓reduceIte, reduceCtorEq, scL, scD, expand, List.replicate, c41l0, bD_dv]) | apply gC_drawW | ((first | apply gI_dec | apply gG_dec | apply gPG_dec | apply gI_var | apply gG_var | apply gPG_var) <;> intro _))
      · rename_i hb
        rw [if_pos hb] at h1
        exact ⟨_, _, _, by omega, .refl _ _, k + 1, rfl, hlt, by rw [h1]; simp, rfl⟩
      · rename_i hb
        rw [if_neg (by simp [hb])] at h1
        exact ⟨_, _, _, by omega, .refl _ _, k + 1, rfl, hlt, by rw [h1]; simp, rfl⟩
    · have : k = l.length := by omega
      subst this
      repeat' (first | (simp (disch := first | omega | assumption | exact bd (by with_unfolding_all rfl) | exact Or.inl rfl | exact Or.inl trivial | exact okL_map _ (fun _ => rfl) _ | (simp only [VVlen] <;> omega) | fail) only [VV0, VV1, VV2, VV3, VV4, VV5, VV6, VV7, VV8, VV9, mkFnV, vargs, slotsL, opdsA, Nat.reduceEqDiff, Nat.reduceLT, Nat.reduceAdd, Nat.reduceBEq, Int.reduceAdd, Int.reduceSub, Int.reduceLT, Int.reduceLE, Int.reduceEq, Int.reduceNeg, ↓reduceIte, reduceCtorEq, scL, scD, expand, List.replicate, c41l0, bD_dv]) | apply gC_drawW | ((first | apply gI_dec | apply gG_dec | apply gPG_dec | apply gI_var | apply gG_var | apply gPG_var) <;> intro _))
      rw [List.take_length]
      exact weak_flat rfl h0 rfl
end Go.Proofs.YtepdkmdcainddaaDoor
namespace Go.Proofs.YtepdkmdcainddaaDoor
open Go Go.Itp
set_option maxRecDepth 100000
set_option linter.unusedSimpArgs false
def rowD (s : Nat) (r : List Bool) : D := .sl s r.length (r.map bD)
theorem rowD_dv (s : Nat) (r : List Bool) : dv (rowD s r) = .sl s r.length (r.map bD) := (rfl)
def colOf (V : List (List Bool)) (x : Nat) : List Bool := V.map fun r => r[x]!
theorem colOf_take (V : List (List Bool)) (x k : Nat) (h : k < V.length) : colOf (V.take (k + 1)) x = colOf (V.take k) x ++ [V[k]![x]!] := by
  unfold colOf
  rw [List.take_succ_eq_append_getElem h, List.map_append, getElem!_pos V k h]
  rfl
theorem colOf_len (V : List (List Bool)) (x : Nat) : (colOf V x).length = V.length := by simp [colOf]
end Go.Proofs.YtepdkmdcainddaaDoor
namespace Go.Proofs.YtepdkmdcainddaaDoor
open Go Go.Itp
set_option maxRecDepth 100000
set_option maxHeartbeats 1000000
set_option linter.unusedSimpArgs false
def chkG (a b : Int) (L : Nat) : Int := if 64 < a ∨ 64 < b then 4 else if a < 1 ∨ b < 1 then 8 else if (L : Int) = a * b then 0 else 8
def chkE (a b : Int) (L : Nat) : Int := if chkG a b L = 0 then (if 40 < a then 8 else 0) else chkG a b L
theorem prod_le {a b : Int} (h1 : 1 ≤ a) (h2 : a ≤ 64) (h3 : 1 ≤ b) (h4 : b ≤ 64) : 1 ≤ a * b ∧ a * b ≤ 4096 := by
  have e1 : a * b ≤ 64 * 64 := Int.mul_le_mul h2 h4 (by omega) (by omega)
  have e2 : 1 * 1 ≤ a * b := Int.mul_le_mul h1 h3 (by omega) (by omega)
  omega
abbrev gridV (s : Nat) (a b : Int) (B : List Bool) : V := .agg [.sc (.int .i64 a), .sc (.int .i64 b), .sl s B.length (B.map bD)]
section
variable (w : World) (n : Nat)
theorem check44_p (s : Nat) (a b : Int) (B : List Bool) (_hB : B.length ≤ 140737488351232) : VSpec (EN w (n + 1)) 44 [gridV s a b B] (.sc (.int .i64 (chkG a b B.length))) ⟨[], 0, 0⟩ := by
  refine vspec_flat rfl rfl (fun _ _ => rfl) (Nat.le_of_ble_eq_true rfl) (oldVals w) rfl fun C hC h0 => ?_
  by_cases h1 : 64 < a
  · have e : chkG a b B.length = 4 := if_pos (Or.inl h1)
    rw [e]
    repeat' (first | (simp (disch := first | omega | assumption | exact bd (by with_unfolding_all rfl) | exact Or.inl rfl | exact Or.inl trivial | exact okL_map _ (fun _ => rfl) _ | (simp only [VVlen] <;> omega) | fail) only [VV0, VV1, VV2, VV3, VV4, VV5, VV6, VV7, VV8, VV9, mkFnV, vargs, slotsL, opdsA, Nat.reduceEqDiff, Nat.reduceLT, Nat.reduceAdd, Nat.reduceBEq, Int.reduceAdd, Int.reduceSub, Int.reduceLT, Int.reduceLE, Int.reduceEq, Int.reduceNeg, ↓reduceIte, reduceCtorEq, scL, scD, expand, List.replicate, c44]) | apply gC_drawW | ((first | apply gI_dec | apply gG_dec | apply gPG_dec | apply gI_var | apply gG_var | apply gPG_var) <;> intro _))
    exact weak_flat rfl h0 rfl
  by_cases h2 : 64 < b
  · have e : chkG a b B.length = 4 := if_pos (Or.inr h2)
    rw [e]
    repeat' (first | (simp (disch := first | omega | assumption | exact bd (by with_unfolding_all rfl) | exact Or.inl rfl | exact Or.inl trivial | exact okL_map _ (fun _ => rfl) _ | (simp only [VVlen] <;> omega) | fail) only [VV0, VV1, VV2, VV3, VV4, VV5, VV6, VV7, VV8, VV9, mkFnV, vargs, slotsL, opdsA, Nat.reduceEqDiff, Nat.reduceLT, Nat.reduceAdd, Nat.reduceBEq, Int.reduceAdd, Int.reduceSub, Int.reduceLT, Int.reduceLE, Int.reduceEq, Int.reduceNeg, ↓reduceIte, reduceCtorEq, scL, scD, expand, List.replicate, c44]) | apply gC_drawW | ((first | apply gI_dec | apply gG_dec | apply gPG_dec | apply gI_var | apply gG_var | apply gPG_var) <;> intro _))
    exact weak_flat rfl h0 rfl
  by_cases h3 : a < 1
  · have e : chkG a b B.length = 8 := by unfold chkG; rw [if_neg (by omega), if_pos (Or.inl h3)]
    rw [e]
    repeat' (first | (simp (disch := first | omega | assumption | exact bd (by with_unfolding_all rfl) | exact Or.inl rfl | exact Or.inl trivial | exact okL_map _ (fun _ => rfl) _ | (simp only [VVlen] <;> omega) | fail) only [VV0, VV1, VV2, VV3, VV4, VV5, VV6, VV7, VV8, VV9, mkFnV, vargs, slotsL, opdsA, Nat.reduceEqDiff, Nat.reduceLT, Nat.reduceAdd, Nat.reduceBEq, Int.reduceAdd, Int.reduceSub, Int.reduceLT, Int.reduceLE, Int.reduceEq, Int.reduceNeg, ↓reduceIte, reduceCtorEq, scL, scD, expand, List.replicate, c44]) | apply gC_drawW | ((first | apply gI_dec | apply gG_dec | apply gPG_dec | apply gI_var | apply gG_var | apply gPG_var) <;> intro _))
    exact weak_flat rfl h0 rfl
  by_cases h4 : b < 1
  · have e : chkG a b B.length = 8 := by unfold chkG; rw [if_neg (by omega), if_pos (Or.inr h4)]
    rw [e]
    repeat' (first | (simp (disch := first | omega | assumption | exact bd (by with_unfolding_all rfl) | exact Or.inl rfl | exact Or.inl trivial | exact okL_map _ (fun _ => rfl) _ | (simp only [VVlen] <;> omega) | fail) only [VV0, VV1, VV2, VV3, VV4, VV5, VV6, VV7, VV8, VV9, mkFnV, vargs, slotsL, opdsA, Nat.reduceEqDiff, Nat.reduceLT, Nat.reduceAdd, Nat.reduceBEq, Int.reduceAdd, Int.reduceSub, Int.reduceLT, Int.reduceLE, Int.reduceEq, Int.reduceNeg, ↓reduceIte, reduceCtorEq, scL, scD, expand, List.replicate, c44]) | apply gC_drawW | ((first | apply gI_dec | apply gG_dec | apply gPG_dec | apply gI_var | apply gG_var | apply gPG_var) <;> intro _))
    exact weak_flat rfl h0 rfl
  have hp := prod_le (a := a) (b := b) (by omega) (by omega) (by omega) (by omega)
  have e : chkG a b B.length = if (B.length : Int) = a * b then 0 else 8 := by unfold chkG; rw [if_neg (by omega), if_neg (by omega)]
  rw [e]
  by_cases h5 : (B.length : Int) = a * b
  · rw [if_pos h5]
    repeat' (first | (simp (disch := first | omega | assumption | exact bd (by with_unfolding_all rfl) | exact Or.inl rfl | exact Or.inl trivial | exact okL_map _ (fun _ => rfl) _ | (simp only [VVlen] <;> omega) | fail) only [VV0, VV1, VV2, VV3, VV4, VV5, VV6, VV7, VV8, VV9, mkFnV, vargs, slotsL, opdsA, Nat.reduceEqDiff, Nat.reduceLT, Nat.reduceAdd, Nat.reduceBEq, Int.reduceAdd, Int.reduceSub, Int.reduceLT, Int.reduceLE, Int.reduceEq, Int.reduceNeg, ↓reduceIte, reduceCtorEq, scL, scD, expand, List.replicate, c44]) | apply gC_drawW | ((first | apply gI_dec | apply gG_dec | apply gPG_dec | apply gI_var | apply gG_var | apply gPG_var) <;> intro _))
    exact weak_flat rfl h0 rfl
  · rw [if_neg h5]
    repeat' (first | (simp (disch := first | omega | assumption | exact bd (by with_unfolding_all rfl) | exact Or.inl rfl | exact Or.inl trivial | exact okL_map _ (fun _ => rfl) _ | (simp only [VVlen] <;> omega) | fail) only [VV0, VV1, VV2, VV3, VV4, VV5, VV6, VV7, VV8, VV9, mkFnV, vargs, slotsL, opdsA, Nat.reduceEqDiff, Nat.reduceLT, Nat.reduceAdd, Nat.reduceBEq, Int.reduceAdd, Int.reduceSub, Int.reduceLT, Int.reduceLE, Int.reduceEq, Int.reduceNeg, ↓reduceIte, reduceCtorEq, scL, scD, expand, List.replicate, c44]) | apply gC_drawW | ((first | apply gI_dec | apply gG_dec | apply gPG_dec | apply gI_var | apply gG_var | apply gPG_var) <;> intro _))
    exact weak_flat rfl h0 rfl
theorem pcheck16_p (s : Nat) (a b : Int) (B : List Bool) (hB : B.length ≤ 140737488351232) : VSpec (EN w (n + 2)) 16 [gridV s a b B] (.sc (.int .i64 (chkE a b B.length))) ⟨[], 0, 0⟩ := by
  refine vspec_flat rfl rfl (fun _ _ => rfl) (Nat.le_of_ble_eq_true rfl) (oldVals w) rfl fun C hC h0 => ?_
  have hc := fun st => (check44_p w n s a b B hB).of hC rfl st rfl
  repeat' (first | (simp (disch := first | omega | assumption | exact bd (by with_unfolding_all rfl) | exact Or.inl rfl | exact Or.inl trivial | exact okL_map _ (fun _ => rfl) _ | (simp only [VVlen] <;> omega) | fail) only [VV0, VV1, VV2, VV3, VV4, VV5, VV6, VV7, VV8, VV9, mkFnV, vargs, slotsL, opdsA, Nat.reduceEqDiff, Nat.reduceLT, Nat.reduceAdd, Nat.reduceBEq, Int.reduceAdd, Int.reduceSub, Int.reduceLT, Int.reduceLE, Int.reduceEq, Int.reduceNeg, ↓reduceIte, reduceCtorEq, scL, scD, expand, List.replicate, c16]) | apply gC_drawW | ((first | apply gI_dec | apply gG_dec | apply gPG_dec | apply gI_var | apply gG_var | apply gPG_var) <;> intro _))
  refine callV_flat (hc _) ?_
  have key : chkE a b B.length = if chkG a b B.length = 0 then (if 40 < a then 8 else 0) else chkG a b B.length := rfl
  repeat' (first | (simp (disch := first | omega | assumption | exact bd (by with_unfolding_all rfl) | exact Or.inl rfl | exact Or.inl trivial | exact okL_map _ (fun _ => rfl) _ | (simp only [VVlen] <;> omega) | fail) only [VV0, VV1, VV2, VV3, VV4, VV5, VV6, VV7, VV8, VV9, mkFnV, vargs, slotsL, opdsA, Nat.reduceEqDiff, Nat.reduceLT, Nat.reduceAdd, Nat.reduceBEq, Int.reduceAdd, Int.reduceSub, Int.reduceLT, Int.reduceLE, Int.reduceEq, Int.reduceNeg, ↓reduceIte, reduceCtorEq, scL, scD, expand, List.replicate]) | apply gC_drawW | ((first | apply gI_dec | apply gG_dec | apply gPG_dec | apply gI_var | apply gG_var | apply gPG_var) <;> intro _))
  · rename_i h1
    refine callV_flat (hc _) ?_
    rw [if_neg h1] at key
    rw [key]
    repeat' (first | (simp (disch := first | omega | assumption | exact bd (by with_unfolding_all rfl) | exact Or.inl rfl | exact Or.inl trivial | exact okL_map _ (fun _ => rfl) _ | (simp only [VVlen] <;> omega) | fail) only [VV0, VV1, VV2, VV3, VV4, VV5, VV6, VV7, VV8, VV9, mkFnV, vargs, slotsL, opdsA, Nat.reduceEqDiff, Nat.reduceLT, Nat.reduceAdd, Nat.reduceBEq, Int.reduceAdd, Int.reduceSub, Int.reduceLT, Int.reduceLE, Int.reduceEq, Int.reduceNeg, ↓reduceIte, reduceCtorEq, scL, scD, expand, List.replicate]) | apply gC_drawW | ((first | apply gI_dec | apply gG_dec | apply gPG_dec | apply gI_var | apply gG_var | apply gPG_var) <;> intro _))
    exact weak_flat rfl h0 rfl
  · rename_i h1 h2
    rw [if_pos (Classical.not_not.1 h1), if_pos h2] at key
    rw [key]
    exact weak_flat rfl h0 rfl
  · rename_i h1 h2
    rw [if_pos (Classical.not_not.1 h1), if_neg h2] at key
    rw [key]
    exact weak_flat rfl h0 rfl
end
end Go.Proofs.YtepdkmdcainddaaDoor
namespace Go.Proofs.YtepdkmdcainddaaDoor
open Go Go.Itp
set_option maxRecDepth 100000
set_option maxHeartbeats 1000000
set_option linter.unusedSimpArgs false
def oddTo (p : Nat → Bool) : Nat → Bool
  | 0 => false
  | n + 1 => oddTo p n != p n
section
variable (w : World) (n : Nat)
theorem odd_p (st : VSt) (N : Nat) (hN : N ≤ 140737488351232) (f : FuncId) (caps : List V) (F : Nat → Bool) (h : ∀ i : Nat, i < N → VSpecO (EN w n) f st (.sc (.int .i64 i) :: caps) (.sc (.bool (F i)))) :
    VSpecO (EN w (n + 1)) 38 st [.sc (.int .i64 N), .fn f [] caps] (.sc (.bool (oddTo F N))) := by
  refine vspecO_g rfl rfl (fun _ _ => rfl) (Nat.le_of_ble_eq_true rfl) rfl fun C hC h0 => ⟨⟨st.own, st.next, st.next⟩, ?_⟩
  simp (disch := first | omega | assumption | exact bd (by with_unfolding_all rfl) | exact Or.inl rfl | exact Or.inl trivial | exact okL_map _ (fun _ => rfl) _ | (simp only [VVlen] <;> omega) | fail) only [VV0, VV1, VV2, VV3, VV4, VV5, VV6, VV7, VV8, VV9, mkFnV, vargs, slotsL, opdsA, Nat.reduceEqDiff, Nat.reduceLT, Nat.reduceAdd, Nat.reduceBEq, Int.reduceAdd, Int.reduceSub, Int.reduceLT, Int.reduceLE, Int.reduceEq, Int.reduceNeg, ↓reduceIte, reduceCtorEq, scL, scD, expand, List.replicate, c38]
  refine g_while (fun m fr t => ∃ k : Nat, m = N - k ∧ k ≤ N ∧ fr = [(1, .fn f [] caps), (5, .sc (.bool (oddTo F k))), (7, .sc (.int .i64 N)), (8, .sc (.int .i64 k))] ∧ t = ⟨st.own, st.next, st.next⟩) N ?_ ⟨_, _, .refl _ _, 0, ?_⟩ ?_
  · rw [hC, callP_rounds]; unfold many; omega
  · exact ⟨by omega, by omega, rfl, rfl⟩
  · rintro m fr t ⟨k, rfl, hk, rfl, rfl⟩
    by_cases hlt : k < N
    · repeat' (first | (simp (disch := first | omega | assumption | exact bd (by with_unfolding_all rfl) | exact Or.inl rfl | exact Or.inl trivial | exact okL_map _ (fun _ => rfl) _ | (simp only [VVlen] <;> omega) | fail) only [VV0, VV1, VV2, VV3, VV4, VV5, VV6, VV7, VV8, VV9, mkFnV, vargs, slotsL, opdsA, Nat.reduceEqDiff, Nat.reduceLT, Nat.reduceAdd, Nat.reduceBEq, Int.reduceAdd, Int.reduceSub, Int.reduceLT, Int.reduceLE, Int.reduceEq, Int.reduceNeg, ↓reduceIte, reduceCtorEq, scL, scD, expand, List.replicate, c38l0]) | apply gC_drawW | ((first | apply gI_dec | apply gG_dec | apply gPG_dec | apply gI_var | apply gG_var | apply gPG_var) <;> intro _))
      refine callV_flat (v := .sc (.bool (F k))) (by rw [hC]; exact h k hlt) ?_
      repeat' (first | (simp (disch := first | omega | assumption | exact bd (by with_unfolding_all rfl) | exact Or.inl rfl | exact Or.inl trivial | exact okL_map _ (fun _ => rfl) _ | (simp only [VVlen] <;> omega) | fail) only [VV0, VV1, VV2, VV3, VV4, VV5, VV6, VV7, VV8, VV9, mkFnV, vargs, slotsL, opdsA, Nat.reduceEqDiff, Nat.reduceLT, Nat.reduceAdd, Nat.reduceBEq, Int.reduceAdd, Int.reduceSub, Int.reduceLT, Int.reduceLE, Int.reduceEq, Int.reduceNeg, ↓reduceIte, reduceCtorEq, scL, scD, expand, List.replicate, eqBV]) | apply gC_drawW | ((first | apply gI_dec | apply gG_dec | apply gPG_dec | apply gI_var | apply gG_var | apply gPG_var) <;> intro _))
      exact ⟨_, _, _, by omega, .refl _ _, k + 1, rfl, hlt, by simp [oddTo, bne], rfl⟩
    · have : k = N := by omega
      subst this
      repeat' (first | (simp (disch := first | omega | assumption | exact bd (by with_unfolding_all rfl) | exact Or.inl rfl | exact Or.inl trivial | exact okL_map _ (fun _ => rfl) _ | (simp only [VVlen] <;> omega) | fail) only [VV0, VV1, VV2, VV3, VV4, VV5, VV6, VV7, VV8, VV9, mkFnV, vargs, slotsL, opdsA, Nat.reduceEqDiff, Nat.reduceLT, Nat.reduceAdd, Nat.reduceBEq, Int.reduceAdd, Int.reduceSub, Int.reduceLT, Int.reduceLE, Int.reduceEq, Int.reduceNeg, ↓reduceIte, reduceCtorEq, scL, scD, expand, List.replicate, c38l0]) | apply gC_drawW | ((first | apply gI_dec | apply gG_dec | apply gPG_dec | apply gI_var | apply gG_var | apply gPG_var) <;> intro _))
      exact .refl _ _
theorem enc1_p (st : VSt) (o o2 t e t' e' c : Nat) (g z : Bool) (r : List Bool) (h1 : aget st.own o = some (.box t e [.ref o2 0 r.length c])) (h2 : aget st.own o2 = some (.row t' e' g z (r.map bD))) (i : Nat) (hi : i < r.length) :
    VSpecO (EN w (n + 1)) 39 st [.sc (.int .i64 i), .ptr o 0] (.sc (.bool r[i]!)) := by
  refine vspecO_g rfl rfl (fun _ _ => rfl) (Nat.le_of_ble_eq_true rfl) rfl fun C hC h0 => ⟨⟨st.own, st.next, st.next⟩, ?_⟩
  repeat' (first | (simp (disch := first | omega | assumption | exact bd (by with_unfolding_all rfl) | exact Or.inl rfl | exact Or.inl trivial | exact okL_map _ (fun _ => rfl) _ | (simp only [VVlen] <;> omega) | fail) only [VV0, VV1, VV2, VV3, VV4, VV5, VV6, VV7, VV8, VV9, mkFnV, vargs, slotsL, opdsA, Nat.reduceEqDiff, Nat.reduceLT, Nat.reduceAdd, Nat.reduceBEq, Int.reduceAdd, Int.reduceSub, Int.reduceLT, Int.reduceLE, Int.reduceEq, Int.reduceNeg, ↓reduceIte, reduceCtorEq, scL, scD, expand, List.replicate, c39, h1, h2, bD_dv]) | apply gC_drawW | ((first | apply gI_dec | apply gG_dec | apply gPG_dec | apply gI_var | apply gG_var | apply gPG_var) <;> intro _))
  exact .refl _ _
theorem enc2_p (st : VSt) (o o2 o3 t e t' e' t2 e2 s : Nat) (z : Bool) (q x : Int) (V : List (List Bool)) (h1 : aget st.own o = some (.box t e [.sc (.int .i64 q), .gr 2 o2 V.length])) (h2 : aget st.own o2 = some (.gro t' e' z (V.map (rowD s)))) (h3 : aget st.own o3 = some (.box t2 e2 [.sc (.int .i64 x)]))
    (i : Nat) (hi : i < V.length) (hx : 0 ≤ x) (hx2 : x < V[i]!.length) :
    VSpecO (EN w (n + 1)) 40 st [.sc (.int .i64 i), .ptr o 0, .ptr o3 0] (.sc (.bool V[i]![x.toNat]!)) := by
  refine vspecO_g rfl rfl (fun _ _ => rfl) (Nat.le_of_ble_eq_true rfl) rfl fun C hC h0 => ⟨⟨st.own, st.next, st.next⟩, ?_⟩
  repeat' (first | (simp (disch := first | omega | assumption | exact bd (by with_unfolding_all rfl) | exact Or.inl rfl | exact Or.inl trivial | exact okL_map _ (fun _ => rfl) _ | (simp only [VVlen] <;> omega) | fail) only [VV0, VV1, VV2, VV3, VV4, VV5, VV6, VV7, VV8, VV9, mkFnV, vargs, slotsL, opdsA, Nat.reduceEqDiff, Nat.reduceLT, Nat.reduceAdd, Nat.reduceBEq, Int.reduceAdd, Int.reduceSub, Int.reduceLT, Int.reduceLE, Int.reduceEq, Int.reduceNeg, ↓reduceIte, reduceCtorEq, scL, scD, expand, List.replicate, c40, h1, h2, h3, bD_dv, rowD_dv]) | apply gC_drawW | ((first | apply gI_dec | apply gG_dec | apply gPG_dec | apply gI_var | apply gG_var | apply gPG_var) <;> intro _))
  exact .refl _ _
end
end Go.Proofs.YtepdkmdcainddaaDoor
namespace Go.Proofs.YtepdkmdcainddaaDoor
open Go Go.Itp
set_option maxRecDepth 100000
set_option maxHeartbeats 1000000
set_option linter.unusedSimpArgs false
section
variable (w : World) (n : Nat)
theorem gcheck_p (s : Nat) (a b : Int) (B : List Bool) (_hB : B.length ≤ 140737488351232) : VSpec (EN w (n + 1)) 43 [gridV s a b B] (.sc (.int .i64 (chkG a b B.length))) ⟨[], 0, 0⟩ := by
  refine vspec_flat rfl rfl (fun _ _ => rfl) (Nat.le_of_ble_eq_true rfl) (oldVals w) rfl fun C hC h0 => ?_
  by_cases h1 : 64 < a ∨ 64 < b
  · have e : chkG a b B.length = 4 := if_pos h1
    rw [e]
    repeat' (first | (simp (disch := first | omega | assumption | exact bd (by with_unfolding_all rfl) | exact Or.inl rfl | exact Or.inl trivial | exact okL_map _ (fun _ => rfl) _ | (simp only [VVlen] <;> omega) | fail) only [VV0, VV1, VV2, VV3, VV4, VV5, VV6, VV7, VV8, VV9, mkFnV, vargs, slotsL, opdsA, Nat.reduceEqDiff, Nat.reduceLT, Nat.reduceAdd, Nat.reduceBEq, Int.reduceAdd, Int.reduceSub, Int.reduceLT, Int.reduceLE, Int.reduceEq, Int.reduceNeg, ↓reduceIte, reduceCtorEq, scL, scD, expand, List.replicate, c43]) | apply gC_drawW | ((first | apply gI_dec | apply gG_dec | apply gPG_dec | apply gI_var | apply gG_var | apply gPG_var) <;> intro _))
    exact weak_flat rfl h0 rfl
  by_cases h2 : a < 1 ∨ b < 1
  · have e : chkG a b B.length = 8 := by unfold chkG; rw [if_neg h1, if_pos h2]
    rw [e]
    repeat' (first | (simp (disch := first | omega | assumption | exact bd (by with_unfolding_all rfl) | exact Or.inl rfl | exact Or.inl trivial | exact okL_map _ (fun _ => rfl) _ | (simp only [VVlen] <;> omega) | fail) only [VV0, VV1, VV2, VV3, VV4, VV5, VV6, VV7, VV8, VV9, mkFnV, vargs, slotsL, opdsA, Nat.reduceEqDiff, Nat.reduceLT, Nat.reduceAdd, Nat.reduceBEq, Int.reduceAdd, Int.reduceSub, Int.reduceLT, Int.reduceLE, Int.reduceEq, Int.reduceNeg, ↓reduceIte, reduceCtorEq, scL, scD, expand, List.replicate, c43]) | apply gC_drawW | ((first | apply gI_dec | apply gG_dec | apply gPG_dec | apply gI_var | apply gG_var | apply gPG_var) <;> intro _))
    exact weak_flat rfl h0 rfl
  have hp := prod_le (a := a) (b := b) (by omega) (by omega) (by omega) (by omega)
  have e : chkG a b B.length = if (B.length : Int) = a * b then 0 else 8 := by unfold chkG; rw [if_neg h1, if_neg h2]
  rw [e]
  by_cases h5 : (B.length : Int) = a * b
  · rw [if_pos h5]
    repeat' (first | (simp (disch := first | omega | assumption | exact bd (by with_unfolding_all rfl) | exact Or.inl rfl | exact Or.inl trivial | exact okL_map _ (fun _ => rfl) _ | (simp only [VVlen] <;> omega) | fail) only [VV0, VV1, VV2, VV3, VV4, VV5, VV6, VV7, VV8, VV9, mkFnV, vargs, slotsL, opdsA, Nat.reduceEqDiff, Nat.reduceLT, Nat.reduceAdd, Nat.reduceBEq, Int.reduceAdd, Int.reduceSub, Int.reduceLT, Int.reduceLE, Int.reduceEq, Int.reduceNeg, ↓reduceIte, reduceCtorEq, scL, scD, expand, List.replicate, c43]) | apply gC_drawW | ((first | apply gI_dec | apply gG_dec | apply gPG_dec | apply gI_var | apply gG_var | apply gPG_var) <;> intro _))
    exact weak_flat rfl h0 rfl
  · rw [if_neg h5]
    repeat' (first | (simp (disch := first | omega | assumption | exact bd (by with_unfolding_all rfl) | exact Or.inl rfl | exact Or.inl trivial | exact okL_map _ (fun _ => rfl) _ | (simp only [VVlen] <;> omega) | fail) only [VV0, VV1, VV2, VV3, VV4, VV5, VV6, VV7, VV8, VV9, mkFnV, vargs, slotsL, opdsA, Nat.reduceEqDiff, Nat.reduceLT, Nat.reduceAdd, Nat.reduceBEq, Int.reduceAdd, Int.reduceSub, Int.reduceLT, Int.reduceLE, Int.reduceEq, Int.reduceNeg, ↓reduceIte, reduceCtorEq, scL, scD, expand, List.replicate, c43]) | apply gC_drawW | ((first | apply gI_dec | apply gG_dec | apply gPG_dec | apply gI_var | apply gG_var | apply gPG_var) <;> intro _))
    exact weak_flat rfl h0 rfl
theorem pcheck_p (s : Nat) (a b : Int) (B : List Bool) (hB : B.length ≤ 140737488351232) : VSpec (EN w (n + 2)) 15 [gridV s a b B] (.sc (.int .i64 (chkE a b B.length))) ⟨[], 0, 0⟩ := by
  refine vspec_flat rfl rfl (fun _ _ => rfl) (Nat.le_of_ble_eq_true rfl) (oldVals w) rfl fun C hC h0 => ?_
  have hc := fun st => (gcheck_p w n s a b B hB).of hC rfl st rfl
  repeat' (first | (simp (disch := first | omega | assumption | exact bd (by with_unfolding_all rfl) | exact Or.inl rfl | exact Or.inl trivial | exact okL_map _ (fun _ => rfl) _ | (simp only [VVlen] <;> omega) | fail) only [VV0, VV1, VV2, VV3, VV4, VV5, VV6, VV7, VV8, VV9, mkFnV, vargs, slotsL, opdsA, Nat.reduceEqDiff, Nat.reduceLT, Nat.reduceAdd, Nat.reduceBEq, Int.reduceAdd, Int.reduceSub, Int.reduceLT, Int.reduceLE, Int.reduceEq, Int.reduceNeg, ↓reduceIte, reduceCtorEq, scL, scD, expand, List.replicate, c15]) | apply gC_drawW | ((first | apply gI_dec | apply gG_dec | apply gPG_dec | apply gI_var | apply gG_var | apply gPG_var) <;> intro _))
  refine callV_flat (hc _) ?_
  have key : chkE a b B.length = if chkG a b B.length = 0 then (if 40 < a then 8 else 0) else chkG a b B.length := rfl
  repeat' (first | (simp (disch := first | omega | assumption | exact bd (by with_unfolding_all rfl) | exact Or.inl rfl | exact Or.inl trivial | exact okL_map _ (fun _ => rfl) _ | (simp only [VVlen] <;> omega) | fail) only [VV0, VV1, VV2, VV3, VV4, VV5, VV6, VV7, VV8, VV9, mkFnV, vargs, slotsL, opdsA, Nat.reduceEqDiff, Nat.reduceLT, Nat.reduceAdd, Nat.reduceBEq, Int.reduceAdd, Int.reduceSub, Int.reduceLT, Int.reduceLE, Int.reduceEq, Int.reduceNeg, ↓reduceIte, reduceCtorEq, scL, scD, expand, List.replicate]) | apply gC_drawW | ((first | apply gI_dec | apply gG_dec | apply gPG_dec | apply gI_var | apply gG_var | apply gPG_var) <;> intro _))
  · rename_i h1
    rw [if_neg h1] at key
    rw [key]
    exact weak_flat rfl h0 rfl
  · rename_i h1 h2
    rw [if_pos (Classical.not_not.1 h1), if_pos h2] at key
    rw [key]
    exact weak_flat rfl h0 rfl
  · rename_i h1 h2
    rw [if_pos (Classical.not_not.1 h1), if_neg h2] at key
    rw [key]
    exact weak_flat rfl h0 rfl
end
end Go.Proofs.YtepdkmdcainddaaDoor
namespace Go.Proofs.YtepdkmdcainddaaDoor
open Go Go.Itp
set_option maxRecDepth 100000
set_option maxHeartbeats 1000000
set_option linter.unusedSimpArgs false
def bitsRow (B : List Bool) (Q k : Nat) : List Bool := (List.range Q).map fun x => B[k * Q + x]!
def fullRow (B : List Bool) (Q k : Nat) : List Bool := bitsRow B Q k ++ [oddTo (fun x => (bitsRow B Q k ++ [false])[x]!) Q]
theorem bitsRow_len (B : List Bool) (Q k : Nat) : (bitsRow B Q k).length = Q := by simp [bitsRow]
theorem part_row (B : List Bool) (Q k : Nat) (h : (k + 1) * Q ≤ B.length) : (B.drop (k * Q)).take Q = bitsRow B Q k := by
  have hm : (k + 1) * Q = k * Q + Q := Nat.succ_mul k Q
  refine List.ext_getElem ?_ fun i h1 h2 => ?_
  · rw [List.length_take, List.length_drop, bitsRow_len]; omega
  · rw [bitsRow_len] at h2
    simp only [bitsRow, List.getElem_drop, List.getElem_take, List.getElem_map, List.getElem_range]
    rw [getElem!_pos B (k * Q + i) (by omega)]
theorem fullRow_len (B : List Bool) (Q k : Nat) : (fullRow B Q k).length = Q + 1 := by simp [fullRow, bitsRow_len]
theorem set_full (B : List Bool) (Q k : Nat) : (bitsRow B Q k ++ [false]).set Q (oddTo (fun x => (bitsRow B Q k ++ [false])[x]!) Q) = fullRow B Q k := by
  rw [List.set_append_right _ _ (by rw [bitsRow_len]; exact Nat.le_refl _), bitsRow_len, Nat.sub_self]
  rfl
def encRows (B : List Bool) (Q K : Nat) : List (List Bool) := (List.range K).map (fullRow B Q)
def colV (B : List Bool) (Q K x : Nat) : Bool := oddTo (fun y => (encRows B Q K)[y]![x]!) K
def lastTo (B : List Bool) (Q K x : Nat) : List Bool := (List.range x).map (colV B Q K) ++ List.replicate (Q + 1 - x) false
theorem lastTo_len (B : List Bool) (Q K x : Nat) (h : x ≤ Q + 1) : (lastTo B Q K x).length = Q + 1 := by simp [lastTo]; omega
theorem lastTo_set (B : List Bool) (Q K x : Nat) (h : x < Q + 1) : (lastTo B Q K x).set x (colV B Q K x) = lastTo B Q K (x + 1) := by
  unfold lastTo
  rw [List.set_append_right _ _ (by simp), List.length_map, List.length_range, Nat.sub_self, show Q + 1 - x = (Q + 1 - (x + 1)) + 1 by omega, List.replicate_succ, List.range_succ, List.map_append]
  simp
def encV (B : List Bool) (Q K : Nat) : List (List Bool) := encRows B Q K ++ [lastTo B Q K (Q + 1)]
theorem encRows_len (B : List Bool) (Q K : Nat) : (encRows B Q K).length = K := by simp [encRows]
theorem encRows_row (B : List Bool) (Q K k : Nat) (hk : k < K) : ((encRows B Q K)[k]!).length = Q + 1 := by
  rw [getElem!_pos _ k (by rw [encRows_len]; exact hk)]
  simp [encRows, fullRow_len]
theorem encV_len (B : List Bool) (Q K : Nat) : (encV B Q K).length = K + 1 := by simp [encV, encRows_len]
section
variable (w : World) (n : Nat)
theorem encode_p (s : Nat) (Q K : Nat) (B : List Bool) (hfit : chkE Q K B.length = 0) (hQ : 1 ≤ Q ∧ Q ≤ 40) (hK : 1 ≤ K ∧ K ≤ 64) (hL : B.length = Q * K) :
    VSpec (EN w (n + 4)) 13 [gridV s Q K B] (.tup [.agg [.sc (.int .i64 Q), .sl 3 (K + 1) ((encV B Q K).map (rowD 0))], .sc (.int .i64 0)]) ⟨[], 0, 0⟩ := by
  refine vspec_g rfl rfl (fun _ _ => rfl) (Nat.le_of_ble_eq_true rfl) (oldVals w) retOK_finA2 rfl fun C hC h0 => ?_
  have hB1 : B.length ≤ 2560 := by rw [hL]; exact Nat.mul_le_mul hQ.2 hK.2
  have hc := fun st => (pcheck_p w (n + 1) s Q K B (by omega)).of hC rfl st rfl
  rw [hfit] at hc
  repeat' (first | (simp (disch := first | omega | assumption | exact bd (by with_unfolding_all rfl) | exact Or.inl rfl | exact Or.inl trivial | exact okL_map _ (fun _ => rfl) _ | (simp only [VVlen] <;> omega) | fail) only [VV0, VV1, VV2, VV3, VV4, VV5, VV6, VV7, VV8, VV9, mkFnV, vargs, slotsL, opdsA, Nat.reduceEqDiff, Nat.reduceLT, Nat.reduceAdd, Nat.reduceBEq, Int.reduceAdd, Int.reduceSub, Int.reduceLT, Int.reduceLE, Int.reduceEq, Int.reduceNeg, ↓reduceIte, reduceCtorEq, scL, scD, expand, List.replicate, c13]) | apply gC_drawW | ((first | apply gI_dec | apply gG_dec | apply gPG_dec | apply gI_var | apply gG_var | apply gPG_var) <;> intro _))
  refine callV_flat (hc _) ?_
  repeat' (first | (simp (disch := first | omega | assumption | exact bd (by with_unfolding_all rfl) | exact Or.inl rfl | exact Or.inl trivial | exact okL_map _ (fun _ => rfl) _ | (simp only [VVlen] <;> omega) | fail) only [VV0, VV1, VV2, VV3, VV4, VV5, VV6, VV7, VV8, VV9, mkFnV, vargs, slotsL, opdsA, Nat.reduceEqDiff, Nat.reduceLT, Nat.reduceAdd, Nat.reduceBEq, Int.reduceAdd, Int.reduceSub, Int.reduceLT, Int.reduceLE, Int.reduceEq, Int.reduceNeg, ↓reduceIte, reduceCtorEq, scL, scD, expand, List.replicate]) | apply gC_drawW | ((first | apply gI_dec | apply gG_dec | apply gPG_dec | apply gI_var | apply gG_var | apply gPG_var) <;> intro _))
  refine g_while (fun m fr st => ∃ k : Nat, m = K - k ∧ k ≤ K ∧ fr = [(1, .ptr 0 0), (2, .ptr 1 0), (5, .ptr 2 0), (20, .sc (.int .i64 K)), (21, .sc (.int .i64 k))] ∧
    st = ⟨[(3, .gro 22 1 false ((encRows B Q k).map (rowD 0))), (2, .box 34 1 [.sc (.int .i64 Q), .gr 2 3 k]), (1, .box 34 1 [.sc (.int .i64 0), .sc (.slice none 0 0)]), (0, .box 24 1 [.sc (.int .i64 Q), .sc (.int .i64 K), .sl s B.length (B.map bD)])], 4, 0⟩) K ?_ ⟨_, _, weak_nilCell (l := [.sc (.int .i64 Q), .sc (.slice none 0 0)]) 2 34 1 1 22 1 ?_ rfl ?_, 0, ?_⟩ ?_
  · rw [hC, callP_rounds]; unfold many; omega
  · rfl
  · exact Nat.ne_of_beq_eq_false rfl
  · exact ⟨by omega, by omega, rfl, rfl⟩
  · rintro m fr st ⟨k, rfl, hk, rfl, rfl⟩
    by_cases hlt : k < K
    · have hkQ : k * Q + Q ≤ B.length := by
        rw [hL, Nat.mul_comm Q K, ← Nat.succ_mul]; exact Nat.mul_le_mul_right Q hlt
      obtain ⟨P, hP⟩ : ∃ P, P = k * Q := ⟨_, rfl⟩
      have hP1 : (k : Int) * (Q : Int) = (P : Int) := by rw [hP]; simp
      have hP2 : ((k : Int) + 1) * (Q : Int) = ((P + Q : Nat) : Int) := by rw [hP, Int.add_mul]; simp
      have hPB : P + Q ≤ B.length := by omega
      have hQn : ((Q : Int) + 1).toNat = Q + 1 := by omega
      repeat' (first | (simp (disch := first | omega | assumption | exact bd (by with_unfolding_all rfl) | exact Or.inl rfl | exact Or.inl trivial | exact okL_map _ (fun _ => rfl) _ | (simp only [VVlen] <;> omega) | fail) only [VV0, VV1, VV2, VV3, VV4, VV5, VV6, VV7, VV8, VV9, mkFnV, vargs, slotsL, opdsA, Nat.reduceEqDiff, Nat.reduceLT, Nat.reduceAdd, Nat.reduceBEq, Int.reduceAdd, Int.reduceSub, Int.reduceLT, Int.reduceLE, Int.reduceEq, Int.reduceNeg, ↓reduceIte, reduceCtorEq, scL, scD, expand, List.replicate, c13l1, hQn, hP1, hP2, bD_dv, rowD_dv]) | apply gC_drawW | ((first | apply gI_dec | apply gG_dec | apply gPG_dec | apply gI_var | apply gG_var | apply gPG_var) <;> intro _))
      have e1 : P + Q - P = Q := by omega
      have e2 : List.take Q (List.drop P B) = bitsRow B Q k := by rw [hP]; exact part_row B Q k (by rw [Nat.succ_mul]; exact hkQ)
      have e0 := bitsRow_len B Q k
      have hel := encRows_len B Q k
      have e3 : ((bitsRow B Q k).map bD).length = Q := by rw [List.length_map, bitsRow_len]
      have e4 : ((bitsRow B Q k).map bD) ++ (D.sc (Value.bool false) :: List.replicate Q (D.sc (Value.bool false))).drop ((bitsRow B Q k).map bD).length = (bitsRow B Q k ++ [false]).map bD := by
        rw [e3, ← List.replicate_succ, List.drop_replicate, show Q + 1 - Q = 1 by omega, List.map_append]
        rfl
      have e5 : (bitsRow B Q k ++ [false]).length = Q + 1 := by simp [bitsRow_len]
      rw [e1, e2]
      refine gS_copy _ 6 0 1 4 (Q + 1) _ _ _ _ _ _ (by
        rw [srcOf_sl _ _ _ _ _ (by omega)]
        exact copyF_eq _ 6 0 1 4 (Q + 1) _ 1 Q _ (D.sc (Value.bool false) :: List.replicate Q (D.sc (Value.bool false))) ((bitsRow B Q k).map bD) (by omega) (by omega) (okL_map _ (fun _ => rfl) _) (by simp only [List.length_cons, List.length_replicate]; omega)) ?_
      rw [e4]
      repeat' (first | (simp (disch := first | omega | assumption | exact bd (by with_unfolding_all rfl) | exact Or.inl rfl | exact Or.inl trivial | exact okL_map _ (fun _ => rfl) _ | (simp only [VVlen] <;> omega) | fail) only [VV0, VV1, VV2, VV3, VV4, VV5, VV6, VV7, VV8, VV9, mkFnV, vargs, slotsL, opdsA, Nat.reduceEqDiff, Nat.reduceLT, Nat.reduceAdd, Nat.reduceBEq, Int.reduceAdd, Int.reduceSub, Int.reduceLT, Int.reduceLE, Int.reduceEq, Int.reduceNeg, ↓reduceIte, reduceCtorEq, scL, scD, expand, List.replicate, bD_dv, rowD_dv]) | apply gC_drawW | ((first | apply gI_dec | apply gG_dec | apply gPG_dec | apply gI_var | apply gG_var | apply gPG_var) <;> intro _))
      refine call0_of (v := .sc (.bool (oddTo (fun x => (bitsRow B Q k ++ [false])[x]!) Q))) (by
        rw [hC]
        exact odd_p w (n + 2) _ Q (by omega) 39 [.ptr 5 0] (fun x => (bitsRow B Q k ++ [false])[x]!) (fun i hi => enc1_p w (n + 1) _ 5 4 _ _ _ _ (Q + 1) _ _ (bitsRow B Q k ++ [false]) (by rw [e5]; rfl) (by rfl) i (Nat.lt_of_lt_of_eq (Nat.lt_succ_of_lt hi) e5.symm))) ?_
      repeat' (first | (simp (disch := first | omega | assumption | exact bd (by with_unfolding_all rfl) | exact Or.inl rfl | exact Or.inl trivial | exact okL_map _ (fun _ => rfl) _ | (simp only [VVlen] <;> omega) | fail) only [VV0, VV1, VV2, VV3, VV4, VV5, VV6, VV7, VV8, VV9, mkFnV, vargs, slotsL, opdsA, Nat.reduceEqDiff, Nat.reduceLT, Nat.reduceAdd, Nat.reduceBEq, Int.reduceAdd, Int.reduceSub, Int.reduceLT, Int.reduceLE, Int.reduceEq, Int.reduceNeg, ↓reduceIte, reduceCtorEq, scL, scD, expand, List.replicate, bD_dv, rowD_dv]) | apply gC_drawW | ((first | apply gI_dec | apply gG_dec | apply gPG_dec | apply gI_var | apply gG_var | apply gPG_var) <;> intro _))
      have e6 : ((bitsRow B Q k ++ [false]).map bD).set Q (D.sc (Value.bool (oddTo (fun x => (bitsRow B Q k ++ [false])[x]!) Q))) = (fullRow B Q k).map bD := by
        rw [show D.sc (Value.bool (oddTo (fun x => (bitsRow B Q k ++ [false])[x]!) Q)) = bD (oddTo (fun x => (bitsRow B Q k ++ [false])[x]!) Q) from rfl, ← List.map_set, set_full]
      have e7 : (encRows B Q k).map (rowD 0) ++ [D.sl 0 (Q + 1) ((fullRow B Q k).map bD)] = (encRows B Q (k + 1)).map (rowD 0) := by
        unfold encRows
        rw [List.range_succ, List.map_append, List.map_append, List.map_cons, List.map_cons, rowD, fullRow_len]
        rfl
      rw [e6, e7]
      exact ⟨_, _, _, by omega, weak_to [(7, 3), (2, 2), (1, 1), (0, 0)] 4 h0 rfl rfl rfl rfl, k + 1, rfl, hlt, rfl, rfl⟩
    · have : k = K := by omega
      subst this
      have hQn : ((Q : Int) + 1).toNat = Q + 1 := by omega
      have hel := encRows_len B Q k
      have hr0 : List.replicate (Q + 1) (D.sc (Value.bool false)) = (lastTo B Q k 0).map bD := by
        simp [lastTo, bD]
      repeat' (first | (simp (disch := first | omega | assumption | exact bd (by with_unfolding_all rfl) | exact Or.inl rfl | exact Or.inl trivial | exact okL_map _ (fun _ => rfl) _ | (simp only [VVlen] <;> omega) | fail) only [VV0, VV1, VV2, VV3, VV4, VV5, VV6, VV7, VV8, VV9, mkFnV, vargs, slotsL, opdsA, Nat.reduceEqDiff, Nat.reduceLT, Nat.reduceAdd, Nat.reduceBEq, Int.reduceAdd, Int.reduceSub, Int.reduceLT, Int.reduceLE, Int.reduceEq, Int.reduceNeg, ↓reduceIte, reduceCtorEq, scL, scD, expand, List.replicate, c13l1, bD_dv, rowD_dv]) | apply gC_drawW | ((first | apply gI_dec | apply gG_dec | apply gPG_dec | apply gI_var | apply gG_var | apply gPG_var) <;> intro _))
      rw [hQn, hr0]
      refine g_while (fun m fr st => ∃ x : Nat, m = Q + 1 - x ∧ x ≤ Q + 1 ∧ fr = [(1, .ptr 0 0), (2, .ptr 1 0), (5, .ptr 2 0), (8, .ref 4 0 (Q + 1) (Q + 1)), (62, .sc (.int .i64 ((Q + 1 : Nat) : Int))), (63, .sc (.int .i64 x))] ∧
        st = ⟨[(4, .row 4 1 false false ((lastTo B Q k x).map bD)), (3, .gro 22 1 false ((encRows B Q k).map (rowD 0))), (2, .box 34 1 [.sc (.int .i64 Q), .gr 2 3 k]), (1, .box 34 1 [.sc (.int .i64 0), .sc (.slice none 0 0)]), (0, .box 24 1 [.sc (.int .i64 Q), .sc (.int .i64 k), .sl s B.length (B.map bD)])], 5, 0⟩) (Q + 1) ?_ ⟨_, _, .refl _ _, 0, ?_⟩ ?_
      · rw [hC, callP_rounds]; unfold many; omega
      · exact ⟨by omega, by omega, rfl, rfl⟩
      · rintro m fr st ⟨x, rfl, hx, rfl, rfl⟩
        have hll := lastTo_len B Q k x hx
        by_cases hlx : x < Q + 1
        · have hls := lastTo_set B Q k x hlx
          repeat' (first | (simp (disch := first | omega | assumption | exact bd (by with_unfolding_all rfl) | exact Or.inl rfl | exact Or.inl trivial | exact okL_map _ (fun _ => rfl) _ | (simp only [VVlen] <;> omega) | fail) only [VV0, VV1, VV2, VV3, VV4, VV5, VV6, VV7, VV8, VV9, mkFnV, vargs, slotsL, opdsA, Nat.reduceEqDiff, Nat.reduceLT, Nat.reduceAdd, Nat.reduceBEq, Int.reduceAdd, Int.reduceSub, Int.reduceLT, Int.reduceLE, Int.reduceEq, Int.reduceNeg, ↓reduceIte, reduceCtorEq, scL, scD, expand, List.replicate, c13l0, bD_dv, rowD_dv]) | apply gC_drawW | ((first | apply gI_dec | apply gG_dec | apply gPG_dec | apply gI_var | apply gG_var | apply gPG_var) <;> intro _))
          refine call0_of (v := .sc (.bool (colV B Q k x))) (by
            rw [hC]
            exact odd_p w (n + 2) _ k (by omega) 40 [.ptr 2 0, .ptr 5 0] (fun y => (encRows B Q k)[y]![x]!) (fun i hi => enc2_p w (n + 1) _ 2 3 5 34 1 22 1 3 1 0 false Q x (encRows B Q k) (by rw [hel]; rfl) (by rfl) (by rfl) i (by omega) (by omega) (by rw [encRows_row B Q k i (by omega)]; omega))) ?_
          repeat' (first | (simp (disch := first | omega | assumption | exact bd (by with_unfolding_all rfl) | exact Or.inl rfl | exact Or.inl trivial | exact okL_map _ (fun _ => rfl) _ | (simp only [VVlen] <;> omega) | fail) only [VV0, VV1, VV2, VV3, VV4, VV5, VV6, VV7, VV8, VV9, mkFnV, vargs, slotsL, opdsA, Nat.reduceEqDiff, Nat.reduceLT, Nat.reduceAdd, Nat.reduceBEq, Int.reduceAdd, Int.reduceSub, Int.reduceLT, Int.reduceLE, Int.reduceEq, Int.reduceNeg, ↓reduceIte, reduceCtorEq, scL, scD, expand, List.replicate, bD_dv, rowD_dv]) | apply gC_drawW | ((first | apply gI_dec | apply gG_dec | apply gPG_dec | apply gI_var | apply gG_var | apply gPG_var) <;> intro _))
          have e8 : ((lastTo B Q k x).map bD).set x (D.sc (Value.bool (colV B Q k x))) = (lastTo B Q k (x + 1)).map bD := by
            rw [← hls, List.map_set]; rfl
          rw [e8]
          exact ⟨_, _, _, by omega, weak_to [(4, 4), (3, 3), (2, 2), (1, 1), (0, 0)] 5 h0 rfl rfl rfl rfl, x + 1, rfl, hlx, rfl, rfl⟩
        · have : x = Q + 1 := by omega
          subst this
          repeat' (first | (simp (disch := first | omega | assumption | exact bd (by with_unfolding_all rfl) | exact Or.inl rfl | exact Or.inl trivial | exact okL_map _ (fun _ => rfl) _ | (simp only [VVlen] <;> omega) | fail) only [VV0, VV1, VV2, VV3, VV4, VV5, VV6, VV7, VV8, VV9, mkFnV, vargs, slotsL, opdsA, Nat.reduceEqDiff, Nat.reduceLT, Nat.reduceAdd, Nat.reduceBEq, Int.reduceAdd, Int.reduceSub, Int.reduceLT, Int.reduceLE, Int.reduceEq, Int.reduceNeg, ↓reduceIte, reduceCtorEq, scL, scD, expand, List.replicate, c13l0, bD_dv, rowD_dv]) | apply gC_drawW | ((first | apply gI_dec | apply gG_dec | apply gPG_dec | apply gI_var | apply gG_var | apply gPG_var) <;> intro _))
          have e9 : (encRows B Q k).map (rowD 0) ++ [D.sl 0 (Q + 1) ((lastTo B Q k (Q + 1)).map bD)] = (encV B Q k).map (rowD 0) := by
            unfold encV
            rw [List.map_append, List.map_cons, rowD, hll]
            rfl
          rw [e9]
          exact weak_finA2 (C := C) (s := 2) (n := k + 1) (l := (encV B Q k).map (rowD 0)) (snap_grD rfl (by rw [List.length_map, encV_len])) rfl (.inl (by decide)) h0 rfl
end
end Go.Proofs.YtepdkmdcainddaaDoor
namespace Go.Proofs.YtepdkmdcainddaaDoor
open Go Go.Itp
set_option maxRecDepth 100000
set_option linter.unusedSimpArgs false
abbrev strV (l : List UInt8) : V := .sc (.string ⟨l.toArray⟩)
def wordsTo (r : Nat → Bool) : Nat → List (List UInt8)
  | 0 => []
  | k + 1 => wordsTo r k ++ (if r k then [Lib.itoa ((k : Int) + 1)] else [])
def lineTo (r : Nat → Bool) : Nat → List UInt8
  | 0 => []
  | k + 1 => if r k then (if lineTo r k = [] then [] else lineTo r k ++ [32]) ++ Lib.itoa ((k : Int) + 1) else lineTo r k
theorem dec_ne (x : Nat) : Lib.decDigits x ≠ [] := by
  rw [Lib.decDigits]
  split <;> simp
theorem itoa_ne (k : Nat) : Lib.itoa ((k : Int) + 1) ≠ [] := by
  rw [show ((k : Int) + 1) = ((k + 1 : Nat) : Int) by omega, Lib.itoa_nonneg]
  exact dec_ne _
theorem line_nil (r : Nat → Bool) : ∀ k, lineTo r k = [] ↔ wordsTo r k = []
  | 0 => by simp [lineTo, wordsTo]
  | k + 1 => by
    have := itoa_ne k
    by_cases h : r k = true
    · simp [lineTo, wordsTo, h, this]
    · simp [lineTo, wordsTo, h, line_nil r k]
theorem line_join (r : Nat → Bool) : ∀ k, Lib.join (wordsTo r k) [32] = lineTo r k
  | 0 => rfl
  | k + 1 => by
    by_cases h : r k = true
    · rw [wordsTo, lineTo, if_pos h, if_pos h]
      by_cases h0 : lineTo r k = []
      · rw [if_pos h0, (line_nil r k).1 h0]
        simp [Lib.join_one]
      · rw [if_neg h0, join_one, join_snoc _ _ (fun e => h0 ((line_nil r k).2 e)), ← join_one, line_join r k]
        simp
    · rw [wordsTo, lineTo, if_neg h, if_neg h, List.append_nil, line_join r k]
theorem line_len (r : Nat → Bool) : ∀ k, k ≤ 1000 → (lineTo r k).length ≤ 22 * k
  | 0, _ => Nat.le_refl _
  | k + 1, h => by
    have ih := line_len r k (by omega)
    have h1 := Lib.itoa_length_le ((k : Int) + 1) (by omega) (by omega)
    rw [lineTo]
    split
    · split
      · simp; omega
      · simp; omega
    · omega
theorem words_len (r : Nat → Bool) : ∀ k, (wordsTo r k).length ≤ k
  | 0 => Nat.le_refl _
  | k + 1 => by
    have := words_len r k
    rw [wordsTo]
    split <;> simp <;> omega
def rowOf (B : List Bool) (Q y : Nat) : Nat → Bool := fun x => B[y * Q + x]!
def rowText (r : Nat → Bool) (Q : Nat) : List UInt8 := (if lineTo r Q = [] then [45] else lineTo r Q) ++ [10]
def planTo (B : List Bool) (Q : Nat) : Nat → List UInt8
  | 0 => []
  | y + 1 => planTo B Q y ++ rowText (rowOf B Q y) Q
theorem rowText_len (r : Nat → Bool) (Q : Nat) (hQ : Q ≤ 40) : (rowText r Q).length ≤ 900 := by
  have := line_len r Q (by omega)
  unfold rowText
  split <;> simp <;> omega
theorem plan_len (B : List Bool) (Q : Nat) (hQ : Q ≤ 40) : ∀ k, (planTo B Q k).length ≤ 900 * k
  | 0 => Nat.le_refl _
  | k + 1 => by
    have h1 := plan_len B Q hQ k
    have h2 := rowText_len (rowOf B Q k) Q hQ
    rw [planTo, List.length_append]
    omega
theorem fit_facts {a b : Int} {L : Nat} (h : chkE a b L = 0) : ∃ Q K : Nat, a = Q ∧ b = K ∧ (1 ≤ Q ∧ Q ≤ 40) ∧ (1 ≤ K ∧ K ≤ 64) ∧ L = Q * K := by
  unfold chkE chkG at h
  by_cases h1 : 64 < a ∨ 64 < b
  · simp [h1] at h
  by_cases h2 : a < 1 ∨ b < 1
  · simp [h1, h2] at h
  by_cases h3 : (L : Int) = a * b
  · by_cases h4 : 40 < a
    · simp [h1, h2, h3, h4] at h
    · refine ⟨a.toNat, b.toNat, by omega, by omega, by omega, by omega, ?_⟩
      have e1 : a = (a.toNat : Int) := by omega
      have e2 : b = (b.toNat : Int) := by omega
      rw [e1, e2, ← Int.natCast_mul] at h3
      exact Int.ofNat.inj h3
  · simp [h1, h2, h3] at h
end Go.Proofs.YtepdkmdcainddaaDoor
namespace Go.Proofs.YtepdkmdcainddaaDoor
open Go Go.Itp
set_option maxRecDepth 100000
set_option maxHeartbeats 1000000
set_option linter.unusedSimpArgs false
theorem eqB_b (a b : Bool) : eqBV false (.sc (.bool a)) (.sc (.bool b)) = some (.sc (.bool (a == b))) := (rfl)
theorem eqB_nb (a b : Bool) : eqBV true (.sc (.bool a)) (.sc (.bool b)) = some (.sc (.bool (!(a == b)))) := (rfl)
theorem beqB (b : Bool) : (b == b) = true := by cases b <;> rfl
section
variable (w : World) (n : Nat)
theorem at_p (s Q K x y : Nat) (B : List Bool) (hx : x < Q) (hy : y < K) (hQ : Q ≤ 64) (hK : K ≤ 64) (hL : B.length = Q * K) :
    VSpec (EN w (n + 1)) 36 [gridV s Q K B, .sc (.int .i64 x), .sc (.int .i64 y)] (.sc (.bool B[y * Q + x]!)) ⟨[], 0, 0⟩ := by
  refine vspec_flat rfl rfl (fun _ _ => rfl) (Nat.le_of_ble_eq_true rfl) (oldVals w) rfl fun C hC h0 => ?_
  obtain ⟨P, hP⟩ : ∃ P, P = y * Q := ⟨_, rfl⟩
  have hP1 : (y : Int) * (Q : Int) = (P : Int) := by rw [hP]; simp
  have hb : P + Q ≤ B.length := by rw [hL, hP, ← Nat.succ_mul, Nat.mul_comm Q K]; exact Nat.mul_le_mul_right Q hy
  have hB : B.length ≤ 4096 := by rw [hL]; exact Nat.mul_le_mul hQ hK
  rw [← hP]
  repeat' (first | (simp (disch := first | omega | assumption | exact bd (by with_unfolding_all rfl) | exact Or.inl rfl | exact Or.inl trivial | exact okL_map _ (fun _ => rfl) _ | (simp only [VVlen] <;> omega) | fail) only [VV0, VV1, VV2, VV3, VV4, VV5, VV6, VV7, VV8, VV9, mkFnV, vargs, slotsL, opdsA, Nat.reduceEqDiff, Nat.reduceLT, Nat.reduceAdd, Nat.reduceBEq, Int.reduceAdd, Int.reduceSub, Int.reduceLT, Int.reduceLE, Int.reduceEq, Int.reduceNeg, ↓reduceIte, reduceCtorEq, scL, scD, expand, List.replicate, c36, hP1, bD_dv]) | apply gC_drawW | ((first | apply gI_dec | apply gG_dec | apply gPG_dec | apply gI_var | apply gG_var | apply gPG_var) <;> intro _))
  exact weak_flat rfl h0 rfl
theorem great_p (s : Nat) (a b : Int) (B : List Bool) (hB : B.length ≤ 140737488351232) : VSpec (EN w (n + 1)) 9 [gridV s a b B] (.sc (.bool (decide (4200 < B.length)))) ⟨[], 0, 0⟩ := by
  refine vspec_flat rfl rfl (fun _ _ => rfl) (Nat.le_of_ble_eq_true rfl) (oldVals w) rfl fun C hC h0 => ?_
  by_cases h : 4200 < B.length
  · rw [decide_eq_true h]
    repeat' (first | (simp (disch := first | omega | assumption | exact bd (by with_unfolding_all rfl) | exact Or.inl rfl | exact Or.inl trivial | exact okL_map _ (fun _ => rfl) _ | (simp only [VVlen] <;> omega) | fail) only [VV0, VV1, VV2, VV3, VV4, VV5, VV6, VV7, VV8, VV9, mkFnV, vargs, slotsL, opdsA, Nat.reduceEqDiff, Nat.reduceLT, Nat.reduceAdd, Nat.reduceBEq, Int.reduceAdd, Int.reduceSub, Int.reduceLT, Int.reduceLE, Int.reduceEq, Int.reduceNeg, ↓reduceIte, reduceCtorEq, scL, scD, expand, List.replicate, c9]) | apply gC_drawW | ((first | apply gI_dec | apply gG_dec | apply gPG_dec | apply gI_var | apply gG_var | apply gPG_var) <;> intro _))
    exact weak_flat rfl h0 rfl
  · rw [decide_eq_false h]
    repeat' (first | (simp (disch := first | omega | assumption | exact bd (by with_unfolding_all rfl) | exact Or.inl rfl | exact Or.inl trivial | exact okL_map _ (fun _ => rfl) _ | (simp only [VVlen] <;> omega) | fail) only [VV0, VV1, VV2, VV3, VV4, VV5, VV6, VV7, VV8, VV9, mkFnV, vargs, slotsL, opdsA, Nat.reduceEqDiff, Nat.reduceLT, Nat.reduceAdd, Nat.reduceBEq, Int.reduceAdd, Int.reduceSub, Int.reduceLT, Int.reduceLE, Int.reduceEq, Int.reduceNeg, ↓reduceIte, reduceCtorEq, scL, scD, expand, List.replicate, c9]) | apply gC_drawW | ((first | apply gI_dec | apply gG_dec | apply gPG_dec | apply gI_var | apply gG_var | apply gPG_var) <;> intro _))
    exact weak_flat rfl h0 rfl
theorem twin_p (s : Nat) (a b : Int) (B : List Bool) (hB : B.length ≤ 5000) : VSpec (EN w (n + 1)) 10 [gridV s a b B] (gridV 3 a b B) ⟨[], 0, 0⟩ := by
  refine vspec_g rfl rfl (fun _ _ => rfl) (Nat.le_of_ble_eq_true rfl) (oldVals w) retOK_finA3 rfl fun C hC h0 => ?_
  by_cases hz : B.length = 0
  · have : B = [] := List.eq_nil_of_length_eq_zero hz
    subst this
    repeat' (first | (simp (disch := first | omega | assumption | exact bd (by with_unfolding_all rfl) | exact Or.inl rfl | exact Or.inl trivial | exact okL_map _ (fun _ => rfl) _ | (simp only [VVlen] <;> omega) | fail) only [VV0, VV1, VV2, VV3, VV4, VV5, VV6, VV7, VV8, VV9, mkFnV, vargs, slotsL, opdsA, Nat.reduceEqDiff, Nat.reduceLT, Nat.reduceAdd, Nat.reduceBEq, Int.reduceAdd, Int.reduceSub, Int.reduceLT, Int.reduceLE, Int.reduceEq, Int.reduceNeg, ↓reduceIte, reduceCtorEq, scL, scD, expand, List.replicate, c10, bD_dv]) | apply gC_drawW | ((first | apply gI_dec | apply gG_dec | apply gPG_dec | apply gI_var | apply gG_var | apply gPG_var) <;> intro _))
    exact weak_finA3 (C := C) (s := 0) (n := 0) (l := []) (snap_refD rfl rfl) rfl (.inl (by decide)) h0 rfl
  · repeat' (first | (simp (disch := first | omega | assumption | exact bd (by with_unfolding_all rfl) | exact Or.inl rfl | exact Or.inl trivial | exact okL_map _ (fun _ => rfl) _ | (simp only [VVlen] <;> omega) | fail) only [VV0, VV1, VV2, VV3, VV4, VV5, VV6, VV7, VV8, VV9, mkFnV, vargs, slotsL, opdsA, Nat.reduceEqDiff, Nat.reduceLT, Nat.reduceAdd, Nat.reduceBEq, Int.reduceAdd, Int.reduceSub, Int.reduceLT, Int.reduceLE, Int.reduceEq, Int.reduceNeg, ↓reduceIte, reduceCtorEq, scL, scD, expand, List.replicate, c10, bD_dv]) | apply gC_drawW | ((first | apply gI_dec | apply gG_dec | apply gPG_dec | apply gI_var | apply gG_var | apply gPG_var) <;> intro _))
    exact weak_finA3 (C := C) (s := 2) (n := B.length) (l := B.map bD) (snap_grD rfl (by rw [List.length_map])) rfl (.inl (by decide)) h0 rfl
theorem same01_p (s s' : Nat) (a b : Int) (B : List Bool) (hB : B.length ≤ 5000) : VSpec (EN w (n + 1)) 18 [gridV s a b B, gridV s' a b B] (.sc (.bool true)) ⟨[], 0, 0⟩ := by
  refine vspec_flat rfl rfl (fun _ _ => rfl) (Nat.le_of_ble_eq_true rfl) (oldVals w) rfl fun C hC h0 => ?_
  repeat' (first | (simp (disch := first | omega | assumption | exact bd (by with_unfolding_all rfl) | exact Or.inl rfl | exact Or.inl trivial | exact okL_map _ (fun _ => rfl) _ | (simp only [VVlen] <;> omega) | fail) only [VV0, VV1, VV2, VV3, VV4, VV5, VV6, VV7, VV8, VV9, mkFnV, vargs, slotsL, opdsA, Nat.reduceEqDiff, Nat.reduceLT, Nat.reduceAdd, Nat.reduceBEq, Int.reduceAdd, Int.reduceSub, Int.reduceLT, Int.reduceLE, Int.reduceEq, Int.reduceNeg, ↓reduceIte, reduceCtorEq, scL, scD, expand, List.replicate, c18, bD_dv]) | apply gC_drawW | ((first | apply gI_dec | apply gG_dec | apply gPG_dec | apply gI_var | apply gG_var | apply gPG_var) <;> intro _))
  refine g_while (fun m fr st => ∃ k : Nat, m = B.length - k ∧ k ≤ B.length ∧ fr = [(2, .ptr 0 0), (3, .ptr 1 0), (5, .sc (.int .i64 k))] ∧ st = ⟨[(1, .box 24 1 [.sc (.int .i64 a), .sc (.int .i64 b), .sl s' B.length (B.map bD)]), (0, .box 24 1 [.sc (.int .i64 a), .sc (.int .i64 b), .sl s B.length (B.map bD)])], 2, 0⟩) B.length ?_ ⟨_, _, .refl _ _, 0, ?_⟩ ?_
  · rw [hC, callP_rounds]; unfold many; omega
  · exact ⟨by omega, by omega, rfl, rfl⟩
  · rintro m fr st ⟨k, rfl, hk, rfl, rfl⟩
    by_cases hlt : k < B.length
    · generalize hb : B[k]! = bb at *
      repeat' (first | (simp (disch := first | omega | assumption | exact bd (by with_unfolding_all rfl) | exact Or.inl rfl | exact Or.inl trivial | exact okL_map _ (fun _ => rfl) _ | (simp only [VVlen] <;> omega) | fail) only [VV0, VV1, VV2, VV3, VV4, VV5, VV6, VV7, VV8, VV9, mkFnV, vargs, slotsL, opdsA, Nat.reduceEqDiff, Nat.reduceLT, Nat.reduceAdd, Nat.reduceBEq, Int.reduceAdd, Int.reduceSub, Int.reduceLT, Int.reduceLE, Int.reduceEq, Int.reduceNeg, ↓reduceIte, reduceCtorEq, scL, scD, expand, List.replicate, c18l0, bD_dv, hb, eqB_b, eqB_nb, beqB, Bool.not_true]) | apply gC_drawW | ((first | apply gI_dec | apply gG_dec | apply gPG_dec | apply gI_var | apply gG_var | apply gPG_var) <;> intro _))
      exact ⟨_, _, _, by omega, .refl _ _, k + 1, rfl, hlt, rfl, rfl⟩
    · have : k = B.length := by omega
      subst this
      repeat' (first | (simp (disch := first | omega | assumption | exact bd (by with_unfolding_all rfl) | exact Or.inl rfl | exact Or.inl trivial | exact okL_map _ (fun _ => rfl) _ | (simp only [VVlen] <;> omega) | fail) only [VV0, VV1, VV2, VV3, VV4, VV5, VV6, VV7, VV8, VV9, mkFnV, vargs, slotsL, opdsA, Nat.reduceEqDiff, Nat.reduceLT, Nat.reduceAdd, Nat.reduceBEq, Int.reduceAdd, Int.reduceSub, Int.reduceLT, Int.reduceLE, Int.reduceEq, Int.reduceNeg, ↓reduceIte, reduceCtorEq, scL, scD, expand, List.replicate, c18l0, bD_dv]) | apply gC_drawW | ((first | apply gI_dec | apply gG_dec | apply gPG_dec | apply gI_var | apply gG_var | apply gPG_var) <;> intro _))
      exact weak_flat rfl h0 rfl
end
end Go.Proofs.YtepdkmdcainddaaDoor
namespace Go.Proofs.YtepdkmdcainddaaDoor
open Go Go.Itp
set_option maxRecDepth 100000
set_option maxHeartbeats 1000000
set_option linter.unusedSimpArgs false
abbrev chainV (s s' : Nat) (q : Int) (L : List (List Bool)) : V := .agg [.sc (.int .i64 q), .sl s L.length (L.map (rowD s'))]
section
variable (w : World) (n : Nat)
theorem same17_p (s t s' t' : Nat) (q : Int) (L : List (List Bool)) (hL : L.length ≤ 1000) (hr : ∀ k, k < L.length → L[k]!.length ≤ 1000) : VSpec (EN w (n + 1)) 17 [chainV s t q L, chainV s' t' q L] (.sc (.bool true)) ⟨[], 0, 0⟩ := by
  refine vspec_flat rfl rfl (fun _ _ => rfl) (Nat.le_of_ble_eq_true rfl) (oldVals w) rfl fun C hC h0 => ?_
  repeat' (first | (simp (disch := first | omega | assumption | exact bd (by with_unfolding_all rfl) | exact Or.inl rfl | exact Or.inl trivial | exact okL_map _ (fun _ => rfl) _ | (simp only [VVlen] <;> omega) | fail) only [VV0, VV1, VV2, VV3, VV4, VV5, VV6, VV7, VV8, VV9, mkFnV, vargs, slotsL, opdsA, Nat.reduceEqDiff, Nat.reduceLT, Nat.reduceAdd, Nat.reduceBEq, Int.reduceAdd, Int.reduceSub, Int.reduceLT, Int.reduceLE, Int.reduceEq, Int.reduceNeg, ↓reduceIte, reduceCtorEq, scL, scD, expand, List.replicate, c17, rowD_dv]) | apply gC_drawW | ((first | apply gI_dec | apply gG_dec | apply gPG_dec | apply gI_var | apply gG_var | apply gPG_var) <;> intro _))
  refine g_while (fun m fr st => ∃ k : Nat, m = L.length - k ∧ k ≤ L.length ∧ fr = [(2, .ptr 0 0), (3, .ptr 1 0), (5, .sc (.int .i64 k))] ∧ st = ⟨[(1, .box 34 1 [.sc (.int .i64 q), .sl s' L.length (L.map (rowD t'))]), (0, .box 34 1 [.sc (.int .i64 q), .sl s L.length (L.map (rowD t))])], 2, 0⟩) L.length ?_ ⟨_, _, .refl _ _, 0, ?_⟩ ?_
  · rw [hC, callP_rounds]; unfold many; omega
  · exact ⟨by omega, by omega, rfl, rfl⟩
  · rintro m fr st ⟨k, rfl, hk, rfl, rfl⟩
    by_cases hlt : k < L.length
    · have hrk := hr k hlt
      repeat' (first | (simp (disch := first | omega | assumption | exact bd (by with_unfolding_all rfl) | exact Or.inl rfl | exact Or.inl trivial | exact okL_map _ (fun _ => rfl) _ | (simp only [VVlen] <;> omega) | fail) only [VV0, VV1, VV2, VV3, VV4, VV5, VV6, VV7, VV8, VV9, mkFnV, vargs, slotsL, opdsA, Nat.reduceEqDiff, Nat.reduceLT, Nat.reduceAdd, Nat.reduceBEq, Int.reduceAdd, Int.reduceSub, Int.reduceLT, Int.reduceLE, Int.reduceEq, Int.reduceNeg, ↓reduceIte, reduceCtorEq, scL, scD, expand, List.replicate, c17l1, rowD_dv]) | apply gC_drawW | ((first | apply gI_dec | apply gG_dec | apply gPG_dec | apply gI_var | apply gG_var | apply gPG_var) <;> intro _))
      refine g_while (fun m fr st => ∃ x : Nat, m = L[k]!.length - x ∧ x ≤ L[k]!.length ∧ fr = [(2, .ptr 0 0), (3, .ptr 1 0), (5, .sc (.int .i64 k)), (6, .sc (.int .i64 x))] ∧ st = ⟨[(1, .box 34 1 [.sc (.int .i64 q), .sl s' L.length (L.map (rowD t'))]), (0, .box 34 1 [.sc (.int .i64 q), .sl s L.length (L.map (rowD t))])], 2, 0⟩) L[k]!.length ?_ ⟨_, _, .refl _ _, 0, ?_⟩ ?_
      · rw [hC, callP_rounds]; unfold many; omega
      · exact ⟨by omega, by omega, rfl, rfl⟩
      · rintro m fr st ⟨x, rfl, hx, rfl, rfl⟩
        by_cases hlx : x < L[k]!.length
        · generalize hb : L[k]![x]! = bb at *
          repeat' (first | (simp (disch := first | omega | assumption | exact bd (by with_unfolding_all rfl) | exact Or.inl rfl | exact Or.inl trivial | exact okL_map _ (fun _ => rfl) _ | (simp only [VVlen] <;> omega) | fail) only [VV0, VV1, VV2, VV3, VV4, VV5, VV6, VV7, VV8, VV9, mkFnV, vargs, slotsL, opdsA, Nat.reduceEqDiff, Nat.reduceLT, Nat.reduceAdd, Nat.reduceBEq, Int.reduceAdd, Int.reduceSub, Int.reduceLT, Int.reduceLE, Int.reduceEq, Int.reduceNeg, ↓reduceIte, reduceCtorEq, scL, scD, expand, List.replicate, c17l0, rowD_dv, bD_dv, hb, eqB_b, eqB_nb, beqB, Bool.not_true]) | apply gC_drawW | ((first | apply gI_dec | apply gG_dec | apply gPG_dec | apply gI_var | apply gG_var | apply gPG_var) <;> intro _))
          exact ⟨_, _, _, by omega, .refl _ _, x + 1, rfl, hlx, rfl, rfl⟩
        · have : x = L[k]!.length := by omega
          subst this
          repeat' (first | (simp (disch := first | omega | assumption | exact bd (by with_unfolding_all rfl) | exact Or.inl rfl | exact Or.inl trivial | exact okL_map _ (fun _ => rfl) _ | (simp only [VVlen] <;> omega) | fail) only [VV0, VV1, VV2, VV3, VV4, VV5, VV6, VV7, VV8, VV9, mkFnV, vargs, slotsL, opdsA, Nat.reduceEqDiff, Nat.reduceLT, Nat.reduceAdd, Nat.reduceBEq, Int.reduceAdd, Int.reduceSub, Int.reduceLT, Int.reduceLE, Int.reduceEq, Int.reduceNeg, ↓reduceIte, reduceCtorEq, scL, scD, expand, List.replicate, c17l0, rowD_dv, bD_dv]) | apply gC_drawW | ((first | apply gI_dec | apply gG_dec | apply gPG_dec | apply gI_var | apply gG_var | apply gPG_var) <;> intro _))
          exact ⟨_, _, _, by omega, .refl _ _, k + 1, rfl, hlt, rfl, rfl⟩
    · have : k = L.length := by omega
      subst this
      repeat' (first | (simp (disch := first | omega | assumption | exact bd (by with_unfolding_all rfl) | exact Or.inl rfl | exact Or.inl trivial | exact okL_map _ (fun _ => rfl) _ | (simp only [VVlen] <;> omega) | fail) only [VV0, VV1, VV2, VV3, VV4, VV5, VV6, VV7, VV8, VV9, mkFnV, vargs, slotsL, opdsA, Nat.reduceEqDiff, Nat.reduceLT, Nat.reduceAdd, Nat.reduceBEq, Int.reduceAdd, Int.reduceSub, Int.reduceLT, Int.reduceLE, Int.reduceEq, Int.reduceNeg, ↓reduceIte, reduceCtorEq, scL, scD, expand, List.replicate, c17l1, rowD_dv]) | apply gC_drawW | ((first | apply gI_dec | apply gG_dec | apply gPG_dec | apply gI_var | apply gG_var | apply gPG_var) <;> intro _))
      exact weak_flat rfl h0 rfl
theorem decimal_p (x : Nat) (hx : x ≤ 1000000000000) : VSpec (EN w (n + 1)) 37 [.sc (.int .i64 x)] (strV (Lib.decDigits x)) ⟨[], 0, 0⟩ := by
  refine vspec_flat rfl rfl (fun _ _ => rfl) (Nat.le_of_ble_eq_true rfl) (oldVals w) rfl fun C hC h0 => ?_
  repeat' (first | (simp (disch := first | omega | assumption | exact bd (by with_unfolding_all rfl) | exact Or.inl rfl | exact Or.inl trivial | exact okL_map _ (fun _ => rfl) _ | (simp only [VVlen] <;> omega) | fail) only [VV0, VV1, VV2, VV3, VV4, VV5, VV6, VV7, VV8, VV9, mkFnV, vargs, slotsL, opdsA, Nat.reduceEqDiff, Nat.reduceLT, Nat.reduceAdd, Nat.reduceBEq, Int.reduceAdd, Int.reduceSub, Int.reduceLT, Int.reduceLE, Int.reduceEq, Int.reduceNeg, ↓reduceIte, reduceCtorEq, scL, scD, expand, List.replicate, c37]) | apply gC_drawW | ((first | apply gI_dec | apply gG_dec | apply gPG_dec | apply gI_var | apply gG_var | apply gPG_var) <;> intro _))
  refine g_while (fun m fr st => ∃ (k : Nat) (s : List UInt8), m = k ∧ k ≤ x ∧ Lib.decDigits x = Lib.decDigits k ++ s ∧ s.length + k ≤ x ∧ fr = [(0, .sc (.int .i64 k)), (3, strV s)] ∧ st = ⟨[], 0, 0⟩) x ?_ ⟨_, _, .refl _ _, x, [], ?_⟩ ?_
  · rw [hC, callP_rounds]; unfold many; omega
  · exact ⟨rfl, Nat.le_refl _, by simp, by simp, rfl, rfl⟩
  · rintro k fr st ⟨_, s, rfl, hk, hd, hsl, rfl, rfl⟩
    have hs1 : ∀ c : UInt8, (ByteArray.mk [c].toArray).size + (ByteArray.mk s.toArray).size < 9223372036854775807 := fun c => by
      show 1 + s.toArray.size < _
      simp; omega
    by_cases hlt : 9 < k
    · have hd' := dec_step hd hlt
      have e1 : (k : Int) % 10 = ((k % 10 : Nat) : Int) := by omega
      have e2 : (k : Int) / 10 = ((k / 10 : Nat) : Int) := by omega
      have e4 : (48 : Int) + ((k % 10 : Nat) : Int) = ((48 + k % 10 : Nat) : Int) := by omega
      have e3 := wrap_byte (48 + k % 10) (by omega)
      have e5 := b2s_one (o := 0) (t := 5) (g := false) (z := false) (H := [(0, .row 5 1 false false [.sc (.int .u8 ((48 + k % 10 : Nat) : Int))])]) (48 + k % 10) (by omega) rfl 1
      repeat' (first | (simp (disch := first | omega | assumption | exact bd (by with_unfolding_all rfl) | exact Or.inl rfl | exact Or.inl trivial | exact okL_map _ (fun _ => rfl) _ | (simp only [VVlen] <;> omega) | fail) only [VV0, VV1, VV2, VV3, VV4, VV5, VV6, VV7, VV8, VV9, mkFnV, vargs, slotsL, opdsA, Nat.reduceEqDiff, Nat.reduceLT, Nat.reduceAdd, Nat.reduceBEq, Int.reduceAdd, Int.reduceSub, Int.reduceLT, Int.reduceLE, Int.reduceEq, Int.reduceNeg, ↓reduceIte, reduceCtorEq, scL, scD, expand, List.replicate, c37l0, e1, e2, e4, e3, e5, b_sadd _ _ (hs1 (UInt8.ofNat (48 + k % 10))), bytes_cat]) | apply gC_drawW | ((first | apply gI_dec | apply gG_dec | apply gPG_dec | apply gI_var | apply gG_var | apply gPG_var) <;> intro _))
      refine ⟨_, _, _, ?_, weak_to [] 0 h0 rfl rfl rfl rfl, k / 10, UInt8.ofNat (48 + k % 10) :: s, rfl, by omega, hd', by simp; omega, ?_, ?_⟩
      · omega
      · simp [renF, vren]
      · simp [renH]
    · have e4 : (48 : Int) + (k : Int) = ((48 + k : Nat) : Int) := by omega
      have e3 := wrap_byte (48 + k) (by omega)
      have e5 := b2s_one (o := 0) (t := 5) (g := false) (z := false) (H := [(0, .row 5 1 false false [.sc (.int .u8 ((48 + k : Nat) : Int))])]) (48 + k) (by omega) rfl 1
      have hd' : Lib.decDigits x = [UInt8.ofNat (48 + k)] ++ s := by rw [hd, Lib.decDigits, dif_pos (by omega)]
      rw [hd']
      repeat' (first | (simp (disch := first | omega | assumption | exact bd (by with_unfolding_all rfl) | exact Or.inl rfl | exact Or.inl trivial | exact okL_map _ (fun _ => rfl) _ | (simp only [VVlen] <;> omega) | fail) only [VV0, VV1, VV2, VV3, VV4, VV5, VV6, VV7, VV8, VV9, mkFnV, vargs, slotsL, opdsA, Nat.reduceEqDiff, Nat.reduceLT, Nat.reduceAdd, Nat.reduceBEq, Int.reduceAdd, Int.reduceSub, Int.reduceLT, Int.reduceLE, Int.reduceEq, Int.reduceNeg, ↓reduceIte, reduceCtorEq, scL, scD, expand, List.replicate, c37l0, e4, e3, e5, b_sadd _ _ (hs1 (UInt8.ofNat (48 + k))), bytes_cat]) | apply gC_drawW | ((first | apply gI_dec | apply gG_dec | apply gPG_dec | apply gI_var | apply gG_var | apply gPG_var) <;> intro _))
      exact weak_flat rfl h0 rfl
theorem decimal_s (k : Nat) (h : k ≤ 1000000) : VSpec (EN w (n + 1)) 37 [.sc (.int .i64 ((k : Int) + 1))] (strV (Lib.itoa ((k : Int) + 1))) ⟨[], 0, 0⟩ := by
  have := decimal_p w n (k + 1) (by omega)
  rw [← Lib.itoa_nonneg, show (((k + 1 : Nat)) : Int) = (k : Int) + 1 by omega] at this
  exact this
theorem encE_p (s : Nat) (a b : Int) (B : List Bool) (hB : B.length ≤ 5000) (hne : chkE a b B.length ≠ 0) :
    VSpec (EN w (n + 4)) 13 [gridV s a b B] (.tup [.agg [.sc (.int .i64 0), .sl 3 0 []], .sc (.int .i64 (chkE a b B.length))]) ⟨[], 0, 0⟩ := by
  refine vspec_g rfl rfl (fun _ _ => rfl) (Nat.le_of_ble_eq_true rfl) (oldVals w) retOK_finA2 rfl fun C hC h0 => ?_
  have hc := fun st => (pcheck_p w (n + 1) s a b B (by omega)).of hC rfl st rfl
  repeat' (first | (simp (disch := first | omega | assumption | exact bd (by with_unfolding_all rfl) | exact Or.inl rfl | exact Or.inl trivial | exact okL_map _ (fun _ => rfl) _ | (simp only [VVlen] <;> omega) | fail) only [VV0, VV1, VV2, VV3, VV4, VV5, VV6, VV7, VV8, VV9, mkFnV, vargs, slotsL, opdsA, Nat.reduceEqDiff, Nat.reduceLT, Nat.reduceAdd, Nat.reduceBEq, Int.reduceAdd, Int.reduceSub, Int.reduceLT, Int.reduceLE, Int.reduceEq, Int.reduceNeg, ↓reduceIte, reduceCtorEq, scL, scD, expand, List.replicate, c13]) | apply gC_drawW | ((first | apply gI_dec | apply gG_dec | apply gPG_dec | apply gI_var | apply gG_var | apply gPG_var) <;> intro _))
  refine callV_flat (hc _) ?_
  generalize chkE a b B.length = e at *
  repeat' (first | (simp (disch := first | omega | assumption | exact bd (by with_unfolding_all rfl) | exact Or.inl rfl | exact Or.inl trivial | exact okL_map _ (fun _ => rfl) _ | (simp only [VVlen] <;> omega) | fail) only [VV0, VV1, VV2, VV3, VV4, VV5, VV6, VV7, VV8, VV9, mkFnV, vargs, slotsL, opdsA, Nat.reduceEqDiff, Nat.reduceLT, Nat.reduceAdd, Nat.reduceBEq, Int.reduceAdd, Int.reduceSub, Int.reduceLT, Int.reduceLE, Int.reduceEq, Int.reduceNeg, ↓reduceIte, reduceCtorEq, scL, scD, expand, List.replicate]) | apply gC_drawW | ((first | apply gI_dec | apply gG_dec | apply gPG_dec | apply gI_var | apply gG_var | apply gPG_var) <;> intro _))
  exact weak_finA2Nil h0 rfl
theorem rencE_p (s : Nat) (a b : Int) (B : List Bool) (hB : B.length ≤ 5000) (hne : chkE a b B.length ≠ 0) :
    VSpec (EN w (n + 4)) 14 [gridV s a b B] (.tup [.agg [.sc (.int .i64 0), .sl 3 0 []], .sc (.int .i64 (chkE a b B.length))]) ⟨[], 0, 0⟩ := by
  refine vspec_g rfl rfl (fun _ _ => rfl) (Nat.le_of_ble_eq_true rfl) (oldVals w) retOK_finA2 rfl fun C hC h0 => ?_
  have hc := fun st => (pcheck16_p w (n + 1) s a b B (by omega)).of hC rfl st rfl
  repeat' (first | (simp (disch := first | omega | assumption | exact bd (by with_unfolding_all rfl) | exact Or.inl rfl | exact Or.inl trivial | exact okL_map _ (fun _ => rfl) _ | (simp only [VVlen] <;> omega) | fail) only [VV0, VV1, VV2, VV3, VV4, VV5, VV6, VV7, VV8, VV9, mkFnV, vargs, slotsL, opdsA, Nat.reduceEqDiff, Nat.reduceLT, Nat.reduceAdd, Nat.reduceBEq, Int.reduceAdd, Int.reduceSub, Int.reduceLT, Int.reduceLE, Int.reduceEq, Int.reduceNeg, ↓reduceIte, reduceCtorEq, scL, scD, expand, List.replicate, c14]) | apply gC_drawW | ((first | apply gI_dec | apply gG_dec | apply gPG_dec | apply gI_var | apply gG_var | apply gPG_var) <;> intro _))
  refine callV_flat (hc _) ?_
  generalize chkE a b B.length = e at *
  repeat' (first | (simp (disch := first | omega | assumption | exact bd (by with_unfolding_all rfl) | exact Or.inl rfl | exact Or.inl trivial | exact okL_map _ (fun _ => rfl) _ | (simp only [VVlen] <;> omega) | fail) only [VV0, VV1, VV2, VV3, VV4, VV5, VV6, VV7, VV8, VV9, mkFnV, vargs, slotsL, opdsA, Nat.reduceEqDiff, Nat.reduceLT, Nat.reduceAdd, Nat.reduceBEq, Int.reduceAdd, Int.reduceSub, Int.reduceLT, Int.reduceLE, Int.reduceEq, Int.reduceNeg, ↓reduceIte, reduceCtorEq, scL, scD, expand, List.replicate]) | apply gC_drawW | ((first | apply gI_dec | apply gG_dec | apply gPG_dec | apply gI_var | apply gG_var | apply gPG_var) <;> intro _))
  refine callV_flat (hc _) ?_
  repeat' (first | (simp (disch := first | omega | assumption | exact bd (by with_unfolding_all rfl) | exact Or.inl rfl | exact Or.inl trivial | exact okL_map _ (fun _ => rfl) _ | (simp only [VVlen] <;> omega) | fail) only [VV0, VV1, VV2, VV3, VV4, VV5, VV6, VV7, VV8, VV9, mkFnV, vargs, slotsL, opdsA, Nat.reduceEqDiff, Nat.reduceLT, Nat.reduceAdd, Nat.reduceBEq, Int.reduceAdd, Int.reduceSub, Int.reduceLT, Int.reduceLE, Int.reduceEq, Int.reduceNeg, ↓reduceIte, reduceCtorEq, scL, scD, expand, List.replicate]) | apply gC_drawW | ((first | apply gI_dec | apply gG_dec | apply gPG_dec | apply gI_var | apply gG_var | apply gPG_var) <;> intro _))
  exact weak_finA2Nil h0 rfl
end
end Go.Proofs.YtepdkmdcainddaaDoor
namespace Go.Proofs.YtepdkmdcainddaaDoor
open Go Go.Itp
set_option maxRecDepth 100000
set_option maxHeartbeats 1000000
set_option linter.unusedSimpArgs false
section
variable (w : World) (n : Nat)
theorem rplan_p (s Q K : Nat) (B : List Bool) (hfit : chkE Q K B.length = 0) (hQ : 1 ≤ Q ∧ Q ≤ 40) (hK : 1 ≤ K ∧ K ≤ 64) (hL : B.length = Q * K) :
    VSpec (EN w (n + 4)) 12 [gridV s Q K B] (.tup [strV (planTo B Q K), .sc (.int .i64 0)]) ⟨[], 0, 0⟩ := by
  refine vspec_flat rfl rfl (fun _ _ => rfl) (Nat.le_of_ble_eq_true rfl) (oldVals w) rfl fun C hC h0 => ?_
  have hB1 : B.length ≤ 2560 := by rw [hL]; exact Nat.mul_le_mul hQ.2 hK.2
  have hc := fun st => (pcheck16_p w (n + 1) s Q K B (by omega)).of hC rfl st rfl
  rw [hfit] at hc
  repeat' (first | (simp (disch := first | omega | assumption | exact bd (by with_unfolding_all rfl) | exact Or.inl rfl | exact Or.inl trivial | exact okL_map _ (fun _ => rfl) _ | (simp only [VVlen] <;> omega) | fail) only [VV0, VV1, VV2, VV3, VV4, VV5, VV6, VV7, VV8, VV9, mkFnV, vargs, slotsL, opdsA, Nat.reduceEqDiff, Nat.reduceLT, Nat.reduceAdd, Nat.reduceBEq, Int.reduceAdd, Int.reduceSub, Int.reduceLT, Int.reduceLE, Int.reduceEq, Int.reduceNeg, ↓reduceIte, reduceCtorEq, scL, scD, expand, List.replicate, c12]) | apply gC_drawW | ((first | apply gI_dec | apply gG_dec | apply gPG_dec | apply gI_var | apply gG_var | apply gPG_var) <;> intro _))
  refine callV_flat (hc _) ?_
  repeat' (first | (simp (disch := first | omega | assumption | exact bd (by with_unfolding_all rfl) | exact Or.inl rfl | exact Or.inl trivial | exact okL_map _ (fun _ => rfl) _ | (simp only [VVlen] <;> omega) | fail) only [VV0, VV1, VV2, VV3, VV4, VV5, VV6, VV7, VV8, VV9, mkFnV, vargs, slotsL, opdsA, Nat.reduceEqDiff, Nat.reduceLT, Nat.reduceAdd, Nat.reduceBEq, Int.reduceAdd, Int.reduceSub, Int.reduceLT, Int.reduceLE, Int.reduceEq, Int.reduceNeg, ↓reduceIte, reduceCtorEq, scL, scD, expand, List.replicate]) | apply gC_drawW | ((first | apply gI_dec | apply gG_dec | apply gPG_dec | apply gI_var | apply gG_var | apply gPG_var) <;> intro _))
  refine g_while (fun m fr st => ∃ y : Nat, m = K - y ∧ y ≤ K ∧ fr = [(1, .ptr 0 0), (4, strV (planTo B Q y)), (5, .sc (.int .i64 y))] ∧ st = ⟨[(0, .box 24 1 [.sc (.int .i64 Q), .sc (.int .i64 K), .sl s B.length (B.map bD)])], 1, 0⟩) K ?_ ⟨_, _, .refl _ _, 0, ?_⟩ ?_
  · rw [hC, callP_rounds]; unfold many; omega
  · exact ⟨by omega, by omega, rfl, rfl⟩
  rintro m fr st ⟨y, rfl, hy, rfl, rfl⟩
  have hpl := plan_len B Q hQ.2 y
  by_cases hlt : y < K
  case neg =>
    have : y = K := by omega
    subst this
    repeat' (first | (simp (disch := first | omega | assumption | exact bd (by with_unfolding_all rfl) | exact Or.inl rfl | exact Or.inl trivial | exact okL_map _ (fun _ => rfl) _ | (simp only [VVlen] <;> omega) | fail) only [VV0, VV1, VV2, VV3, VV4, VV5, VV6, VV7, VV8, VV9, mkFnV, vargs, slotsL, opdsA, Nat.reduceEqDiff, Nat.reduceLT, Nat.reduceAdd, Nat.reduceBEq, Int.reduceAdd, Int.reduceSub, Int.reduceLT, Int.reduceLE, Int.reduceEq, Int.reduceNeg, ↓reduceIte, reduceCtorEq, scL, scD, expand, List.replicate, c12l1]) | apply gC_drawW | ((first | apply gI_dec | apply gG_dec | apply gPG_dec | apply gI_var | apply gG_var | apply gPG_var) <;> intro _))
    all_goals try (exfalso; omega)
    exact weak_flat rfl h0 rfl
  have hnext : planTo B Q (y + 1) = planTo B Q y ++ rowText (rowOf B Q y) Q := rfl
  generalize planTo B Q y = T at *
  repeat' (first | (simp (disch := first | omega | assumption | exact bd (by with_unfolding_all rfl) | exact Or.inl rfl | exact Or.inl trivial | exact okL_map _ (fun _ => rfl) _ | (simp only [VVlen] <;> omega) | fail) only [VV0, VV1, VV2, VV3, VV4, VV5, VV6, VV7, VV8, VV9, mkFnV, vargs, slotsL, opdsA, Nat.reduceEqDiff, Nat.reduceLT, Nat.reduceAdd, Nat.reduceBEq, Int.reduceAdd, Int.reduceSub, Int.reduceLT, Int.reduceLE, Int.reduceEq, Int.reduceNeg, ↓reduceIte, reduceCtorEq, scL, scD, expand, List.replicate, c12l1]) | apply gC_drawW | ((first | apply gI_dec | apply gG_dec | apply gPG_dec | apply gI_var | apply gG_var | apply gPG_var) <;> intro _))
  refine g_while (fun m fr st => ∃ x : Nat, m = Q - x ∧ x ≤ Q ∧ fr = [(1, .ptr 0 0), (4, strV T), (5, .sc (.int .i64 y)), (6, strV (lineTo (rowOf B Q y) x)), (7, .sc (.int .i64 x))] ∧ st = ⟨[(0, .box 24 1 [.sc (.int .i64 Q), .sc (.int .i64 K), .sl s B.length (B.map bD)])], 1, 0⟩) Q ?_ ⟨_, _, .refl _ _, 0, ?_⟩ ?_
  · rw [hC, callP_rounds]; unfold many; omega
  · exact ⟨by omega, by omega, rfl, rfl⟩
  rintro m fr st ⟨x, rfl, hx, rfl, rfl⟩
  have hll := line_len (rowOf B Q y) x (by omega)
  by_cases hlx : x < Q
  · have hat : ∀ st : VSt, VSpecO C.E 36 st [gridV s Q K B, .sc (.int .i64 x), .sc (.int .i64 y)] (.sc (.bool (rowOf B Q y x))) := fun st => (at_p w (n + 2) s Q K x y B hlx hlt (by omega) hK.2 hL).of hC rfl st rfl
    have hdc : ∀ st : VSt, VSpecO C.E 37 st [.sc (.int .i64 ((x : Int) + 1))] (strV (Lib.itoa ((x : Int) + 1))) := fun st => (decimal_s w (n + 2) x (by omega)).of hC rfl st rfl
    have hi1 := Lib.itoa_length_le ((x : Int) + 1) (by omega) (by omega)
    have hstep : lineTo (rowOf B Q y) (x + 1) = if rowOf B Q y x then (if lineTo (rowOf B Q y) x = [] then [] else lineTo (rowOf B Q y) x ++ [32]) ++ Lib.itoa ((x : Int) + 1) else lineTo (rowOf B Q y) x := rfl
    generalize lineTo (rowOf B Q y) x = L at *
    repeat' (first | (simp (disch := first | omega | assumption | exact bd (by with_unfolding_all rfl) | exact Or.inl rfl | exact Or.inl trivial | exact okL_map _ (fun _ => rfl) _ | (simp only [VVlen] <;> omega) | fail) only [VV0, VV1, VV2, VV3, VV4, VV5, VV6, VV7, VV8, VV9, mkFnV, vargs, slotsL, opdsA, Nat.reduceEqDiff, Nat.reduceLT, Nat.reduceAdd, Nat.reduceBEq, Int.reduceAdd, Int.reduceSub, Int.reduceLT, Int.reduceLE, Int.reduceEq, Int.reduceNeg, ↓reduceIte, reduceCtorEq, scL, scD, expand, List.replicate, c12l0]) | apply gC_drawW | ((first | apply gI_dec | apply gG_dec | apply gPG_dec | apply gI_var | apply gG_var | apply gPG_var) <;> intro _))
    refine callV_flat (hat _) ?_
    generalize rowOf B Q y x = b at *
    cases b
    · rw [if_neg (by decide)] at hstep
      repeat' (first | (simp (disch := first | omega | assumption | exact bd (by with_unfolding_all rfl) | exact Or.inl rfl | exact Or.inl trivial | exact okL_map _ (fun _ => rfl) _ | (simp only [VVlen] <;> omega) | fail) only [VV0, VV1, VV2, VV3, VV4, VV5, VV6, VV7, VV8, VV9, mkFnV, vargs, slotsL, opdsA, Nat.reduceEqDiff, Nat.reduceLT, Nat.reduceAdd, Nat.reduceBEq, Int.reduceAdd, Int.reduceSub, Int.reduceLT, Int.reduceLE, Int.reduceEq, Int.reduceNeg, ↓reduceIte, reduceCtorEq, scL, scD, expand, List.replicate]) | apply gC_drawW | ((first | apply gI_dec | apply gG_dec | apply gPG_dec | apply gI_var | apply gG_var | apply gPG_var) <;> intro _))
      exact ⟨_, _, _, by omega, .refl _ _, x + 1, rfl, hlx, by rw [hstep]; rfl, rfl⟩
    · rw [if_pos rfl] at hstep
      by_cases hL0 : L = []
      · rw [if_pos hL0] at hstep
        subst hL0
        have e1 := cat_l [] (Lib.itoa ((x : Int) + 1)) (by simp; omega)
        repeat' (first | (simp (disch := first | omega | assumption | exact bd (by with_unfolding_all rfl) | exact Or.inl rfl | exact Or.inl trivial | exact okL_map _ (fun _ => rfl) _ | (simp only [VVlen] <;> omega) | fail) only [VV0, VV1, VV2, VV3, VV4, VV5, VV6, VV7, VV8, VV9, mkFnV, vargs, slotsL, opdsA, Nat.reduceEqDiff, Nat.reduceLT, Nat.reduceAdd, Nat.reduceBEq, Int.reduceAdd, Int.reduceSub, Int.reduceLT, Int.reduceLE, Int.reduceEq, Int.reduceNeg, ↓reduceIte, reduceCtorEq, scL, scD, expand, List.replicate]) | apply gC_drawW | ((first | apply gI_dec | apply gG_dec | apply gPG_dec | apply gI_var | apply gG_var | apply gPG_var) <;> intro _))
        refine callV_flat (hdc _) ?_
        repeat' (first | (simp (disch := first | omega | assumption | exact bd (by with_unfolding_all rfl) | exact Or.inl rfl | exact Or.inl trivial | exact okL_map _ (fun _ => rfl) _ | (simp only [VVlen] <;> omega) | fail) only [VV0, VV1, VV2, VV3, VV4, VV5, VV6, VV7, VV8, VV9, mkFnV, vargs, slotsL, opdsA, Nat.reduceEqDiff, Nat.reduceLT, Nat.reduceAdd, Nat.reduceBEq, Int.reduceAdd, Int.reduceSub, Int.reduceLT, Int.reduceLE, Int.reduceEq, Int.reduceNeg, ↓reduceIte, reduceCtorEq, scL, scD, expand, List.replicate, e1]) | apply gC_drawW | ((first | apply gI_dec | apply gG_dec | apply gPG_dec | apply gI_var | apply gG_var | apply gPG_var) <;> intro _))
        exact ⟨_, _, _, by omega, .refl _ _, x + 1, rfl, hlx, by rw [hstep]; rfl, rfl⟩
      · rw [if_neg hL0] at hstep
        have hbn : ¬ (({ data := L.toArray } : ByteArray) = { data := #[] }) := fun h => hL0 (by have := congrArg (fun b : ByteArray => b.data.toList) h; simpa using this)
        have e0 := cat_l L [32] (by simp; omega)
        have e1 := cat_l (L ++ [32]) (Lib.itoa ((x : Int) + 1)) (by simp; omega)
        repeat' (first | (simp (disch := first | omega | assumption | exact bd (by with_unfolding_all rfl) | exact Or.inl rfl | exact Or.inl trivial | exact okL_map _ (fun _ => rfl) _ | (simp only [VVlen] <;> omega) | fail) only [VV0, VV1, VV2, VV3, VV4, VV5, VV6, VV7, VV8, VV9, mkFnV, vargs, slotsL, opdsA, Nat.reduceEqDiff, Nat.reduceLT, Nat.reduceAdd, Nat.reduceBEq, Int.reduceAdd, Int.reduceSub, Int.reduceLT, Int.reduceLE, Int.reduceEq, Int.reduceNeg, ↓reduceIte, reduceCtorEq, scL, scD, expand, List.replicate, hbn, e0]) | apply gC_drawW | ((first | apply gI_dec | apply gG_dec | apply gPG_dec | apply gI_var | apply gG_var | apply gPG_var) <;> intro _))
        refine callV_flat (hdc _) ?_
        repeat' (first | (simp (disch := first | omega | assumption | exact bd (by with_unfolding_all rfl) | exact Or.inl rfl | exact Or.inl trivial | exact okL_map _ (fun _ => rfl) _ | (simp only [VVlen] <;> omega) | fail) only [VV0, VV1, VV2, VV3, VV4, VV5, VV6, VV7, VV8, VV9, mkFnV, vargs, slotsL, opdsA, Nat.reduceEqDiff, Nat.reduceLT, Nat.reduceAdd, Nat.reduceBEq, Int.reduceAdd, Int.reduceSub, Int.reduceLT, Int.reduceLE, Int.reduceEq, Int.reduceNeg, ↓reduceIte, reduceCtorEq, scL, scD, expand, List.replicate, e1]) | apply gC_drawW | ((first | apply gI_dec | apply gG_dec | apply gPG_dec | apply gI_var | apply gG_var | apply gPG_var) <;> intro _))
        exact ⟨_, _, _, by omega, .refl _ _, x + 1, rfl, hlx, by rw [hstep]; rfl, rfl⟩
  · have : x = Q := by omega
    subst this
    unfold rowText at hnext
    generalize lineTo (rowOf B x y) x = L at *
    by_cases hL0 : L = []
    · rw [if_pos hL0] at hnext
      subst hL0
      have e0 := cat_l T [45] (by simp; omega)
      have e1 := cat_l (T ++ [45]) [10] (by simp; omega)
      repeat' (first | (simp (disch := first | omega | assumption | exact bd (by with_unfolding_all rfl) | exact Or.inl rfl | exact Or.inl trivial | exact okL_map _ (fun _ => rfl) _ | (simp only [VVlen] <;> omega) | fail) only [VV0, VV1, VV2, VV3, VV4, VV5, VV6, VV7, VV8, VV9, mkFnV, vargs, slotsL, opdsA, Nat.reduceEqDiff, Nat.reduceLT, Nat.reduceAdd, Nat.reduceBEq, Int.reduceAdd, Int.reduceSub, Int.reduceLT, Int.reduceLE, Int.reduceEq, Int.reduceNeg, ↓reduceIte, reduceCtorEq, scL, scD, expand, List.replicate, c12l0, e0, e1]) | apply gC_drawW | ((first | apply gI_dec | apply gG_dec | apply gPG_dec | apply gI_var | apply gG_var | apply gPG_var) <;> intro _))
      exact ⟨_, _, _, by omega, .refl _ _, y + 1, rfl, hlt, by rw [hnext]; simp, rfl⟩
    · rw [if_neg hL0] at hnext
      have hbn : ¬ (({ data := L.toArray } : ByteArray) = { data := #[] }) := fun h => hL0 (by have := congrArg (fun b : ByteArray => b.data.toList) h; simpa using this)
      have e0 := cat_l T L (by omega)
      have e1 := cat_l (T ++ L) [10] (by simp; omega)
      repeat' (first | (simp (disch := first | omega | assumption | exact bd (by with_unfolding_all rfl) | exact Or.inl rfl | exact Or.inl trivial | exact okL_map _ (fun _ => rfl) _ | (simp only [VVlen] <;> omega) | fail) only [VV0, VV1, VV2, VV3, VV4, VV5, VV6, VV7, VV8, VV9, mkFnV, vargs, slotsL, opdsA, Nat.reduceEqDiff, Nat.reduceLT, Nat.reduceAdd, Nat.reduceBEq, Int.reduceAdd, Int.reduceSub, Int.reduceLT, Int.reduceLE, Int.reduceEq, Int.reduceNeg, ↓reduceIte, reduceCtorEq, scL, scD, expand, List.replicate, c12l0, hbn, e0, e1]) | apply gC_drawW | ((first | apply gI_dec | apply gG_dec | apply gPG_dec | apply gI_var | apply gG_var | apply gPG_var) <;> intro _))
      exact ⟨_, _, _, by omega, .refl _ _, y + 1, rfl, hlt, by rw [hnext]; simp, rfl⟩
theorem rplanE_p (s : Nat) (a b : Int) (B : List Bool) (hB : B.length ≤ 5000) (hne : chkE a b B.length ≠ 0) :
    VSpec (EN w (n + 4)) 12 [gridV s a b B] (.tup [.sc (.string ⟨#[]⟩), .sc (.int .i64 (chkE a b B.length))]) ⟨[], 0, 0⟩ := by
  refine vspec_flat rfl rfl (fun _ _ => rfl) (Nat.le_of_ble_eq_true rfl) (oldVals w) rfl fun C hC h0 => ?_
  have hc := fun st => (pcheck16_p w (n + 1) s a b B (by omega)).of hC rfl st rfl
  repeat' (first | (simp (disch := first | omega | assumption | exact bd (by with_unfolding_all rfl) | exact Or.inl rfl | exact Or.inl trivial | exact okL_map _ (fun _ => rfl) _ | (simp only [VVlen] <;> omega) | fail) only [VV0, VV1, VV2, VV3, VV4, VV5, VV6, VV7, VV8, VV9, mkFnV, vargs, slotsL, opdsA, Nat.reduceEqDiff, Nat.reduceLT, Nat.reduceAdd, Nat.reduceBEq, Int.reduceAdd, Int.reduceSub, Int.reduceLT, Int.reduceLE, Int.reduceEq, Int.reduceNeg, ↓reduceIte, reduceCtorEq, scL, scD, expand, List.replicate, c12]) | apply gC_drawW | ((first | apply gI_dec | apply gG_dec | apply gPG_dec | apply gI_var | apply gG_var | apply gPG_var) <;> intro _))
  refine callV_flat (hc _) ?_
  generalize chkE a b B.length = e at *
  repeat' (first | (simp (disch := first | omega | assumption | exact bd (by with_unfolding_all rfl) | exact Or.inl rfl | exact Or.inl trivial | exact okL_map _ (fun _ => rfl) _ | (simp only [VVlen] <;> omega) | fail) only [VV0, VV1, VV2, VV3, VV4, VV5, VV6, VV7, VV8, VV9, mkFnV, vargs, slotsL, opdsA, Nat.reduceEqDiff, Nat.reduceLT, Nat.reduceAdd, Nat.reduceBEq, Int.reduceAdd, Int.reduceSub, Int.reduceLT, Int.reduceLE, Int.reduceEq, Int.reduceNeg, ↓reduceIte, reduceCtorEq, scL, scD, expand, List.replicate]) | apply gC_drawW | ((first | apply gI_dec | apply gG_dec | apply gPG_dec | apply gI_var | apply gG_var | apply gPG_var) <;> intro _))
  refine callV_flat (hc _) ?_
  repeat' (first | (simp (disch := first | omega | assumption | exact bd (by with_unfolding_all rfl) | exact Or.inl rfl | exact Or.inl trivial | exact okL_map _ (fun _ => rfl) _ | (simp only [VVlen] <;> omega) | fail) only [VV0, VV1, VV2, VV3, VV4, VV5, VV6, VV7, VV8, VV9, mkFnV, vargs, slotsL, opdsA, Nat.reduceEqDiff, Nat.reduceLT, Nat.reduceAdd, Nat.reduceBEq, Int.reduceAdd, Int.reduceSub, Int.reduceLT, Int.reduceLE, Int.reduceEq, Int.reduceNeg, ↓reduceIte, reduceCtorEq, scL, scD, expand, List.replicate]) | apply gC_drawW | ((first | apply gI_dec | apply gG_dec | apply gPG_dec | apply gI_var | apply gG_var | apply gPG_var) <;> intro _))
  exact weak_flat rfl h0 rfl
theorem planE_p (s : Nat) (a b : Int) (B : List Bool) (hB : B.length ≤ 5000) (hne : chkE a b B.length ≠ 0) :
    VSpec (EN w (n + 5)) 11 [gridV s a b B] (.tup [.sc (.string ⟨#[]⟩), .sc (.int .i64 (chkE a b B.length))]) ⟨[], 0, 0⟩ := by
  refine vspec_flat rfl rfl (fun _ _ => rfl) (Nat.le_of_ble_eq_true rfl) (oldVals w) rfl fun C hC h0 => ?_
  have hc := fun st => (pcheck_p w (n + 2) s a b B (by omega)).of hC rfl st rfl
  repeat' (first | (simp (disch := first | omega | assumption | exact bd (by with_unfolding_all rfl) | exact Or.inl rfl | exact Or.inl trivial | exact okL_map _ (fun _ => rfl) _ | (simp only [VVlen] <;> omega) | fail) only [VV0, VV1, VV2, VV3, VV4, VV5, VV6, VV7, VV8, VV9, mkFnV, vargs, slotsL, opdsA, Nat.reduceEqDiff, Nat.reduceLT, Nat.reduceAdd, Nat.reduceBEq, Int.reduceAdd, Int.reduceSub, Int.reduceLT, Int.reduceLE, Int.reduceEq, Int.reduceNeg, ↓reduceIte, reduceCtorEq, scL, scD, expand, List.replicate, c11]) | apply gC_drawW | ((first | apply gI_dec | apply gG_dec | apply gPG_dec | apply gI_var | apply gG_var | apply gPG_var) <;> intro _))
  refine callV_flat (hc _) ?_
  generalize chkE a b B.length = e at *
  repeat' (first | (simp (disch := first | omega | assumption | exact bd (by with_unfolding_all rfl) | exact Or.inl rfl | exact Or.inl trivial | exact okL_map _ (fun _ => rfl) _ | (simp only [VVlen] <;> omega) | fail) only [VV0, VV1, VV2, VV3, VV4, VV5, VV6, VV7, VV8, VV9, mkFnV, vargs, slotsL, opdsA, Nat.reduceEqDiff, Nat.reduceLT, Nat.reduceAdd, Nat.reduceBEq, Int.reduceAdd, Int.reduceSub, Int.reduceLT, Int.reduceLE, Int.reduceEq, Int.reduceNeg, ↓reduceIte, reduceCtorEq, scL, scD, expand, List.replicate]) | apply gC_drawW | ((first | apply gI_dec | apply gG_dec | apply gPG_dec | apply gI_var | apply gG_var | apply gPG_var) <;> intro _))
  exact weak_flat rfl h0 rfl
end
end Go.Proofs.YtepdkmdcainddaaDoor
namespace Go.Proofs.YtepdkmdcainddaaDoor
open Go Go.Itp
set_option maxRecDepth 100000
set_option maxHeartbeats 1000000
set_option linter.unusedSimpArgs false
section
variable (w : World) (n : Nat)
def selfP (b : Nat) (p : V) : Prop := p = .sc (.pointer none) ∨ p = .ptr b 0
theorem copyCheck_w {C : Ctx} {st : VSt} {Q : V → VSt → Prop} (hC : C.E = EN w (n + 2)) (b e : Nat) (p g : V) (hb : aget st.own b = some (.box 69 e [p, g])) (hp : selfP b p) (hro : st.ro ≤ b)
    (hq : Q (.tup []) ⟨aset st.own b (.box 69 e [.ptr b 0, g]), st.next, st.ro⟩) : CallV C 57 [.ptr b 0] st Q := by
  refine callV_w hC rfl rfl (fun _ _ => rfl) (Nat.le_of_ble_eq_true rfl) hq fun C' hC' hn => ?_
  obtain ⟨H, nx, ro⟩ := st
  have h2 : (2 : Nat) ≤ [p, g].length := Nat.le_refl _
  rcases hp with rfl | rfl
  · repeat' (first | (simp (disch := first | omega | assumption | exact bd (by with_unfolding_all rfl) | exact Or.inl rfl | exact Or.inl trivial | exact okL_map _ (fun _ => rfl) _ | (simp only [VVlen] <;> omega) | fail) only [VV0, VV1, VV2, VV3, VV4, VV5, VV6, VV7, VV8, VV9, mkFnV, vargs, slotsL, opdsA, Nat.reduceEqDiff, Nat.reduceLT, Nat.reduceAdd, Nat.reduceBEq, Int.reduceAdd, Int.reduceSub, Int.reduceLT, Int.reduceLE, Int.reduceEq, Int.reduceNeg, ↓reduceIte, reduceCtorEq, scL, scD, expand, List.replicate, c57, hb, eqNilP_ptr, eqNilP_nil]) | apply gC_drawW | ((first | apply gI_dec | apply gG_dec | apply gPG_dec | apply gI_var | apply gG_var | apply gPG_var) <;> intro _))
    refine callV_same hC' (fun x s => ?_) ?_
    · show PR w _ [x] s = some (x, [])
      rfl
    repeat' (first | (simp (disch := first | omega | assumption | exact bd (by with_unfolding_all rfl) | exact Or.inl rfl | exact Or.inl trivial | exact okL_map _ (fun _ => rfl) _ | (simp only [VVlen] <;> omega) | fail) only [VV0, VV1, VV2, VV3, VV4, VV5, VV6, VV7, VV8, VV9, mkFnV, vargs, slotsL, opdsA, Nat.reduceEqDiff, Nat.reduceLT, Nat.reduceAdd, Nat.reduceBEq, Int.reduceAdd, Int.reduceSub, Int.reduceLT, Int.reduceLE, Int.reduceEq, Int.reduceNeg, ↓reduceIte, reduceCtorEq, scL, scD, expand, List.replicate, hb, eqNilP_ptr]) | apply gC_drawW | ((first | apply gI_dec | apply gG_dec | apply gPG_dec | apply gI_var | apply gG_var | apply gPG_var) <;> intro _))
    exact .refl _ _
  · have hs : aset H b (.box 69 e [.ptr b 0, g]) = H := aset_self _ _ _ hb
    repeat' (first | (simp (disch := first | omega | assumption | exact bd (by with_unfolding_all rfl) | exact Or.inl rfl | exact Or.inl trivial | exact okL_map _ (fun _ => rfl) _ | (simp only [VVlen] <;> omega) | fail) only [VV0, VV1, VV2, VV3, VV4, VV5, VV6, VV7, VV8, VV9, mkFnV, vargs, slotsL, opdsA, Nat.reduceEqDiff, Nat.reduceLT, Nat.reduceAdd, Nat.reduceBEq, Int.reduceAdd, Int.reduceSub, Int.reduceLT, Int.reduceLE, Int.reduceEq, Int.reduceNeg, ↓reduceIte, reduceCtorEq, scL, scD, expand, List.replicate, c57, hb, eqPtrV_same, eqNilP_ptr, eqNilP_nil]) | apply gC_drawW | ((first | apply gI_dec | apply gG_dec | apply gPG_dec | apply gI_var | apply gG_var | apply gPG_var) <;> intro _))
    rw [hs]
    exact .refl _ _
theorem writeString_w {C : Ctx} {st : VSt} {Q : V → VSt → Prop} (hC : C.E = EN w (n + 3)) (b r : Nat) (p : V) (acc s : ByteArray) (hb : aget st.own b = some (.box 69 1 [p, .gr 2 r acc.size])) (hr : aget st.own r = some (.gro 5 1 false (strD acc))) (hp : selfP b p) (hro : st.ro ≤ b) (hro2 : st.ro ≤ r) (hrb : r ≠ b) (hlt : b ≠ st.next)
    (hsz : acc.size + s.size ≤ 1099511627776) (hq : Q (.tup [.sc (.int .i64 s.size), .sc .nilIface]) ⟨(st.next, .gro 5 1 false (strD (acc ++ s))) :: aset (adel r st.own) b (.box 69 1 [.ptr b 0, .gr 2 st.next (acc.size + s.size)]), st.next + 1, st.ro⟩) :
    CallV C 33 [.ptr b 0, .sc (.string s)] st Q := by
  refine callV_w hC rfl rfl (fun _ _ => rfl) (Nat.le_of_ble_eq_true rfl) hq fun C' hC' hn => ?_
  obtain ⟨H, nx, ro⟩ := st
  have h1 := strD_len acc
  have h2 := strD_ok s
  have a1 : aget (aset H b (.box 69 1 [.ptr b 0, .gr 2 r acc.size])) b = some (.box 69 1 [.ptr b 0, .gr 2 r acc.size]) := aget_aset_eq hb
  have a2 : aget (aset H b (.box 69 1 [.ptr b 0, .gr 2 r acc.size])) r = some (.gro 5 1 false (strD acc)) := by rw [aget_aset _ _ _ _ _ hb, if_neg hrb]; exact hr
  have hbr : ¬ b = r := fun e => hrb e.symm
  have a3 : aget (adel r (aset H b (.box 69 1 [.ptr b 0, .gr 2 r acc.size]))) b = some (.box 69 1 [.ptr b 0, .gr 2 r acc.size]) := by rw [aget_adel, if_neg hbr]; exact a1
  repeat' (first | (simp (disch := first | omega | assumption | exact bd (by with_unfolding_all rfl) | exact Or.inl rfl | exact Or.inl trivial | exact okL_map _ (fun _ => rfl) _ | (simp only [VVlen] <;> omega) | fail) only [VV0, VV1, VV2, VV3, VV4, VV5, VV6, VV7, VV8, VV9, mkFnV, vargs, slotsL, opdsA, Nat.reduceEqDiff, Nat.reduceLT, Nat.reduceAdd, Nat.reduceBEq, Int.reduceAdd, Int.reduceSub, Int.reduceLT, Int.reduceLE, Int.reduceEq, Int.reduceNeg, ↓reduceIte, reduceCtorEq, scL, scD, expand, List.replicate, c33]) | apply gC_drawW | ((first | apply gI_dec | apply gG_dec | apply gPG_dec | apply gI_var | apply gG_var | apply gPG_var) <;> intro _))
  refine copyCheck_w w n hC' b 1 p _ hb hp hro ?_
  repeat' (first | (simp (disch := first | omega | assumption | exact bd (by with_unfolding_all rfl) | exact Or.inl rfl | exact Or.inl trivial | exact okL_map _ (fun _ => rfl) _ | (simp only [VVlen] <;> omega) | fail) only [VV0, VV1, VV2, VV3, VV4, VV5, VV6, VV7, VV8, VV9, mkFnV, vargs, slotsL, opdsA, Nat.reduceEqDiff, Nat.reduceLT, Nat.reduceAdd, Nat.reduceBEq, Int.reduceAdd, Int.reduceSub, Int.reduceLT, Int.reduceLE, Int.reduceEq, Int.reduceNeg, ↓reduceIte, reduceCtorEq, scL, scD, expand, List.replicate, a1, a2, a3, srcOf_str, strD_eq, hbr, hlt, strD_append, frozA_none]) | apply gC_drawW | ((first | apply gI_dec | apply gG_dec | apply gPG_dec | apply gI_var | apply gG_var | apply gPG_var) <;> intro _))
  rw [adel_aset _ _ _ _ hrb, aset_aset]
  exact .refl _ _
theorem string_w {C : Ctx} {st : VSt} {Q : V → VSt → Prop} (hC : C.E = EN w (n + 1)) (b r : Nat) (p : V) (acc : ByteArray) (hb : aget st.own b = some (.box 69 1 [p, .gr 2 r acc.size])) (hr : aget st.own r = some (.gro 5 1 false (strD acc))) (hro : st.ro ≤ b) (hro2 : st.ro ≤ r)
    (hsz : acc.size ≤ 1099511627776) (hq : ∀ st', st'.ro = st.ro → Q (.sc (.string acc)) st') : CallV C 35 [.ptr b 0] st Q := by
  obtain ⟨H, nx, ro⟩ := st
  by_cases h0 : acc.size = 0
  · rw [h0] at hb
    have hs : acc = ByteArray.empty := by
      apply ByteArray.ext; apply Array.ext'
      rw [List.eq_nil_of_length_eq_zero (show acc.data.toList.length = 0 by simpa using h0)]
      rfl
    refine callV_wW (st' := ⟨aset H b (.box 69 1 [p, .sc (.slice none 0 0)]), nx, ro⟩) hC rfl rfl (fun _ _ => rfl) (Nat.le_of_ble_eq_true rfl) (hq ⟨aset H b (.box 69 1 [p, .sc (.slice none 0 0)]), nx, ro⟩ rfl) (fun C' hn => ?_) fun C' hC' hn => ?_
    · exact weak_cell (C := C') (st := ⟨H, nx, ro⟩) (k := 1) hb rfl same_gr0
    have a1 : aget (aset H b (.box 69 1 [p, .sc (.slice none 0 0)])) b = some (.box 69 1 [p, .sc (.slice none 0 0)]) := aget_aset_eq hb
    rw [hs]
    repeat' (first | (simp (disch := first | omega | assumption | exact bd (by with_unfolding_all rfl) | exact Or.inl rfl | exact Or.inl trivial | exact okL_map _ (fun _ => rfl) _ | (simp only [VVlen] <;> omega) | fail) only [VV0, VV1, VV2, VV3, VV4, VV5, VV6, VV7, VV8, VV9, mkFnV, vargs, slotsL, opdsA, Nat.reduceEqDiff, Nat.reduceLT, Nat.reduceAdd, Nat.reduceBEq, Int.reduceAdd, Int.reduceSub, Int.reduceLT, Int.reduceLE, Int.reduceEq, Int.reduceNeg, ↓reduceIte, reduceCtorEq, scL, scD, expand, List.replicate, c35, a1, vustr_nil]) | apply gC_drawW | ((first | apply gI_dec | apply gG_dec | apply gPG_dec | apply gI_var | apply gG_var | apply gPG_var) <;> intro _))
    exact .refl _ _
  · refine callV_w hC rfl rfl (fun _ _ => rfl) (Nat.le_of_ble_eq_true rfl) (hq ⟨adel r H, nx, ro⟩ rfl) fun C' hC' hn => ?_
    have hv := vustr_gro ⟨H, nx, ro⟩ 5 1 r acc hr hro2 (by omega) hsz
    repeat' (first | (simp (disch := first | omega | assumption | exact bd (by with_unfolding_all rfl) | exact Or.inl rfl | exact Or.inl trivial | exact okL_map _ (fun _ => rfl) _ | (simp only [VVlen] <;> omega) | fail) only [VV0, VV1, VV2, VV3, VV4, VV5, VV6, VV7, VV8, VV9, mkFnV, vargs, slotsL, opdsA, Nat.reduceEqDiff, Nat.reduceLT, Nat.reduceAdd, Nat.reduceBEq, Int.reduceAdd, Int.reduceSub, Int.reduceLT, Int.reduceLE, Int.reduceEq, Int.reduceNeg, ↓reduceIte, reduceCtorEq, scL, scD, expand, List.replicate, c35, hb, h0, hv]) | apply gC_drawW | ((first | apply gI_dec | apply gG_dec | apply gPG_dec | apply gI_var | apply gG_var | apply gPG_var) <;> intro _))
    exact .refl _ _
end
end Go.Proofs.YtepdkmdcainddaaDoor
namespace Go.Proofs.YtepdkmdcainddaaDoor
open Go Go.Itp
set_option maxRecDepth 100000
set_option maxHeartbeats 1000000
set_option linter.unusedSimpArgs false
theorem eqNilS_nil (g : Bool) : eqNilV 1 g (.sc (.slice none 0 0)) (.sc (.slice none 0 0)) = some (.sc (.bool (!g))) := by cases g <;> rfl
theorem eqNilS_gr (g : Bool) (o n : Nat) (hn : n ≠ 0) : eqNilV 1 g (.gr 2 o n) (.sc (.slice none 0 0)) = some (.sc (.bool g)) := by
  rw [eqNilV_nil g _ (Nat.beq n 0) rfl, nbf.2 hn]
  cases g <;> rfl
theorem row_of (B : List Bool) (Q y x : Nat) (hx : x < Q) : (bitsRow B Q y)[x]! = rowOf B Q y x := by
  rw [getElem!_pos _ x (by rw [bitsRow_len]; exact hx)]
  simp [bitsRow, rowOf]
theorem words_map (r : Nat → Bool) (k : Nat) (h : r k = true) : (wordsTo r (k + 1)).map sD = (wordsTo r k).map sD ++ [sD (Lib.itoa ((k : Int) + 1))] := by
  simp [wordsTo, h]
section
variable (w : World) (n : Nat)
theorem plan_p (s Q K : Nat) (B : List Bool) (hfit : chkE Q K B.length = 0) (hQ : 1 ≤ Q ∧ Q ≤ 40) (hK : 1 ≤ K ∧ K ≤ 64) (hL : B.length = Q * K) :
    VSpec (EN w (n + 5)) 11 [gridV s Q K B] (.tup [strV (planTo B Q K), .sc (.int .i64 0)]) ⟨[], 0, 0⟩ := by
  refine vspec_flat rfl rfl (fun _ _ => rfl) (Nat.le_of_ble_eq_true rfl) (oldVals w) rfl fun C hC h0 => ?_
  have hB1 : B.length ≤ 2560 := by rw [hL]; exact Nat.mul_le_mul hQ.2 hK.2
  have hc := fun st => (pcheck_p w (n + 2) s Q K B (by omega)).of hC rfl st rfl
  rw [hfit] at hc
  repeat' (first | (simp (disch := first | omega | assumption | exact bd (by with_unfolding_all rfl) | exact Or.inl rfl | exact Or.inl trivial | exact okL_map _ (fun _ => rfl) _ | (simp only [VVlen] <;> omega) | fail) only [VV0, VV1, VV2, VV3, VV4, VV5, VV6, VV7, VV8, VV9, mkFnV, vargs, slotsL, opdsA, Nat.reduceEqDiff, Nat.reduceLT, Nat.reduceAdd, Nat.reduceBEq, Int.reduceAdd, Int.reduceSub, Int.reduceLT, Int.reduceLE, Int.reduceEq, Int.reduceNeg, ↓reduceIte, reduceCtorEq, scL, scD, expand, List.replicate, c11]) | apply gC_drawW | ((first | apply gI_dec | apply gG_dec | apply gPG_dec | apply gI_var | apply gG_var | apply gPG_var) <;> intro _))
  refine callV_flat (hc _) ?_
  repeat' (first | (simp (disch := first | omega | assumption | exact bd (by with_unfolding_all rfl) | exact Or.inl rfl | exact Or.inl trivial | exact okL_map _ (fun _ => rfl) _ | (simp only [VVlen] <;> omega) | fail) only [VV0, VV1, VV2, VV3, VV4, VV5, VV6, VV7, VV8, VV9, mkFnV, vargs, slotsL, opdsA, Nat.reduceEqDiff, Nat.reduceLT, Nat.reduceAdd, Nat.reduceBEq, Int.reduceAdd, Int.reduceSub, Int.reduceLT, Int.reduceLE, Int.reduceEq, Int.reduceNeg, ↓reduceIte, reduceCtorEq, scL, scD, expand, List.replicate]) | apply gC_drawW | ((first | apply gI_dec | apply gG_dec | apply gPG_dec | apply gI_var | apply gG_var | apply gPG_var) <;> intro _))
  refine g_while (fun m fr st => ∃ (y : Nat) (p : V) (acc : ByteArray), m = K - y ∧ y ≤ K ∧ selfP 1 p ∧ acc.data.toList = planTo B Q y ∧ fr = [(1, .ptr 0 0), (5, .ptr 1 0), (16, .sc (.int .i64 K)), (17, .sc (.int .i64 y))] ∧
    st = ⟨[(2, .gro 5 1 false (strD acc)), (1, .box 69 1 [p, .gr 2 2 acc.size]), (0, .box 24 1 [.sc (.int .i64 Q), .sc (.int .i64 K), .sl s B.length (B.map bD)])], 3, 0⟩) K ?_
    ⟨_, _, weak_nilCell (C := C) (l := [.sc (.pointer none), .sc (.slice none 0 0)]) 1 69 1 1 5 1 rfl rfl (fun h => absurd (show (1 : Nat) = 2 from h) (by decide)), 0, .sc (.pointer none), ⟨#[]⟩, rfl, Nat.zero_le _, .inl rfl, rfl, rfl, rfl⟩ ?_
  · rw [hC, callP_rounds]; unfold many; omega
  rintro m fr st ⟨y, p, acc, rfl, hy, hp, ha, rfl, rfl⟩
  have hpl := plan_len B Q hQ.2 y
  have hasz : acc.size = (planTo B Q y).length := by rw [← ha]; simp
  by_cases hlt : y < K
  case neg =>
    have : y = K := by omega
    subst this
    have hacc : acc = ⟨(planTo B Q y).toArray⟩ := by
      apply ByteArray.ext; apply Array.ext'; rw [ha]
    repeat' (first | (simp (disch := first | omega | assumption | exact bd (by with_unfolding_all rfl) | exact Or.inl rfl | exact Or.inl trivial | exact okL_map _ (fun _ => rfl) _ | (simp only [VVlen] <;> omega) | fail) only [VV0, VV1, VV2, VV3, VV4, VV5, VV6, VV7, VV8, VV9, mkFnV, vargs, slotsL, opdsA, Nat.reduceEqDiff, Nat.reduceLT, Nat.reduceAdd, Nat.reduceBEq, Int.reduceAdd, Int.reduceSub, Int.reduceLT, Int.reduceLE, Int.reduceEq, Int.reduceNeg, ↓reduceIte, reduceCtorEq, scL, scD, expand, List.replicate, c11l1]) | apply gC_drawW | ((first | apply gI_dec | apply gG_dec | apply gPG_dec | apply gI_var | apply gG_var | apply gPG_var) <;> intro _))
    refine string_w w (n + 3) hC 1 2 p acc rfl rfl (Nat.zero_le _) (Nat.zero_le _) (by omega) fun st' hst => ?_
    rw [hacc]
    repeat' (first | (simp (disch := first | omega | assumption | exact bd (by with_unfolding_all rfl) | exact Or.inl rfl | exact Or.inl trivial | exact okL_map _ (fun _ => rfl) _ | (simp only [VVlen] <;> omega) | fail) only [VV0, VV1, VV2, VV3, VV4, VV5, VV6, VV7, VV8, VV9, mkFnV, vargs, slotsL, opdsA, Nat.reduceEqDiff, Nat.reduceLT, Nat.reduceAdd, Nat.reduceBEq, Int.reduceAdd, Int.reduceSub, Int.reduceLT, Int.reduceLE, Int.reduceEq, Int.reduceNeg, ↓reduceIte, reduceCtorEq, scL, scD, expand, List.replicate]) | apply gC_drawW | ((first | apply gI_dec | apply gG_dec | apply gPG_dec | apply gI_var | apply gG_var | apply gPG_var) <;> intro _))
    exact weak_flat rfl h0 hst
  have hnext : planTo B Q (y + 1) = planTo B Q y ++ rowText (rowOf B Q y) Q := rfl
  generalize planTo B Q y = T at *
  have hkQ : y * Q + Q ≤ B.length := by
    rw [hL, Nat.mul_comm Q K, ← Nat.succ_mul]; exact Nat.mul_le_mul_right Q hlt
  obtain ⟨P, hP⟩ : ∃ P, P = y * Q := ⟨_, rfl⟩
  have hP1 : (y : Int) * (Q : Int) = (P : Int) := by rw [hP]; simp
  have hP2 : ((y : Int) + 1) * (Q : Int) = ((P + Q : Nat) : Int) := by rw [hP, Int.add_mul]; simp
  have hPB : P + Q ≤ B.length := by omega
  have e1 : P + Q - P = Q := by omega
  have e2 : List.take Q (List.drop P B) = bitsRow B Q y := by rw [hP]; exact part_row B Q y (by rw [Nat.succ_mul]; exact hkQ)
  have e3 := bitsRow_len B Q y
  repeat' (first | (simp (disch := first | omega | assumption | exact bd (by with_unfolding_all rfl) | exact Or.inl rfl | exact Or.inl trivial | exact okL_map _ (fun _ => rfl) _ | (simp only [VVlen] <;> omega) | fail) only [VV0, VV1, VV2, VV3, VV4, VV5, VV6, VV7, VV8, VV9, mkFnV, vargs, slotsL, opdsA, Nat.reduceEqDiff, Nat.reduceLT, Nat.reduceAdd, Nat.reduceBEq, Int.reduceAdd, Int.reduceSub, Int.reduceLT, Int.reduceLE, Int.reduceEq, Int.reduceNeg, ↓reduceIte, reduceCtorEq, scL, scD, expand, List.replicate, c11l1, hP1, hP2, bD_dv, e1]) | apply gC_drawW | ((first | apply gI_dec | apply gG_dec | apply gPG_dec | apply gI_var | apply gG_var | apply gPG_var) <;> intro _))
  rw [e2]
  generalize hsk : kindS s = s3 at *
  have hrow : ∀ x, x < Q → (bitsRow B Q y)[x]! = rowOf B Q y x := fun x hx => row_of B Q y x hx
  generalize bitsRow B Q y = R at *
  generalize rowOf B Q y = r at *
  generalize hG : (0, Obj.box 24 1 [V.sc (.int .i64 Q), V.sc (.int .i64 K), V.sl s B.length (B.map bD)]) = G0 at *
  refine g_while (fun m fr st => ∃ x : Nat, m = Q - x ∧ x ≤ Q ∧ ∃ lv, fr = [(1, .ptr 0 0), (5, .ptr 1 0), (7, lv), (16, .sc (.int .i64 K)), (17, .sc (.int .i64 y)), (31, .sl s3 Q (R.map bD)), (32, .sc (.int .i64 Q)), (33, .sc (.int .i64 x))] ∧
    ((wordsTo r x = [] ∧ lv = .sc (.slice none 0 0) ∧ st = ⟨[(2, .gro 5 1 false (strD acc)), (1, .box 69 1 [p, .gr 2 2 acc.size]), G0], 3, 0⟩) ∨
     (wordsTo r x ≠ [] ∧ lv = .gr 2 3 (wordsTo r x).length ∧ st = ⟨[(3, .gro 9 1 false ((wordsTo r x).map sD)), (2, .gro 5 1 false (strD acc)), (1, .box 69 1 [p, .gr 2 2 acc.size]), G0], 4, 0⟩))) Q ?_ ⟨_, _, .refl _ _, 0, ?_⟩ ?_
  · rw [hC, callP_rounds]; unfold many; omega
  · exact ⟨by omega, by omega, _, rfl, .inl ⟨rfl, rfl, rfl⟩⟩
  rintro m fr st ⟨x, rfl, hx, lv, rfl, hst⟩
  have hll := line_len r x (by omega)
  have hwl := words_len r x
  by_cases hlx : x < Q
  · have hrx := hrow x hlx
    have hwm := words_map r x
    have hw0 : ¬ r x = true → wordsTo r (x + 1) = wordsTo r x := fun h => by simp [wordsTo, h]
    have hw1 : r x = true → (wordsTo r (x + 1)).length = (wordsTo r x).length + 1 := fun h => by simp [wordsTo, h]
    have hwn : r x = true → wordsTo r (x + 1) ≠ [] := fun h => by simp [wordsTo, h]
    generalize hW : wordsTo r x = W at *
    generalize hW1 : wordsTo r (x + 1) = W1 at *
    have hit : ∀ st : VSt, VSpecO C.E 32 st [.sc (.int .i64 ((x : Int) + 1))] (strV (Lib.itoa ((x : Int) + 1))) := fun st => by rw [hC]; exact itoa_s w (n + 3) st _ (by omega) (by omega)
    by_cases hb : r x = true
    · rw [hb] at hrx
      have hwm := hwm hb
      have hw1 := hw1 hb
      have hwn := hwn hb
      rcases hst with ⟨hn, rfl, rfl⟩ | ⟨hn, rfl, rfl⟩
      · subst hG
        subst hn
        repeat' (first | (simp (disch := first | omega | assumption | exact bd (by with_unfolding_all rfl) | exact Or.inl rfl | exact Or.inl trivial | exact okL_map _ (fun _ => rfl) _ | (simp only [VVlen] <;> omega) | fail) only [VV0, VV1, VV2, VV3, VV4, VV5, VV6, VV7, VV8, VV9, mkFnV, vargs, slotsL, opdsA, Nat.reduceEqDiff, Nat.reduceLT, Nat.reduceAdd, Nat.reduceBEq, Int.reduceAdd, Int.reduceSub, Int.reduceLT, Int.reduceLE, Int.reduceEq, Int.reduceNeg, ↓reduceIte, reduceCtorEq, scL, scD, expand, List.replicate, c11l0, bD_dv, hrx]) | apply gC_drawW | ((first | apply gI_dec | apply gG_dec | apply gPG_dec | apply gI_var | apply gG_var | apply gPG_var) <;> intro _))
        refine callV_flat (hit _) ?_
        repeat' (first | (simp (disch := first | omega | assumption | exact bd (by with_unfolding_all rfl) | exact Or.inl rfl | exact Or.inl trivial | exact okL_map _ (fun _ => rfl) _ | (simp only [VVlen] <;> omega) | fail) only [VV0, VV1, VV2, VV3, VV4, VV5, VV6, VV7, VV8, VV9, mkFnV, vargs, slotsL, opdsA, Nat.reduceEqDiff, Nat.reduceLT, Nat.reduceAdd, Nat.reduceBEq, Int.reduceAdd, Int.reduceSub, Int.reduceLT, Int.reduceLE, Int.reduceEq, Int.reduceNeg, ↓reduceIte, reduceCtorEq, scL, scD, expand, List.replicate, sD_dv]) | apply gC_drawW | ((first | apply gI_dec | apply gG_dec | apply gPG_dec | apply gI_var | apply gG_var | apply gPG_var) <;> intro _))
        refine ⟨_, _, _, by omega, weak_to [(4, 3), (2, 2), (1, 1), (0, 0)] 4 h0 rfl rfl rfl rfl, x + 1, rfl, hlx, _, rfl, .inr ⟨by rw [hW1]; exact hwn, by rw [hW1, hw1]; rfl, by rw [hW1, hwm]; rcases hp with rfl | rfl <;> rfl⟩⟩
      · have hwl0 : W.length ≠ 0 := fun h => hn (List.eq_nil_of_length_eq_zero h)
        have hml : (W.map sD).length = W.length := by rw [List.length_map]
        subst hG
        repeat' (first | (simp (disch := first | omega | assumption | exact bd (by with_unfolding_all rfl) | exact Or.inl rfl | exact Or.inl trivial | exact okL_map _ (fun _ => rfl) _ | (simp only [VVlen] <;> omega) | fail) only [VV0, VV1, VV2, VV3, VV4, VV5, VV6, VV7, VV8, VV9, mkFnV, vargs, slotsL, opdsA, Nat.reduceEqDiff, Nat.reduceLT, Nat.reduceAdd, Nat.reduceBEq, Int.reduceAdd, Int.reduceSub, Int.reduceLT, Int.reduceLE, Int.reduceEq, Int.reduceNeg, ↓reduceIte, reduceCtorEq, scL, scD, expand, List.replicate, c11l0, bD_dv, hrx]) | apply gC_drawW | ((first | apply gI_dec | apply gG_dec | apply gPG_dec | apply gI_var | apply gG_var | apply gPG_var) <;> intro _))
        refine callV_flat (hit _) ?_
        repeat' (first | (simp (disch := first | omega | assumption | exact bd (by with_unfolding_all rfl) | exact Or.inl rfl | exact Or.inl trivial | exact okL_map _ (fun _ => rfl) _ | (simp only [VVlen] <;> omega) | fail) only [VV0, VV1, VV2, VV3, VV4, VV5, VV6, VV7, VV8, VV9, mkFnV, vargs, slotsL, opdsA, Nat.reduceEqDiff, Nat.reduceLT, Nat.reduceAdd, Nat.reduceBEq, Int.reduceAdd, Int.reduceSub, Int.reduceLT, Int.reduceLE, Int.reduceEq, Int.reduceNeg, ↓reduceIte, reduceCtorEq, scL, scD, expand, List.replicate, sD_dv]) | apply gC_drawW | ((first | apply gI_dec | apply gG_dec | apply gPG_dec | apply gI_var | apply gG_var | apply gPG_var) <;> intro _))
        refine ⟨_, _, _, by omega, weak_to [(5, 3), (2, 2), (1, 1), (0, 0)] 4 h0 rfl rfl rfl rfl, x + 1, rfl, hlx, _, rfl, .inr ⟨by rw [hW1]; exact hwn, by rw [hW1, hw1]; rfl, by rw [hW1, hwm]; rcases hp with rfl | rfl <;> rfl⟩⟩
    · have hw0 := hw0 hb
      have hb := Bool.eq_false_iff.2 hb
      rw [hb] at hrx
      subst hG
      rcases hst with ⟨hn, rfl, rfl⟩ | ⟨hn, rfl, rfl⟩
      · repeat' (first | (simp (disch := first | omega | assumption | exact bd (by with_unfolding_all rfl) | exact Or.inl rfl | exact Or.inl trivial | exact okL_map _ (fun _ => rfl) _ | (simp only [VVlen] <;> omega) | fail) only [VV0, VV1, VV2, VV3, VV4, VV5, VV6, VV7, VV8, VV9, mkFnV, vargs, slotsL, opdsA, Nat.reduceEqDiff, Nat.reduceLT, Nat.reduceAdd, Nat.reduceBEq, Int.reduceAdd, Int.reduceSub, Int.reduceLT, Int.reduceLE, Int.reduceEq, Int.reduceNeg, ↓reduceIte, reduceCtorEq, scL, scD, expand, List.replicate, c11l0, bD_dv, hrx]) | apply gC_drawW | ((first | apply gI_dec | apply gG_dec | apply gPG_dec | apply gI_var | apply gG_var | apply gPG_var) <;> intro _))
        refine ⟨_, _, _, by omega, .refl _ _, x + 1, rfl, hlx, _, rfl, .inl ⟨by rw [hW1, hw0]; exact hn, rfl, rfl⟩⟩
      · repeat' (first | (simp (disch := first | omega | assumption | exact bd (by with_unfolding_all rfl) | exact Or.inl rfl | exact Or.inl trivial | exact okL_map _ (fun _ => rfl) _ | (simp only [VVlen] <;> omega) | fail) only [VV0, VV1, VV2, VV3, VV4, VV5, VV6, VV7, VV8, VV9, mkFnV, vargs, slotsL, opdsA, Nat.reduceEqDiff, Nat.reduceLT, Nat.reduceAdd, Nat.reduceBEq, Int.reduceAdd, Int.reduceSub, Int.reduceLT, Int.reduceLE, Int.reduceEq, Int.reduceNeg, ↓reduceIte, reduceCtorEq, scL, scD, expand, List.replicate, c11l0, bD_dv, hrx]) | apply gC_drawW | ((first | apply gI_dec | apply gG_dec | apply gPG_dec | apply gI_var | apply gG_var | apply gPG_var) <;> intro _))
        refine ⟨_, _, _, by omega, .refl _ _, x + 1, rfl, hlx, _, rfl, .inr ⟨by rw [hW1, hw0]; exact hn, by rw [hW1, hw0], by rw [hW1, hw0]⟩⟩
  · have : x = Q := by omega
    subst this
    have hjl := line_join r x
    have hln := line_nil r x
    unfold rowText at hnext
    generalize wordsTo r x = W at *
    generalize lineTo r x = L at *
    rcases hst with ⟨hn, rfl, rfl⟩ | ⟨hn, rfl, rfl⟩
    · rw [if_pos (hln.2 hn)] at hnext
      have hj : ∀ (st : VSt) (xs : List V), snapL st.own xs = some [.sl 0 1 ([[45]].map sD), .sc (.string ⟨#[32]⟩)] → VSpecO C.E 34 st xs (strV [45]) := fun st xs h1 => by
        rw [hC]
        exact (VSpec.ofO (join_s w (n + 3) ⟨[], 0, 0⟩ 0 (by decide) [[45]] [32] (by decide) (by decide))).flat rfl h1
      have e5 := cat_l [45] [10] (by decide)
      have hsz : (⟨#[45, 10]⟩ : ByteArray).size = 2 := rfl
      subst hG
      repeat' (first | (simp (disch := first | omega | assumption | exact bd (by with_unfolding_all rfl) | exact Or.inl rfl | exact Or.inl trivial | exact okL_map _ (fun _ => rfl) _ | (simp only [VVlen] <;> omega) | fail) only [VV0, VV1, VV2, VV3, VV4, VV5, VV6, VV7, VV8, VV9, mkFnV, vargs, slotsL, opdsA, Nat.reduceEqDiff, Nat.reduceLT, Nat.reduceAdd, Nat.reduceBEq, Int.reduceAdd, Int.reduceSub, Int.reduceLT, Int.reduceLE, Int.reduceEq, Int.reduceNeg, ↓reduceIte, reduceCtorEq, scL, scD, expand, List.replicate, c11l0, sD_dv, eqNilS_nil]) | apply gC_drawW | ((first | apply gI_dec | apply gG_dec | apply gPG_dec | apply gI_var | apply gG_var | apply gPG_var) <;> intro _))
      refine callV_flat (hj _ _ rfl) ?_
      repeat' (first | (simp (disch := first | omega | assumption | exact bd (by with_unfolding_all rfl) | exact Or.inl rfl | exact Or.inl trivial | exact okL_map _ (fun _ => rfl) _ | (simp only [VVlen] <;> omega) | fail) only [VV0, VV1, VV2, VV3, VV4, VV5, VV6, VV7, VV8, VV9, mkFnV, vargs, slotsL, opdsA, Nat.reduceEqDiff, Nat.reduceLT, Nat.reduceAdd, Nat.reduceBEq, Int.reduceAdd, Int.reduceSub, Int.reduceLT, Int.reduceLE, Int.reduceEq, Int.reduceNeg, ↓reduceIte, reduceCtorEq, scL, scD, expand, List.replicate, e5]) | apply gC_drawW | ((first | apply gI_dec | apply gG_dec | apply gPG_dec | apply gI_var | apply gG_var | apply gPG_var) <;> intro _))
      refine writeString_w w (n + 1) hC 1 2 p acc _ rfl rfl hp (Nat.zero_le _) (Nat.zero_le _) (by decide) (Nat.ne_of_beq_eq_false rfl) (by rw [hsz]; omega) ?_
      repeat' (first | (simp (disch := first | omega | assumption | exact bd (by with_unfolding_all rfl) | exact Or.inl rfl | exact Or.inl trivial | exact okL_map _ (fun _ => rfl) _ | (simp only [VVlen] <;> omega) | fail) only [VV0, VV1, VV2, VV3, VV4, VV5, VV6, VV7, VV8, VV9, mkFnV, vargs, slotsL, opdsA, Nat.reduceEqDiff, Nat.reduceLT, Nat.reduceAdd, Nat.reduceBEq, Int.reduceAdd, Int.reduceSub, Int.reduceLT, Int.reduceLE, Int.reduceEq, Int.reduceNeg, ↓reduceIte, reduceCtorEq, scL, scD, expand, List.replicate]) | apply gC_drawW | ((first | apply gI_dec | apply gG_dec | apply gPG_dec | apply gI_var | apply gG_var | apply gPG_var) <;> intro _))
      refine ⟨_, _, _, by omega, weak_to [(4, 2), (1, 1), (0, 0)] 3 h0 rfl rfl rfl rfl, y + 1, .ptr 1 0, acc ++ ⟨#[45, 10]⟩, rfl, hlt, .inr rfl, ?_, rfl, ?_⟩
      · rw [ByteArray.data_append, Array.toList_append, ha, hnext]; rfl
      · rw [ByteArray.size_append]; rfl
    · rw [if_neg (fun e => hn (hln.1 e))] at hnext
      have hj : ∀ (st : VSt) (xs : List V), snapL st.own xs = some [.sl 2 W.length (W.map sD), .sc (.string ⟨#[32]⟩)] → VSpecO C.E 34 st xs (strV L) := fun st xs h1 => by
        rw [hC, ← hjl]
        exact (VSpec.ofO (join_s w (n + 3) ⟨[], 0, 0⟩ 2 (by decide) W [32] (by omega) (by rw [hjl]; omega))).flat rfl h1
      have e5 := cat_l L [10] (by simp; omega)
      have hsz : (⟨(L ++ [10]).toArray⟩ : ByteArray).size = L.length + 1 := by simp [ByteArray.size]
      have hwl0 : W.length ≠ 0 := fun h => hn (List.eq_nil_of_length_eq_zero h)
      have hml : (W.map sD).length = W.length := by rw [List.length_map]
      subst hG
      repeat' (first | (simp (disch := first | omega | assumption | exact bd (by with_unfolding_all rfl) | exact Or.inl rfl | exact Or.inl trivial | exact okL_map _ (fun _ => rfl) _ | (simp only [VVlen] <;> omega) | fail) only [VV0, VV1, VV2, VV3, VV4, VV5, VV6, VV7, VV8, VV9, mkFnV, vargs, slotsL, opdsA, Nat.reduceEqDiff, Nat.reduceLT, Nat.reduceAdd, Nat.reduceBEq, Int.reduceAdd, Int.reduceSub, Int.reduceLT, Int.reduceLE, Int.reduceEq, Int.reduceNeg, ↓reduceIte, reduceCtorEq, scL, scD, expand, List.replicate, c11l0, sD_dv, eqNilS_gr]) | apply gC_drawW | ((first | apply gI_dec | apply gG_dec | apply gPG_dec | apply gI_var | apply gG_var | apply gPG_var) <;> intro _))
      refine callV_flat (hj _ _ ?hs) ?_
      case hs =>
        show (snapV _ (.gr 2 3 W.length)).bind _ = _
        rw [snap_grD (o := 3) (t := 9) (z := false) (l := W.map sD) rfl hml]
        rfl
      repeat' (first | (simp (disch := first | omega | assumption | exact bd (by with_unfolding_all rfl) | exact Or.inl rfl | exact Or.inl trivial | exact okL_map _ (fun _ => rfl) _ | (simp only [VVlen] <;> omega) | fail) only [VV0, VV1, VV2, VV3, VV4, VV5, VV6, VV7, VV8, VV9, mkFnV, vargs, slotsL, opdsA, Nat.reduceEqDiff, Nat.reduceLT, Nat.reduceAdd, Nat.reduceBEq, Int.reduceAdd, Int.reduceSub, Int.reduceLT, Int.reduceLE, Int.reduceEq, Int.reduceNeg, ↓reduceIte, reduceCtorEq, scL, scD, expand, List.replicate, e5]) | apply gC_drawW | ((first | apply gI_dec | apply gG_dec | apply gPG_dec | apply gI_var | apply gG_var | apply gPG_var) <;> intro _))
      refine writeString_w w (n + 1) hC 1 2 p acc _ rfl rfl hp (Nat.zero_le _) (Nat.zero_le _) (by decide) (Nat.ne_of_beq_eq_false rfl) (by rw [hsz]; omega) ?_
      repeat' (first | (simp (disch := first | omega | assumption | exact bd (by with_unfolding_all rfl) | exact Or.inl rfl | exact Or.inl trivial | exact okL_map _ (fun _ => rfl) _ | (simp only [VVlen] <;> omega) | fail) only [VV0, VV1, VV2, VV3, VV4, VV5, VV6, VV7, VV8, VV9, mkFnV, vargs, slotsL, opdsA, Nat.reduceEqDiff, Nat.reduceLT, Nat.reduceAdd, Nat.reduceBEq, Int.reduceAdd, Int.reduceSub, Int.reduceLT, Int.reduceLE, Int.reduceEq, Int.reduceNeg, ↓reduceIte, reduceCtorEq, scL, scD, expand, List.replicate]) | apply gC_drawW | ((first | apply gI_dec | apply gG_dec | apply gPG_dec | apply gI_var | apply gG_var | apply gPG_var) <;> intro _))
      refine ⟨_, _, _, by omega, weak_to [(4, 2), (1, 1), (0, 0)] 3 h0 rfl rfl rfl rfl, y + 1, .ptr 1 0, acc ++ ⟨(L ++ [10]).toArray⟩, rfl, hlt, .inr rfl, ?_, rfl, ?_⟩
      · rw [ByteArray.data_append, Array.toList_append, ha, hnext]
      · rw [ByteArray.size_append]; rfl
end
end Go.Proofs.YtepdkmdcainddaaDoor
namespace Go.Proofs.YtepdkmdcainddaaDoor
open Go Go.Itp
set_option maxRecDepth 100000
set_option maxHeartbeats 1000000
set_option linter.unusedSimpArgs false
theorem oddTo_congr {p q : Nat → Bool} : ∀ n, (∀ i, i < n → p i = q i) → oddTo p n = oddTo q n
  | 0, _ => rfl
  | n + 1, h => by rw [oddTo, oddTo, oddTo_congr n (fun i hi => h i (by omega)), h n (by omega)]
theorem oddTo_pegs (l : List Bool) : ∀ k, k ≤ l.length → oddTo (fun x => l[x]!) k = decide (pegs (l.take k) % 2 = 1)
  | 0, _ => by simp [oddTo, pegs]
  | k + 1, h => by
    rw [oddTo, oddTo_pegs l k (by omega), pegs_take l k (by omega)]
    by_cases h1 : pegs (l.take k) % 2 = 1
    · by_cases h2 : l[k]! = true
      · rw [if_pos h2, h2, decide_eq_true h1, decide_eq_false (by omega)]; rfl
      · rw [if_neg h2, Bool.eq_false_iff.2 h2, decide_eq_true h1, decide_eq_true (by omega)]; rfl
    · by_cases h2 : l[k]! = true
      · rw [if_pos h2, h2, decide_eq_false h1, decide_eq_true (by omega)]; rfl
      · rw [if_neg h2, Bool.eq_false_iff.2 h2, decide_eq_false h1, decide_eq_false (by omega)]; rfl
theorem oddTo_all (l : List Bool) (n : Nat) (h : l.length = n) : oddTo (fun x => l[x]!) n = decide (pegs l % 2 = 1) := by
  have := oddTo_pegs l n (by omega)
  rw [List.take_of_length_le (by omega)] at this
  exact this
theorem full_pegs (B : List Bool) (Q k : Nat) : oddTo (fun x => (bitsRow B Q k ++ [false])[x]!) Q = decide (pegs (bitsRow B Q k) % 2 = 1) := by
  rw [← oddTo_all (bitsRow B Q k) Q (bitsRow_len B Q k)]
  refine oddTo_congr Q fun i hi => ?_
  have h1 := bitsRow_len B Q k
  rw [getElem!_pos _ i (by simp; omega), getElem!_pos _ i (by omega), List.getElem_append_left (by omega)]
theorem full_eq (B : List Bool) (Q k : Nat) : fullRow B Q k = bitsRow B Q k ++ [decide (pegs (bitsRow B Q k) % 2 = 1)] := by rw [fullRow, full_pegs]
theorem colV_pegs (B : List Bool) (Q K x : Nat) : colV B Q K x = decide (pegs (colOf (encRows B Q K) x) % 2 = 1) := by
  rw [← oddTo_all (colOf (encRows B Q K) x) K (by rw [colOf_len, encRows_len])]
  refine oddTo_congr K fun i hi => ?_
  have h1 := encRows_len B Q K
  rw [getElem!_pos (colOf (encRows B Q K) x) i (by rw [colOf_len]; omega)]
  simp only [colOf, List.getElem_map]
  rw [getElem!_pos (encRows B Q K) i (by omega)]
def lastN (B : List Bool) (Q K x : Nat) : List Bool := (List.range x).map (colV B Q K)
theorem lastN_len (B : List Bool) (Q K x : Nat) : (lastN B Q K x).length = x := by simp [lastN]
theorem lastN_succ (B : List Bool) (Q K x : Nat) : lastN B Q K (x + 1) = lastN B Q K x ++ [colV B Q K x] := by simp [lastN, List.range_succ]
theorem lastN_all (B : List Bool) (Q K : Nat) : lastN B Q K (Q + 1) = lastTo B Q K (Q + 1) := by simp [lastN, lastTo]
theorem encRows_succ (B : List Bool) (Q k : Nat) : encRows B Q (k + 1) = encRows B Q k ++ [fullRow B Q k] := by simp [encRows, List.range_succ]
section
variable (w : World) (n : Nat)
theorem pegs_b (st : VSt) (xs : List V) (s : Nat) (l : List Bool) (hl : l.length ≤ 10000) (h : snapL st.own xs = some [.sl s l.length (l.map bD)]) : VSpecO (EN w (n + 1)) 41 st xs (.sc (.int .i64 (pegs l))) :=
  (pegs_p w n s l (by omega)).flat rfl h
theorem column_w {C : Ctx} {Q : V → VSt → Prop} (hC : C.E = EN w (n + 1)) (s N K x : Nat) (B l4 : List Bool) (L : List (List Bool)) (hK : L.length = K) (hK2 : K ≤ 64) (hx : ∀ k, k < K → x < L[k]!.length)
    (hq : Q (.gr 2 5 K) ⟨[(5, .gro 4 1 false ((colOf L x).map bD)), (4, .gro 4 1 false (l4.map bD)), (3, .gro 22 1 false (L.map (rowD 2))), (2, .box 34 1 [.sc (.int .i64 N), .gr 2 3 K]), (1, .box 34 1 [.sc (.int .i64 0), .sc (.slice none 0 0)]), (0, .box 24 1 [.sc (.int .i64 N), .sc (.int .i64 K), .sl s B.length (B.map bD)])], 6, 0⟩) :
    CallV C 42 [.gr 2 3 K, .sc (.int .i64 x)] ⟨[(4, .gro 4 1 false (l4.map bD)), (3, .gro 22 1 false (L.map (rowD 2))), (2, .box 34 1 [.sc (.int .i64 N), .gr 2 3 K]), (1, .box 34 1 [.sc (.int .i64 0), .sc (.slice none 0 0)]), (0, .box 24 1 [.sc (.int .i64 N), .sc (.int .i64 K), .sl s B.length (B.map bD)])], 5, 0⟩ Q := by
  refine callV_w hC rfl rfl (fun _ _ => rfl) (Nat.le_of_ble_eq_true rfl) hq fun C' hC' hn => ?_
  have hnb : C'.w0.nx ≤ 6 := by rw [hn]; exact Nat.le_succ 5
  simp (disch := first | omega | assumption | exact bd (by with_unfolding_all rfl) | exact Or.inl rfl | exact Or.inl trivial | exact okL_map _ (fun _ => rfl) _ | (simp only [VVlen] <;> omega) | fail) only [VV0, VV1, VV2, VV3, VV4, VV5, VV6, VV7, VV8, VV9, mkFnV, vargs, slotsL, opdsA, Nat.reduceEqDiff, Nat.reduceLT, Nat.reduceAdd, Nat.reduceBEq, Int.reduceAdd, Int.reduceSub, Int.reduceLT, Int.reduceLE, Int.reduceEq, Int.reduceNeg, ↓reduceIte, reduceCtorEq, scL, scD, expand, List.replicate, c42]
  refine g_while (fun m fr st => ∃ k : Nat, m = K - k ∧ k ≤ K ∧ fr = [(0, .gr 2 3 K), (1, .sc (.int .i64 x)), (5, .gr 2 5 k), (6, .sc (.int .i64 k))] ∧
    st = ⟨[(5, .gro 4 1 false ((colOf (L.take k) x).map bD)), (4, .gro 4 1 false (l4.map bD)), (3, .gro 22 1 false (L.map (rowD 2))), (2, .box 34 1 [.sc (.int .i64 N), .gr 2 3 K]), (1, .box 34 1 [.sc (.int .i64 0), .sc (.slice none 0 0)]), (0, .box 24 1 [.sc (.int .i64 N), .sc (.int .i64 K), .sl s B.length (B.map bD)])], 6, 0⟩) K ?_ ⟨_, _, weak_nilSlot 5 4 1 rfl, 0, ?_⟩ ?_
  · rw [hC', callP_rounds]; unfold many; omega
  · exact ⟨by omega, by omega, rfl, rfl⟩
  · rintro m fr st ⟨k, rfl, hk, rfl, rfl⟩
    by_cases hlt : k < K
    · have hxk := hx k hlt
      have hlk : ((colOf (L.take k) x).map bD).length = k * 1 := by rw [List.length_map, colOf_len, List.length_take]; omega
      have hct := colOf_take L x k (by omega)
      have hLm : (L.map (rowD 2)).length = K := by rw [List.length_map]; exact hK
      repeat' (first | (simp (disch := first | omega | assumption | exact bd (by with_unfolding_all rfl) | exact Or.inl rfl | exact Or.inl trivial | exact okL_map _ (fun _ => rfl) _ | (simp only [VVlen] <;> omega) | fail) only [VV0, VV1, VV2, VV3, VV4, VV5, VV6, VV7, VV8, VV9, mkFnV, vargs, slotsL, opdsA, Nat.reduceEqDiff, Nat.reduceLT, Nat.reduceAdd, Nat.reduceBEq, Int.reduceAdd, Int.reduceSub, Int.reduceLT, Int.reduceLE, Int.reduceEq, Int.reduceNeg, ↓reduceIte, reduceCtorEq, scL, scD, expand, List.replicate, c42l0, bD_dv, rowD_dv]) | apply gC_drawW | ((first | apply gI_dec | apply gG_dec | apply gPG_dec | apply gI_var | apply gG_var | apply gPG_var) <;> intro _))
      refine ⟨_, _, _, by omega, weak_ren [(7, 5), (4, 4), (3, 3), (2, 2), (1, 1), (0, 0)] 6 hnb ?_, k + 1, rfl, hlt, rfl, ?_⟩
      · rw [show C'.w0.nx = 5 from hn]
        rfl
      · rw [hct, List.map_append]
        rfl
    · have : k = K := by omega
      subst this
      repeat' (first | (simp (disch := first | omega | assumption | exact bd (by with_unfolding_all rfl) | exact Or.inl rfl | exact Or.inl trivial | exact okL_map _ (fun _ => rfl) _ | (simp only [VVlen] <;> omega) | fail) only [VV0, VV1, VV2, VV3, VV4, VV5, VV6, VV7, VV8, VV9, mkFnV, vargs, slotsL, opdsA, Nat.reduceEqDiff, Nat.reduceLT, Nat.reduceAdd, Nat.reduceBEq, Int.reduceAdd, Int.reduceSub, Int.reduceLT, Int.reduceLE, Int.reduceEq, Int.reduceNeg, ↓reduceIte, reduceCtorEq, scL, scD, expand, List.replicate, c42l0, bD_dv, rowD_dv]) | apply gC_drawW | ((first | apply gI_dec | apply gG_dec | apply gPG_dec | apply gI_var | apply gG_var | apply gPG_var) <;> intro _))
      rw [List.take_of_length_le (by omega)]
      exact .refl _ _
theorem rencode_p (s : Nat) (Q K : Nat) (B : List Bool) (hfit : chkE Q K B.length = 0) (hQ : 1 ≤ Q ∧ Q ≤ 40) (hK : 1 ≤ K ∧ K ≤ 64) (hL : B.length = Q * K) :
    VSpec (EN w (n + 4)) 14 [gridV s Q K B] (.tup [.agg [.sc (.int .i64 Q), .sl 3 (K + 1) ((encV B Q K).map (rowD 2))], .sc (.int .i64 0)]) ⟨[], 0, 0⟩ := by
  refine vspec_g rfl rfl (fun _ _ => rfl) (Nat.le_of_ble_eq_true rfl) (oldVals w) retOK_finA2 rfl fun C hC h0 => ?_
  have hB1 : B.length ≤ 2560 := by rw [hL]; exact Nat.mul_le_mul hQ.2 hK.2
  have hc := fun st => (pcheck16_p w (n + 1) s Q K B (by omega)).of hC rfl st rfl
  rw [hfit] at hc
  repeat' (first | (simp (disch := first | omega | assumption | exact bd (by with_unfolding_all rfl) | exact Or.inl rfl | exact Or.inl trivial | exact okL_map _ (fun _ => rfl) _ | (simp only [VVlen] <;> omega) | fail) only [VV0, VV1, VV2, VV3, VV4, VV5, VV6, VV7, VV8, VV9, mkFnV, vargs, slotsL, opdsA, Nat.reduceEqDiff, Nat.reduceLT, Nat.reduceAdd, Nat.reduceBEq, Int.reduceAdd, Int.reduceSub, Int.reduceLT, Int.reduceLE, Int.reduceEq, Int.reduceNeg, ↓reduceIte, reduceCtorEq, scL, scD, expand, List.replicate, c14]) | apply gC_drawW | ((first | apply gI_dec | apply gG_dec | apply gPG_dec | apply gI_var | apply gG_var | apply gPG_var) <;> intro _))
  refine callV_flat (hc _) ?_
  repeat' (first | (simp (disch := first | omega | assumption | exact bd (by with_unfolding_all rfl) | exact Or.inl rfl | exact Or.inl trivial | exact okL_map _ (fun _ => rfl) _ | (simp only [VVlen] <;> omega) | fail) only [VV0, VV1, VV2, VV3, VV4, VV5, VV6, VV7, VV8, VV9, mkFnV, vargs, slotsL, opdsA, Nat.reduceEqDiff, Nat.reduceLT, Nat.reduceAdd, Nat.reduceBEq, Int.reduceAdd, Int.reduceSub, Int.reduceLT, Int.reduceLE, Int.reduceEq, Int.reduceNeg, ↓reduceIte, reduceCtorEq, scL, scD, expand, List.replicate]) | apply gC_drawW | ((first | apply gI_dec | apply gG_dec | apply gPG_dec | apply gI_var | apply gG_var | apply gPG_var) <;> intro _))
  refine g_while (fun m fr st => ∃ k : Nat, m = K - k ∧ k ≤ K ∧ fr = [(1, .ptr 0 0), (2, .ptr 1 0), (4, .ptr 2 0), (5, .sc (.int .i64 k))] ∧
    st = ⟨[(3, .gro 22 1 false ((encRows B Q k).map (rowD 2))), (2, .box 34 1 [.sc (.int .i64 Q), .gr 2 3 k]), (1, .box 34 1 [.sc (.int .i64 0), .sc (.slice none 0 0)]), (0, .box 24 1 [.sc (.int .i64 Q), .sc (.int .i64 K), .sl s B.length (B.map bD)])], 4, 0⟩) K ?_ ⟨_, _, weak_nilCell (l := [.sc (.int .i64 Q), .sc (.slice none 0 0)]) 2 34 1 1 22 1 ?_ rfl ?_, 0, ?_⟩ ?_
  · rw [hC, callP_rounds]; unfold many; omega
  · rfl
  · exact Nat.ne_of_beq_eq_false rfl
  · exact ⟨by omega, by omega, rfl, rfl⟩
  rintro m fr st ⟨k, rfl, hk, rfl, rfl⟩
  have hel := encRows_len B Q k
  by_cases hlt : k < K
  · have hkQ : k * Q + Q ≤ B.length := by
      rw [hL, Nat.mul_comm Q K, ← Nat.succ_mul]; exact Nat.mul_le_mul_right Q hlt
    obtain ⟨P, hP⟩ : ∃ P, P = k * Q := ⟨_, rfl⟩
    have hP1 : (k : Int) * (Q : Int) = (P : Int) := by rw [hP]; simp
    have hPB : P + Q ≤ B.length := by omega
    have e1 : ((P : Int) + (Q : Int)).toNat - P = Q := by omega
    have e2 : List.take Q (List.drop P B) = bitsRow B Q k := by rw [hP]; exact part_row B Q k (by rw [Nat.succ_mul]; exact hkQ)
    have e0 := bitsRow_len B Q k
    have e3 : ((bitsRow B Q k).map bD).length = Q := by rw [List.length_map, bitsRow_len]
    have hnx := encRows_succ B Q k
    rw [full_eq] at hnx
    generalize hE1 : encRows B Q (k + 1) = E1 at *
    generalize encRows B Q k = E0 at *
    repeat' (first | (simp (disch := first | omega | assumption | exact bd (by with_unfolding_all rfl) | exact Or.inl rfl | exact Or.inl trivial | exact okL_map _ (fun _ => rfl) _ | (simp only [VVlen] <;> omega) | fail) only [VV0, VV1, VV2, VV3, VV4, VV5, VV6, VV7, VV8, VV9, mkFnV, vargs, slotsL, opdsA, Nat.reduceEqDiff, Nat.reduceLT, Nat.reduceAdd, Nat.reduceBEq, Int.reduceAdd, Int.reduceSub, Int.reduceLT, Int.reduceLE, Int.reduceEq, Int.reduceNeg, ↓reduceIte, reduceCtorEq, scL, scD, expand, List.replicate, c14l1, hP1, bD_dv, rowD_dv, e1, e2, e3]) | apply gC_drawW | ((first | apply gI_dec | apply gG_dec | apply gPG_dec | apply gI_var | apply gG_var | apply gPG_var) <;> intro _))
    generalize bitsRow B Q k = R at *
    have hpg : ∀ (st : VSt) (xs : List V), snapL st.own xs = some [.sl 2 R.length (R.map bD)] → VSpecO C.E 41 st xs (.sc (.int .i64 (pegs R))) := fun st xs h => by rw [hC]; exact pegs_b w (n + 2) st xs 2 R (by omega) h
    refine gD_callF (hpg _ _ ?hs) rfl rfl rfl ?_
    case hs =>
      show (snapV _ (.gr 2 5 Q)).bind _ = _
      rw [snap_grD (o := 5) (t := 4) (z := false) (l := R.map bD) rfl e3, e0]
      rfl
    have hdec : decide (((pegs R : Nat) : Int) % 2 = 1) = decide (pegs R % 2 = 1) := by congr 1; apply propext; omega
    repeat' (first | (simp (disch := first | omega | assumption | exact bd (by with_unfolding_all rfl) | exact Or.inl rfl | exact Or.inl trivial | exact okL_map _ (fun _ => rfl) _ | (simp only [VVlen] <;> omega) | fail) only [VV0, VV1, VV2, VV3, VV4, VV5, VV6, VV7, VV8, VV9, mkFnV, vargs, slotsL, opdsA, Nat.reduceEqDiff, Nat.reduceLT, Nat.reduceAdd, Nat.reduceBEq, Int.reduceAdd, Int.reduceSub, Int.reduceLT, Int.reduceLE, Int.reduceEq, Int.reduceNeg, ↓reduceIte, reduceCtorEq, scL, scD, expand, List.replicate, vd_app, dApp_gr, dAppO_one, vrc_okA, vrc_okB, subL, e3, hdec]) | apply gC_drawW | ((first | apply gI_dec | apply gG_dec | apply gPG_dec | apply gI_var | apply gG_var | apply gPG_var) <;> intro _))
    refine ⟨_, _, _, by omega, weak_to [(9, 3), (2, 2), (1, 1), (0, 0)] 4 h0 rfl rfl rfl rfl, k + 1, rfl, hlt, rfl, ?_⟩
    rw [hE1, hnx, List.map_append, List.map_cons, rowD, List.length_append, e0, List.map_append]
    rfl
  have : k = K := by omega
  subst this
  have hpg : ∀ (st : VSt) (xs : List V) (R : List Bool), R.length ≤ 1000 → snapL st.own xs = some [.sl 2 R.length (R.map bD)] → VSpecO C.E 41 st xs (.sc (.int .i64 (pegs R))) := fun st xs R hR h => by rw [hC]; exact pegs_b w (n + 2) st xs 2 R (by omega) h
  repeat' (first | (simp (disch := first | omega | assumption | exact bd (by with_unfolding_all rfl) | exact Or.inl rfl | exact Or.inl trivial | exact okL_map _ (fun _ => rfl) _ | (simp only [VVlen] <;> omega) | fail) only [VV0, VV1, VV2, VV3, VV4, VV5, VV6, VV7, VV8, VV9, mkFnV, vargs, slotsL, opdsA, Nat.reduceEqDiff, Nat.reduceLT, Nat.reduceAdd, Nat.reduceBEq, Int.reduceAdd, Int.reduceSub, Int.reduceLT, Int.reduceLE, Int.reduceEq, Int.reduceNeg, ↓reduceIte, reduceCtorEq, scL, scD, expand, List.replicate, c14l1, bD_dv, rowD_dv]) | apply gC_drawW | ((first | apply gI_dec | apply gG_dec | apply gPG_dec | apply gI_var | apply gG_var | apply gPG_var) <;> intro _))
  refine g_while (fun m fr st => ∃ x : Nat, m = Q + 1 - x ∧ x ≤ Q + 1 ∧ fr = [(1, .ptr 0 0), (2, .ptr 1 0), (4, .ptr 2 0), (7, .gr 2 4 x), (8, .sc (.int .i64 x))] ∧
    st = ⟨[(4, .gro 4 1 false ((lastN B Q k x).map bD)), (3, .gro 22 1 false ((encRows B Q k).map (rowD 2))), (2, .box 34 1 [.sc (.int .i64 Q), .gr 2 3 k]), (1, .box 34 1 [.sc (.int .i64 0), .sc (.slice none 0 0)]), (0, .box 24 1 [.sc (.int .i64 Q), .sc (.int .i64 k), .sl s B.length (B.map bD)])], 5, 0⟩) (Q + 1) ?_ ⟨_, _, weak_nilSlot 7 4 1 rfl, 0, ?_⟩ ?_
  · rw [hC, callP_rounds]; unfold many; omega
  · exact ⟨by omega, by omega, rfl, rfl⟩
  rintro m fr st ⟨x, rfl, hx, rfl, rfl⟩
  have hll := lastN_len B Q k x
  by_cases hlx : x < Q + 1
  · have hcp := colV_pegs B Q k x
    have hcl := colOf_len (encRows B Q k) x
    have hnx := lastN_succ B Q k x
    generalize hL1 : lastN B Q k (x + 1) = L1 at *
    generalize lastN B Q k x = L0 at *
    generalize colV B Q k x = cv at *
    generalize hCO : colOf (encRows B Q k) x = CO at *
    have hdec : decide (((pegs CO : Nat) : Int) % 2 = 1) = cv := by rw [hcp]; congr 1; apply propext; omega
    have hmm : (L0.map bD).length = x := by rw [List.length_map, hll]
    repeat' (first | (simp (disch := first | omega | assumption | exact bd (by with_unfolding_all rfl) | exact Or.inl rfl | exact Or.inl trivial | exact okL_map _ (fun _ => rfl) _ | (simp only [VVlen] <;> omega) | fail) only [VV0, VV1, VV2, VV3, VV4, VV5, VV6, VV7, VV8, VV9, mkFnV, vargs, slotsL, opdsA, Nat.reduceEqDiff, Nat.reduceLT, Nat.reduceAdd, Nat.reduceBEq, Int.reduceAdd, Int.reduceSub, Int.reduceLT, Int.reduceLE, Int.reduceEq, Int.reduceNeg, ↓reduceIte, reduceCtorEq, scL, scD, expand, List.replicate, c14l0, bD_dv, rowD_dv]) | apply gC_drawW | ((first | apply gI_dec | apply gG_dec | apply gPG_dec | apply gI_var | apply gG_var | apply gPG_var) <;> intro _))
    refine column_w w (n + 2) hC s Q k x B L0 (encRows B Q k) hel hK.2 (fun i hi => by rw [encRows_row B Q k i hi]; omega) ?_
    rw [hCO]
    repeat' (first | (simp (disch := first | omega | assumption | exact bd (by with_unfolding_all rfl) | exact Or.inl rfl | exact Or.inl trivial | exact okL_map _ (fun _ => rfl) _ | (simp only [VVlen] <;> omega) | fail) only [VV0, VV1, VV2, VV3, VV4, VV5, VV6, VV7, VV8, VV9, mkFnV, vargs, slotsL, opdsA, Nat.reduceEqDiff, Nat.reduceLT, Nat.reduceAdd, Nat.reduceBEq, Int.reduceAdd, Int.reduceSub, Int.reduceLT, Int.reduceLE, Int.reduceEq, Int.reduceNeg, ↓reduceIte, reduceCtorEq, scL, scD, expand, List.replicate]) | apply gC_drawW | ((first | apply gI_dec | apply gG_dec | apply gPG_dec | apply gI_var | apply gG_var | apply gPG_var) <;> intro _))
    refine callV_flat (hpg _ _ CO (by omega) ?hs) ?_
    case hs =>
      show (snapV _ (.gr 2 5 k)).bind _ = _
      rw [snap_grD (o := 5) (t := 4) (z := false) (l := CO.map bD) rfl (by rw [List.length_map, hcl, hel]), hcl, hel]
      rfl
    repeat' (first | (simp (disch := first | omega | assumption | exact bd (by with_unfolding_all rfl) | exact Or.inl rfl | exact Or.inl trivial | exact okL_map _ (fun _ => rfl) _ | (simp only [VVlen] <;> omega) | fail) only [VV0, VV1, VV2, VV3, VV4, VV5, VV6, VV7, VV8, VV9, mkFnV, vargs, slotsL, opdsA, Nat.reduceEqDiff, Nat.reduceLT, Nat.reduceAdd, Nat.reduceBEq, Int.reduceAdd, Int.reduceSub, Int.reduceLT, Int.reduceLE, Int.reduceEq, Int.reduceNeg, ↓reduceIte, reduceCtorEq, scL, scD, expand, List.replicate, hdec]) | apply gC_drawW | ((first | apply gI_dec | apply gG_dec | apply gPG_dec | apply gI_var | apply gG_var | apply gPG_var) <;> intro _))
    refine ⟨_, _, _, by omega, weak_to [(7, 4), (3, 3), (2, 2), (1, 1), (0, 0)] 5 h0 rfl rfl rfl rfl, x + 1, rfl, hlx, rfl, ?_⟩
    rw [hL1, hnx, List.map_append]
    rfl
  · have : x = Q + 1 := by omega
    subst this
    have hla := lastN_all B Q k
    generalize lastN B Q k (Q + 1) = L0 at *
    have hmm : (L0.map bD).length = Q + 1 := by rw [List.length_map, hll]
    repeat' (first | (simp (disch := first | omega | assumption | exact bd (by with_unfolding_all rfl) | exact Or.inl rfl | exact Or.inl trivial | exact okL_map _ (fun _ => rfl) _ | (simp only [VVlen] <;> omega) | fail) only [VV0, VV1, VV2, VV3, VV4, VV5, VV6, VV7, VV8, VV9, mkFnV, vargs, slotsL, opdsA, Nat.reduceEqDiff, Nat.reduceLT, Nat.reduceAdd, Nat.reduceBEq, Int.reduceAdd, Int.reduceSub, Int.reduceLT, Int.reduceLE, Int.reduceEq, Int.reduceNeg, ↓reduceIte, reduceCtorEq, scL, scD, expand, List.replicate, c14l0, bD_dv, rowD_dv]) | apply gC_drawW | ((first | apply gI_dec | apply gG_dec | apply gPG_dec | apply gI_var | apply gG_var | apply gPG_var) <;> intro _))
    have e9 : (encRows B Q k).map (rowD 2) ++ [D.sl 2 (Q + 1) (L0.map bD)] = (encV B Q k).map (rowD 2) := by
      unfold encV
      rw [List.map_append, ← hla, List.map_cons, rowD, hll]
      rfl
    rw [e9]
    exact weak_finA2 (C := C) (s := 2) (n := k + 1) (l := (encV B Q k).map (rowD 2)) (snap_grD rfl (by rw [List.length_map, encV_len])) rfl (.inl (by decide)) h0 rfl
end
end Go.Proofs.YtepdkmdcainddaaDoor
namespace Go.Proofs.YtepdkmdcainddaaDoor
open Go Go.Itp
set_option maxRecDepth 100000
set_option maxHeartbeats 1000000
set_option linter.unusedSimpArgs false
theorem callV_fin {C : Ctx} {st : VSt} {f : FuncId} {xs : List V} {v : V} {Q : V → VSt → Prop} (h : VSpec C.E f xs v ⟨[], 0, 0⟩) (hs : snapL st.own xs = some xs) (hz : fzSL xs = []) (hv : ∀ k, vsh k v = v) (hq : Q v st) : CallV C f xs st Q := by
  refine callV_of h hs (by rw [hz]; rfl) rfl ?_
  rw [hz, hv, frozA_none]
  exact hq
theorem lifts_g (w : World) (a b : Int) (B : List Bool) (hB : B.length ≤ 140737488351232) {C : Ctx} (hC : C.E = EN w 8) (h0 : C.w0.nx = 0) :
    gC C c3.code [] (vargs 0 [gridV 3 a b B]) ⟨[], 0, 0⟩ (RetV C c3.res (.sc (.bool true)) ⟨[], 0, 0⟩) := by
  have f2 : ∀ (H : VHp), frozA [] H = H := frozA_none
  have gr := great_p w 7 3 a b B hB
  by_cases hg : 4200 < B.length
  · rw [decide_eq_true hg] at gr
    repeat' (first | (simp (disch := first | omega | assumption | exact bd (by with_unfolding_all rfl) | exact Or.inl rfl | exact Or.inl trivial | exact okL_map _ (fun _ => rfl) _ | (simp only [VVlen] <;> omega) | fail) only [VV0, VV1, VV2, VV3, VV4, VV5, VV6, VV7, VV8, VV9, mkFnV, vargs, slotsL, opdsA, Nat.reduceEqDiff, Nat.reduceLT, Nat.reduceAdd, Nat.reduceBEq, Int.reduceAdd, Int.reduceSub, Int.reduceLT, Int.reduceLE, Int.reduceEq, Int.reduceNeg, ↓reduceIte, reduceCtorEq, scL, scD, expand, List.replicate, c3]) | apply gC_drawW | ((first | apply gI_dec | apply gG_dec | apply gPG_dec | apply gI_var | apply gG_var | apply gPG_var) <;> intro _))
    refine callV_flat (by rw [hC]; exact gr.flat rfl rfl) ?_
    repeat' (first | (simp (disch := first | omega | assumption | exact bd (by with_unfolding_all rfl) | exact Or.inl rfl | exact Or.inl trivial | exact okL_map _ (fun _ => rfl) _ | (simp only [VVlen] <;> omega) | fail) only [VV0, VV1, VV2, VV3, VV4, VV5, VV6, VV7, VV8, VV9, mkFnV, vargs, slotsL, opdsA, Nat.reduceEqDiff, Nat.reduceLT, Nat.reduceAdd, Nat.reduceBEq, Int.reduceAdd, Int.reduceSub, Int.reduceLT, Int.reduceLE, Int.reduceEq, Int.reduceNeg, ↓reduceIte, reduceCtorEq, scL, scD, expand, List.replicate]) | apply gC_drawW | ((first | apply gI_dec | apply gG_dec | apply gPG_dec | apply gI_var | apply gG_var | apply gPG_var) <;> intro _))
    exact weak_flat rfl h0 rfl
  rw [decide_eq_false hg] at gr
  have tw := twin_p w 7 3 a b B (by omega)
  have ck1 := pcheck_p w 6 3 a b B (by omega)
  have ck2 := pcheck16_p w 6 3 a b B (by omega)
  have sm := same01_p w 7 3 3 a b B (by omega)
  repeat' (first | (simp (disch := first | omega | assumption | exact bd (by with_unfolding_all rfl) | exact Or.inl rfl | exact Or.inl trivial | exact okL_map _ (fun _ => rfl) _ | (simp only [VVlen] <;> omega) | fail) only [VV0, VV1, VV2, VV3, VV4, VV5, VV6, VV7, VV8, VV9, mkFnV, vargs, slotsL, opdsA, Nat.reduceEqDiff, Nat.reduceLT, Nat.reduceAdd, Nat.reduceBEq, Int.reduceAdd, Int.reduceSub, Int.reduceLT, Int.reduceLE, Int.reduceEq, Int.reduceNeg, ↓reduceIte, reduceCtorEq, scL, scD, expand, List.replicate, c3]) | apply gC_drawW | ((first | apply gI_dec | apply gG_dec | apply gPG_dec | apply gI_var | apply gG_var | apply gPG_var) <;> intro _))
  refine callV_flat (by rw [hC]; exact gr.flat rfl rfl) ?_
  repeat' (first | (simp (disch := first | omega | assumption | exact bd (by with_unfolding_all rfl) | exact Or.inl rfl | exact Or.inl trivial | exact okL_map _ (fun _ => rfl) _ | (simp only [VVlen] <;> omega) | fail) only [VV0, VV1, VV2, VV3, VV4, VV5, VV6, VV7, VV8, VV9, mkFnV, vargs, slotsL, opdsA, Nat.reduceEqDiff, Nat.reduceLT, Nat.reduceAdd, Nat.reduceBEq, Int.reduceAdd, Int.reduceSub, Int.reduceLT, Int.reduceLE, Int.reduceEq, Int.reduceNeg, ↓reduceIte, reduceCtorEq, scL, scD, expand, List.replicate]) | apply gC_drawW | ((first | apply gI_dec | apply gG_dec | apply gPG_dec | apply gI_var | apply gG_var | apply gPG_var) <;> intro _))
  refine callV_fin (by rw [hC]; exact tw) rfl rfl (fun _ => rfl) ?_
  by_cases hfit : chkE a b B.length = 0
  · obtain ⟨Q, K, rfl, rfl, hQ, hK, hL⟩ := fit_facts hfit
    have p1 := plan_p w 3 3 Q K B hfit hQ hK hL
    have p2 := rplan_p w 4 3 Q K B hfit hQ hK hL
    have p3 := encode_p w 4 3 Q K B hfit hQ hK hL
    have p4 := rencode_p w 4 3 Q K B hfit hQ hK hL
    have hlen := encV_len B Q K
    have ss := same17_p w 7 3 0 3 2 Q (encV B Q K) (by omega) (fun k hk => by
      rcases Nat.lt_or_ge k K with h | h
      · rw [getElem!_pos _ k hk]
        simp only [encV]
        rw [List.getElem_append_left (by rw [encRows_len]; exact h)]
        simp only [encRows, List.getElem_map, fullRow_len]
        omega
      · rw [getElem!_pos _ k hk]
        simp only [encV]
        rw [List.getElem_append_right (by rw [encRows_len]; exact h)]
        simp only [List.getElem_singleton, lastTo_len B Q K (Q + 1) (Nat.le_refl _)]
        omega)
    rw [hfit] at ck1 ck2
    have ss : VSpec (EN w 8) 17 [.agg [.sc (.int .i64 Q), .sl 3 (K + 1) ((encV B Q K).map (rowD 0))], .agg [.sc (.int .i64 Q), .sl 3 (K + 1) ((encV B Q K).map (rowD 2))]] (.sc (.bool true)) ⟨[], 0, 0⟩ := by rw [← hlen]; exact ss
    generalize planTo B Q K = T at *
    generalize encV B Q K = L at *
    repeat' (first | (simp (disch := first | omega | assumption | exact bd (by with_unfolding_all rfl) | exact Or.inl rfl | exact Or.inl trivial | exact okL_map _ (fun _ => rfl) _ | (simp only [VVlen] <;> omega) | fail) only [VV0, VV1, VV2, VV3, VV4, VV5, VV6, VV7, VV8, VV9, mkFnV, vargs, slotsL, opdsA, Nat.reduceEqDiff, Nat.reduceLT, Nat.reduceAdd, Nat.reduceBEq, Int.reduceAdd, Int.reduceSub, Int.reduceLT, Int.reduceLE, Int.reduceEq, Int.reduceNeg, ↓reduceIte, reduceCtorEq, scL, scD, expand, List.replicate]) | apply gC_drawW | ((first | apply gI_dec | apply gG_dec | apply gPG_dec | apply gI_var | apply gG_var | apply gPG_var) <;> intro _))
    refine callV_flat (by rw [hC]; exact p1.flat rfl rfl) ?_
    repeat' (first | (simp (disch := first | omega | assumption | exact bd (by with_unfolding_all rfl) | exact Or.inl rfl | exact Or.inl trivial | exact okL_map _ (fun _ => rfl) _ | (simp only [VVlen] <;> omega) | fail) only [VV0, VV1, VV2, VV3, VV4, VV5, VV6, VV7, VV8, VV9, mkFnV, vargs, slotsL, opdsA, Nat.reduceEqDiff, Nat.reduceLT, Nat.reduceAdd, Nat.reduceBEq, Int.reduceAdd, Int.reduceSub, Int.reduceLT, Int.reduceLE, Int.reduceEq, Int.reduceNeg, ↓reduceIte, reduceCtorEq, scL, scD, expand, List.replicate]) | apply gC_drawW | ((first | apply gI_dec | apply gG_dec | apply gPG_dec | apply gI_var | apply gG_var | apply gPG_var) <;> intro _))
    refine callV_flat (by rw [hC]; exact p2.flat rfl rfl) ?_
    repeat' (first | (simp (disch := first | omega | assumption | exact bd (by with_unfolding_all rfl) | exact Or.inl rfl | exact Or.inl trivial | exact okL_map _ (fun _ => rfl) _ | (simp only [VVlen] <;> omega) | fail) only [VV0, VV1, VV2, VV3, VV4, VV5, VV6, VV7, VV8, VV9, mkFnV, vargs, slotsL, opdsA, Nat.reduceEqDiff, Nat.reduceLT, Nat.reduceAdd, Nat.reduceBEq, Int.reduceAdd, Int.reduceSub, Int.reduceLT, Int.reduceLE, Int.reduceEq, Int.reduceNeg, ↓reduceIte, reduceCtorEq, scL, scD, expand, List.replicate]) | apply gC_drawW | ((first | apply gI_dec | apply gG_dec | apply gPG_dec | apply gI_var | apply gG_var | apply gPG_var) <;> intro _))
    refine callV_fin (by rw [hC]; exact p3) rfl rfl (fun _ => rfl) ?_
    repeat' (first | (simp (disch := first | omega | assumption | exact bd (by with_unfolding_all rfl) | exact Or.inl rfl | exact Or.inl trivial | exact okL_map _ (fun _ => rfl) _ | (simp only [VVlen] <;> omega) | fail) only [VV0, VV1, VV2, VV3, VV4, VV5, VV6, VV7, VV8, VV9, mkFnV, vargs, slotsL, opdsA, Nat.reduceEqDiff, Nat.reduceLT, Nat.reduceAdd, Nat.reduceBEq, Int.reduceAdd, Int.reduceSub, Int.reduceLT, Int.reduceLE, Int.reduceEq, Int.reduceNeg, ↓reduceIte, reduceCtorEq, scL, scD, expand, List.replicate]) | apply gC_drawW | ((first | apply gI_dec | apply gG_dec | apply gPG_dec | apply gI_var | apply gG_var | apply gPG_var) <;> intro _))
    refine callV_fin (by rw [hC]; exact p4) rfl rfl (fun _ => rfl) ?_
    repeat' (first | (simp (disch := first | omega | assumption | exact bd (by with_unfolding_all rfl) | exact Or.inl rfl | exact Or.inl trivial | exact okL_map _ (fun _ => rfl) _ | (simp only [VVlen] <;> omega) | fail) only [VV0, VV1, VV2, VV3, VV4, VV5, VV6, VV7, VV8, VV9, mkFnV, vargs, slotsL, opdsA, Nat.reduceEqDiff, Nat.reduceLT, Nat.reduceAdd, Nat.reduceBEq, Int.reduceAdd, Int.reduceSub, Int.reduceLT, Int.reduceLE, Int.reduceEq, Int.reduceNeg, ↓reduceIte, reduceCtorEq, scL, scD, expand, List.replicate]) | apply gC_drawW | ((first | apply gI_dec | apply gG_dec | apply gPG_dec | apply gI_var | apply gG_var | apply gPG_var) <;> intro _))
    refine call0_of (by rw [hC]; exact ck1.flat rfl rfl) ?_
    repeat' (first | (simp (disch := first | omega | assumption | exact bd (by with_unfolding_all rfl) | exact Or.inl rfl | exact Or.inl trivial | exact okL_map _ (fun _ => rfl) _ | (simp only [VVlen] <;> omega) | fail) only [VV0, VV1, VV2, VV3, VV4, VV5, VV6, VV7, VV8, VV9, mkFnV, vargs, slotsL, opdsA, Nat.reduceEqDiff, Nat.reduceLT, Nat.reduceAdd, Nat.reduceBEq, Int.reduceAdd, Int.reduceSub, Int.reduceLT, Int.reduceLE, Int.reduceEq, Int.reduceNeg, ↓reduceIte, reduceCtorEq, scL, scD, expand, List.replicate]) | apply gC_drawW | ((first | apply gI_dec | apply gG_dec | apply gPG_dec | apply gI_var | apply gG_var | apply gPG_var) <;> intro _))
    refine call0_of (by rw [hC]; exact ck2.flat rfl rfl) ?_
    repeat' (first | (simp (disch := first | omega | assumption | exact bd (by with_unfolding_all rfl) | exact Or.inl rfl | exact Or.inl trivial | exact okL_map _ (fun _ => rfl) _ | (simp only [VVlen] <;> omega) | fail) only [VV0, VV1, VV2, VV3, VV4, VV5, VV6, VV7, VV8, VV9, mkFnV, vargs, slotsL, opdsA, Nat.reduceEqDiff, Nat.reduceLT, Nat.reduceAdd, Nat.reduceBEq, Int.reduceAdd, Int.reduceSub, Int.reduceLT, Int.reduceLE, Int.reduceEq, Int.reduceNeg, ↓reduceIte, reduceCtorEq, scL, scD, expand, List.replicate]) | apply gC_drawW | ((first | apply gI_dec | apply gG_dec | apply gPG_dec | apply gI_var | apply gG_var | apply gPG_var) <;> intro _))
    refine call0_of (by rw [hC]; exact ss.flat rfl rfl) ?_
    repeat' (first | (simp (disch := first | omega | assumption | exact bd (by with_unfolding_all rfl) | exact Or.inl rfl | exact Or.inl trivial | exact okL_map _ (fun _ => rfl) _ | (simp only [VVlen] <;> omega) | fail) only [VV0, VV1, VV2, VV3, VV4, VV5, VV6, VV7, VV8, VV9, mkFnV, vargs, slotsL, opdsA, Nat.reduceEqDiff, Nat.reduceLT, Nat.reduceAdd, Nat.reduceBEq, Int.reduceAdd, Int.reduceSub, Int.reduceLT, Int.reduceLE, Int.reduceEq, Int.reduceNeg, ↓reduceIte, reduceCtorEq, scL, scD, expand, List.replicate]) | apply gC_drawW | ((first | apply gI_dec | apply gG_dec | apply gPG_dec | apply gI_var | apply gG_var | apply gPG_var) <;> intro _))
    refine callV_flat (by rw [hC]; exact sm.flat rfl rfl) ?_
    repeat' (first | (simp (disch := first | omega | assumption | exact bd (by with_unfolding_all rfl) | exact Or.inl rfl | exact Or.inl trivial | exact okL_map _ (fun _ => rfl) _ | (simp only [VVlen] <;> omega) | fail) only [VV0, VV1, VV2, VV3, VV4, VV5, VV6, VV7, VV8, VV9, mkFnV, vargs, slotsL, opdsA, Nat.reduceEqDiff, Nat.reduceLT, Nat.reduceAdd, Nat.reduceBEq, Int.reduceAdd, Int.reduceSub, Int.reduceLT, Int.reduceLE, Int.reduceEq, Int.reduceNeg, ↓reduceIte, reduceCtorEq, scL, scD, expand, List.replicate]) | apply gC_drawW | ((first | apply gI_dec | apply gG_dec | apply gPG_dec | apply gI_var | apply gG_var | apply gPG_var) <;> intro _))
    exact weak_flat rfl h0 rfl
  · have p1 := planE_p w 3 3 a b B (by omega) hfit
    have p2 := rplanE_p w 4 3 a b B (by omega) hfit
    have p3 := encE_p w 4 3 a b B (by omega) hfit
    have p4 := rencE_p w 4 3 a b B (by omega) hfit
    have ss := same17_p w 7 3 0 3 2 0 [] (by decide) (fun k hk => by cases hk)
    generalize chkE a b B.length = e at *
    repeat' (first | (simp (disch := first | omega | assumption | exact bd (by with_unfolding_all rfl) | exact Or.inl rfl | exact Or.inl trivial | exact okL_map _ (fun _ => rfl) _ | (simp only [VVlen] <;> omega) | fail) only [VV0, VV1, VV2, VV3, VV4, VV5, VV6, VV7, VV8, VV9, mkFnV, vargs, slotsL, opdsA, Nat.reduceEqDiff, Nat.reduceLT, Nat.reduceAdd, Nat.reduceBEq, Int.reduceAdd, Int.reduceSub, Int.reduceLT, Int.reduceLE, Int.reduceEq, Int.reduceNeg, ↓reduceIte, reduceCtorEq, scL, scD, expand, List.replicate]) | apply gC_drawW | ((first | apply gI_dec | apply gG_dec | apply gPG_dec | apply gI_var | apply gG_var | apply gPG_var) <;> intro _))
    refine callV_flat (by rw [hC]; exact p1.flat rfl rfl) ?_
    repeat' (first | (simp (disch := first | omega | assumption | exact bd (by with_unfolding_all rfl) | exact Or.inl rfl | exact Or.inl trivial | exact okL_map _ (fun _ => rfl) _ | (simp only [VVlen] <;> omega) | fail) only [VV0, VV1, VV2, VV3, VV4, VV5, VV6, VV7, VV8, VV9, mkFnV, vargs, slotsL, opdsA, Nat.reduceEqDiff, Nat.reduceLT, Nat.reduceAdd, Nat.reduceBEq, Int.reduceAdd, Int.reduceSub, Int.reduceLT, Int.reduceLE, Int.reduceEq, Int.reduceNeg, ↓reduceIte, reduceCtorEq, scL, scD, expand, List.replicate]) | apply gC_drawW | ((first | apply gI_dec | apply gG_dec | apply gPG_dec | apply gI_var | apply gG_var | apply gPG_var) <;> intro _))
    refine callV_flat (by rw [hC]; exact p2.flat rfl rfl) ?_
    repeat' (first | (simp (disch := first | omega | assumption | exact bd (by with_unfolding_all rfl) | exact Or.inl rfl | exact Or.inl trivial | exact okL_map _ (fun _ => rfl) _ | (simp only [VVlen] <;> omega) | fail) only [VV0, VV1, VV2, VV3, VV4, VV5, VV6, VV7, VV8, VV9, mkFnV, vargs, slotsL, opdsA, Nat.reduceEqDiff, Nat.reduceLT, Nat.reduceAdd, Nat.reduceBEq, Int.reduceAdd, Int.reduceSub, Int.reduceLT, Int.reduceLE, Int.reduceEq, Int.reduceNeg, ↓reduceIte, reduceCtorEq, scL, scD, expand, List.replicate]) | apply gC_drawW | ((first | apply gI_dec | apply gG_dec | apply gPG_dec | apply gI_var | apply gG_var | apply gPG_var) <;> intro _))
    refine callV_fin (by rw [hC]; exact p3) rfl rfl (fun _ => rfl) ?_
    repeat' (first | (simp (disch := first | omega | assumption | exact bd (by with_unfolding_all rfl) | exact Or.inl rfl | exact Or.inl trivial | exact okL_map _ (fun _ => rfl) _ | (simp only [VVlen] <;> omega) | fail) only [VV0, VV1, VV2, VV3, VV4, VV5, VV6, VV7, VV8, VV9, mkFnV, vargs, slotsL, opdsA, Nat.reduceEqDiff, Nat.reduceLT, Nat.reduceAdd, Nat.reduceBEq, Int.reduceAdd, Int.reduceSub, Int.reduceLT, Int.reduceLE, Int.reduceEq, Int.reduceNeg, ↓reduceIte, reduceCtorEq, scL, scD, expand, List.replicate]) | apply gC_drawW | ((first | apply gI_dec | apply gG_dec | apply gPG_dec | apply gI_var | apply gG_var | apply gPG_var) <;> intro _))
    refine callV_fin (by rw [hC]; exact p4) rfl rfl (fun _ => rfl) ?_
    repeat' (first | (simp (disch := first | omega | assumption | exact bd (by with_unfolding_all rfl) | exact Or.inl rfl | exact Or.inl trivial | exact okL_map _ (fun _ => rfl) _ | (simp only [VVlen] <;> omega) | fail) only [VV0, VV1, VV2, VV3, VV4, VV5, VV6, VV7, VV8, VV9, mkFnV, vargs, slotsL, opdsA, Nat.reduceEqDiff, Nat.reduceLT, Nat.reduceAdd, Nat.reduceBEq, Int.reduceAdd, Int.reduceSub, Int.reduceLT, Int.reduceLE, Int.reduceEq, Int.reduceNeg, ↓reduceIte, reduceCtorEq, scL, scD, expand, List.replicate]) | apply gC_drawW | ((first | apply gI_dec | apply gG_dec | apply gPG_dec | apply gI_var | apply gG_var | apply gPG_var) <;> intro _))
    refine call0_of (by rw [hC]; exact ck1.flat rfl rfl) ?_
    repeat' (first | (simp (disch := first | omega | assumption | exact bd (by with_unfolding_all rfl) | exact Or.inl rfl | exact Or.inl trivial | exact okL_map _ (fun _ => rfl) _ | (simp only [VVlen] <;> omega) | fail) only [VV0, VV1, VV2, VV3, VV4, VV5, VV6, VV7, VV8, VV9, mkFnV, vargs, slotsL, opdsA, Nat.reduceEqDiff, Nat.reduceLT, Nat.reduceAdd, Nat.reduceBEq, Int.reduceAdd, Int.reduceSub, Int.reduceLT, Int.reduceLE, Int.reduceEq, Int.reduceNeg, ↓reduceIte, reduceCtorEq, scL, scD, expand, List.replicate]) | apply gC_drawW | ((first | apply gI_dec | apply gG_dec | apply gPG_dec | apply gI_var | apply gG_var | apply gPG_var) <;> intro _))
    refine call0_of (by rw [hC]; exact ck2.flat rfl rfl) ?_
    repeat' (first | (simp (disch := first | omega | assumption | exact bd (by with_unfolding_all rfl) | exact Or.inl rfl | exact Or.inl trivial | exact okL_map _ (fun _ => rfl) _ | (simp only [VVlen] <;> omega) | fail) only [VV0, VV1, VV2, VV3, VV4, VV5, VV6, VV7, VV8, VV9, mkFnV, vargs, slotsL, opdsA, Nat.reduceEqDiff, Nat.reduceLT, Nat.reduceAdd, Nat.reduceBEq, Int.reduceAdd, Int.reduceSub, Int.reduceLT, Int.reduceLE, Int.reduceEq, Int.reduceNeg, ↓reduceIte, reduceCtorEq, scL, scD, expand, List.replicate]) | apply gC_drawW | ((first | apply gI_dec | apply gG_dec | apply gPG_dec | apply gI_var | apply gG_var | apply gPG_var) <;> intro _))
    refine call0_of (by rw [hC]; exact ss.flat rfl rfl) ?_
    repeat' (first | (simp (disch := first | omega | assumption | exact bd (by with_unfolding_all rfl) | exact Or.inl rfl | exact Or.inl trivial | exact okL_map _ (fun _ => rfl) _ | (simp only [VVlen] <;> omega) | fail) only [VV0, VV1, VV2, VV3, VV4, VV5, VV6, VV7, VV8, VV9, mkFnV, vargs, slotsL, opdsA, Nat.reduceEqDiff, Nat.reduceLT, Nat.reduceAdd, Nat.reduceBEq, Int.reduceAdd, Int.reduceSub, Int.reduceLT, Int.reduceLE, Int.reduceEq, Int.reduceNeg, ↓reduceIte, reduceCtorEq, scL, scD, expand, List.replicate]) | apply gC_drawW | ((first | apply gI_dec | apply gG_dec | apply gPG_dec | apply gI_var | apply gG_var | apply gPG_var) <;> intro _))
    refine callV_flat (by rw [hC]; exact sm.flat rfl rfl) ?_
    repeat' (first | (simp (disch := first | omega | assumption | exact bd (by with_unfolding_all rfl) | exact Or.inl rfl | exact Or.inl trivial | exact okL_map _ (fun _ => rfl) _ | (simp only [VVlen] <;> omega) | fail) only [VV0, VV1, VV2, VV3, VV4, VV5, VV6, VV7, VV8, VV9, mkFnV, vargs, slotsL, opdsA, Nat.reduceEqDiff, Nat.reduceLT, Nat.reduceAdd, Nat.reduceBEq, Int.reduceAdd, Int.reduceSub, Int.reduceLT, Int.reduceLE, Int.reduceEq, Int.reduceNeg, ↓reduceIte, reduceCtorEq, scL, scD, expand, List.replicate]) | apply gC_drawW | ((first | apply gI_dec | apply gG_dec | apply gPG_dec | apply gI_var | apply gG_var | apply gPG_var) <;> intro _))
    exact weak_flat rfl h0 rfl
end Go.Proofs.YtepdkmdcainddaaDoor
namespace Go.Proofs.YtepdkmdcainddaaDoor
open Go Go.Itp
open Go.ChangeShapes Go.WideShapes Go.ChangeAt Go.RowKit
set_option linter.unusedVariables false
set_option maxRecDepth 100000
set_option maxHeartbeats 4000000
theorem reach_lt : reachBytes ≤ 140737488351232 := by decide
def listed : List (String × DataW Unit) := [("math/bits.deBruijn32tab", Rows.laid_math_bits_deBruijn32tab), ("math/bits.deBruijn64tab", Rows.laid_math_bits_deBruijn64tab), ("internal/strconv.uint64pow10", Rows.laid_internal_strconv_uint64pow10)]
theorem listed_met (os : Os) (args : Array Value) : laidMetH Tryd.prog listed ((World.laidAll Tryd.prog os listed).forCall (fun _ _ => 0) ⟨#[], args, []⟩).memory := by
  rw [MakeChecks.laidMetH_plain _ _ _ (by kernel_rfl)]
  exact laidMet_laidAll _ (by kernel_rfl) (by kernel_rfl)
theorem listed_shaped (os : Os) : (World.laidAll Tryd.prog os listed).Shaped Tryd.prog := World.shaped_of_ZipB (by kernel_rfl) (by kernel_rfl)
theorem slice_t {P : Program} {W : World} {base : Nat} {held : Bool} {H : Type} {enc : TypeId × Value → H} {t e : TypeId} {n : Nat} {v : Value} {x : DataW H × List MemPlace} (ht : P.underlying t = some (.slice e)) (h : DataW.trod enc P W base (fun _ => true) held n t [v] = some x) : v = .slice none 0 0 ∨ ∃ a n c, v = .slice (some a) n c := by
  rcases DataW.trod_slice ht h with ⟨h1, _⟩ | ⟨a, len, cap, _, _, _, _, h1, _⟩
  · exact .inl (by simpa using h1)
  · exact .inr ⟨_, _, _, by simpa using h1⟩
theorem open_grid {H : Type} {enc : TypeId × Value → H} {W : World} {b : Nat} {held : Bool} {v : Value} {d : DataW H} {ps : List MemPlace} (hv : Value.okWide Tryd.prog W .any b 24 v) (h : DataW.Trod enc Tryd.prog W 0 (fun _ => true) held 24 v d ps)
    (hsz : ∀ n ∈ d.weights Tryd.prog 24, n ≤ reachBytes) :
    ∃ (x y : Int) (B : List Bool), VRep (wOld (oldOf W)) (gridV 3 x y B) v ∧ ids 0 v = [] ∧ B.length ≤ reachBytes := by
  obtain ⟨n, a0, a1, a2, y0, y1, y2, rfl, e0, e1, e2, h0, h1, h2, w0, w1, w2⟩ := open_three Tryd.underlying24 rfl rfl rfl (by kernel_rfl) (by kernel_rfl) (by kernel_rfl) (by kernel_rfl) hv h hsz
  obtain ⟨x, k0, _, j0⟩ := DataW.trod_int Tryd.underlying3 h0
  simp only [List.cons.injEq, and_true] at k0
  subst k0
  obtain ⟨y, k1, _, j1⟩ := DataW.trod_int Tryd.underlying3 h1
  simp only [List.cons.injEq, and_true] at k1
  subst k1
  obtain ⟨B, v1, v2, v3⟩ := rd_bools Tryd.underlying22 Tryd.underlying4 (by kernel_rfl) (by rw [show Tryd.prog.bytesOf 4 = 1 by kernel_rfl]; decide) h2 w2
  rw [show Tryd.prog.bytesOf 4 = 1 by kernel_rfl] at v3
  rw [e2] at v1 v2
  refine ⟨x, y, B, ?_, ?_, by omega⟩
  · have hb : VRep (wOld (oldOf W)) (.sl 3 B.length (B.map bD)) a2 := vrep_old bD (v1 []) v2 (slice_t Tryd.underlying22 h2) (fun z _ => by simp only [bD, DRep, scOK, and_self])
    unfold gridV
    rw [VRep]
    refine ⟨[.int .i64 x, .int .i64 y, a2], rfl, ?_⟩
    simp only [VRepL]
    exact ⟨_, _, rfl, .mksc rfl, _, _, rfl, .mksc rfl, _, _, rfl, hb, rfl⟩
  · rw [ids_agg, idsL_cons, idsL_cons, idsL_cons, abs_ids e2 v2 (trod_is_slice Tryd.underlying22 h2)]
    rfl
theorem stand_ins {l : List TypeId} {t : TypeId} (hall : (l.all fun u => !Tryd.prog.wantsStandIn u) = true) (h : t ∈ l) : Tryd.prog.wantsStandIn t = false := by
  have := List.all_eq_true.1 hall t h
  simpa using this
theorem lifts_lifted (os : Os) (started : os.Started) (H : Type) (enc : TypeId × Value → H) :
    ReturnsInHanded {} Tryd.checked os 3 .any (fun w args => (Rows.pegLiftsSpec.pre enc Tryd.prog Tryd.f3 [] false w args ∧ laidMetH Tryd.prog listed w) ∧ sizedMet enc Tryd.prog Tryd.f3 (OpenSpec.ofChange Rows.pegLiftsSpec) false w args)
      (Rows.pegLiftsSpec.post enc Tryd.prog Tryd.f3 false true false false) := by
  refine returnsInHanded_of_change_and (C := Tryd.checked) (X := fun w _ => laidMetH Tryd.prog listed w) (fun _ _ _ hh h => h.of_heap hh) own started (by kernel_rfl) Tryd.func3
    (ChangeSpec.witness_shaped (enc := enc) (C := Tryd.checked) (os := os) (X := fun w _ => laidMetH Tryd.prog listed w) false (World.laidAll Tryd.prog os listed) #[.agg #[.int .i64 0, .int .i64 0, .slice none 0 0]] 8 (World.laidAll_os _ _ _) (listed_shaped os) (by kernel_rfl) (by kernel_rfl) (by kernel_rfl) (listed_met os _)) ?_
  intro W base args ds gs before hval0 hW _ hsz0 hL _
  have hval : ∀ (j : Nat) t v, Tryd.f3.params[j]? = some t → args[j]? = some v → Value.okWide Tryd.prog W .any base t v := hval0
  have hW' := hW
  obtain ⟨p, q, hA0, hV, rfl, hfz, hnd⟩ := hW
  have hA : DataW.TrodAll enc Tryd.prog W 0 (fun _ => true) true Tryd.f3.params.toList args.toList ds p := hA0
  have hsz : (DataW.weightsEach Tryd.prog (Tryd.f3.params.toList ++ Rows.pegLiftsSpec.plain.varTypes Tryd.prog) (ds ++ gs)).all (· ≤ reachBytes) = true := hsz0
  rw [Tryd.params3] at hA hval hsz
  obtain ⟨v0, vs0, d0, ds0, p0, q0, hargs, rfl, rfl, h0, r0⟩ := trodAll_cons hA
  obtain ⟨rfl, rfl, rfl⟩ := trodAll_nil r0
  obtain rfl : args = #[v0] := by cases args; simp_all
  have hr := reach_lt
  obtain ⟨gx, gy, B, ht, hi0, hB⟩ := open_grid (hval 0 24 v0 rfl rfl) h0 (weights_at (j := 0) hsz rfl rfl)
  have hLm : laidMet Tryd.prog listed W := by rw [← MakeChecks.laidMetH_plain _ _ _ (by kernel_rfl)]; exact hL
  have htab : Tab W := laid_tab hLm 2 rfl (g := 2) (t := 136) (e := 119) (k := .u64) (m := 20) (by kernel_rfl) (by kernel_rfl) Tryd.underlying136 Tryd.underlying119 (by kernel_rfl) (by kernel_rfl) rfl
  obtain ⟨s', hbody⟩ := law_v (old := oldOf W) (rounds := many) (fns := fns) (prims := PR W) (n := 8) (af := c3) (xs := [gridV 3 gx gy B]) (xsI := [v0]) (x := .bool true) (Nat.le_of_ble_eq_true rfl)
    (by simp only [VRepL]; exact ⟨_, _, rfl, ht, rfl⟩) fun C hC hn => lifts_g W gx gy B (by omega) hC hn
  have hfn : fns 3 = some c3 := rfl
  have hrv : ids 0 (.bool true) = [] := rfl
  refine (law_of htab (f := 3) (af := c3) hfn (xs := [v0]) (by simp only [idsL_cons, hi0]; rfl) _ hbody hrv).mono fun e W' ⟨he, hbe⟩ => ?_
  exact ⟨_, he, law_post hW' rfl rfl (by kernel_rfl) (by kernel_rfl) Tryd.underlying4 hbe⟩
theorem lifts_over : Rows.PegLiftsSaid :=
  OpenClaim.holds_of_wide 3 Tryd.f3 rfl rfl rfl rfl rfl rfl rfl ⟨rfl, rfl, rfl, rfl, rfl⟩ rfl rfl rfl rfl rfl (by kernel_rfl) Tryd.func3 (by kernel_rfl)
    (of_decide_eq_true (by kernel_rfl)) (by unfold Func.isWrapper; first | (rw [if_pos (by decide +kernel)]; kernel_rfl) | (rw [if_neg (by decide +kernel)]; exact ⟨rfl, rfl⟩))
    (fun os started H enc _ => lifts_lifted os started H enc)
theorem lifts_holds : Rows.PegLiftsCardSaid :=
  Claim7.holds_tied_plain_at .later [] [.data, .data, .data] true _ true
    lifts_over (fun _ h => by cases h) (by kernel_rfl) (fun _ h => by cases h) pegLifts_row_tie rfl ⟨rfl, rfl⟩ (by kernel_rfl) rfl
    (fun f fn hf hfn => by
      obtain rfl : f = 3 := Option.some.inj ((show Tryd.prog.funcNamed "raddle/raddlelaw18.PegLifts" = some 3 by kernel_rfl).symm.trans hf) |>.symm
      obtain rfl : fn = Tryd.f3 := (Option.some.inj (Tryd.func3.symm.trans hfn)).symm
      exact ⟨by kernel_rfl, fun j t ht => stand_ins (l := [24]) (by kernel_rfl) (by rw [Tryd.params3] at ht; simpa using Array.mem_of_getElem? ht)⟩)
    (by kernel_rfl)
#print axioms lifts_holds
end Go.Proofs.YtepdkmdcainddaaDoor
